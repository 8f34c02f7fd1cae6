import PyProof.Rows.All
import Wide.All
import OpenK.AllK
import Wide.FinOn
import HandS.WideBits
import HandS.ForMost
import HandS.ForExc
import HandS.IsInst
import HandS.Flow
import HandS.Deep
import HandS.Wide
import HandS.SortKw
import HandS.TupAny
import HandS.TupMul
import HandS.Zip
import KE.DataEq
import KE.DataCmp
import KE.DataIsa
import KE.DataAny
import KE.SortData
import KE.LtData
import HandS.Strs
import HandS.Replace
import HandS.EndBits
import HandS.Conv
import KE.GoesEnum
import PyProof.StrLawsIn
import PySem.Challenge.RW_oncefolded_k30_forms_of_grammars
set_option Elab.async false
set_option linter.all false
set_option maxRecDepth 100000
namespace Z
open PySem PySem.Spec L2

abbrev D := PyData

/-! ### heaps as partial maps -/
def Le (F H : Hp) : Prop := ∀ a o, F a = some o → H a = some o
theorem Le.refl (H : Hp) : Le H H := fun _ _ h => h
theorem Le.trans {F G H : Hp} (a : Le F G) (b : Le G H) : Le F H := fun x o h => b x o (a x o h)
theorem Le.new {H : Hp} {p : Addr} {o : HO} (h : H p = none) : Le H (upd H p o) := fun a u e => by
  rw [upd_ne (ne_of_none e h)]; exact e
theorem Le.none {F H : Hp} (l : Le F H) {a : Addr} (h : H a = none) : F a = none := by
  cases q : F a with
  | none => rfl
  | some o => rw [l a o q] at h; cases h

/-! ### data -/
/-- a tuple that is read: its object has no dict of its own -/
def tupMix (xs : List V) : Bool := xs.any fun v => match v with | .str _ => false | _ => true
def Tp (K : PySem.W.Frag) (F : Hp) (a : Addr) (xs : List V) : Prop := (∃ o, o.dict = none ∧ F a = some (.frz o (.tup xs))) ∨ (F a = some (.tup xs) ∧ tupMix xs = true) ∨
  ∃ (o : Obj) (its : Array Value) (n : Nat), K.lookup a = some o ∧ o.cls = .type "tuple" ∧ o.dict = none ∧ o.data = .seq its n ∧ its.size ≤ sizeLine ∧ Vals xs its.toList
theorem Tp.mono {K : PySem.W.Frag} {F F' : Hp} {a : Addr} {xs : List V} (e : Le F F') (h : Tp K F a xs) : Tp K F' a xs := by
  rcases h with ⟨o, h1, h2⟩ | ⟨h1, h2⟩ | h
  · exact .inl ⟨o, h1, e _ _ h2⟩
  · exact .inr (.inl ⟨e _ _ h1, h2⟩)
  · exact .inr (.inr h)
theorem Tp.sq {K : PySem.W.Frag} {F : Hp} {a : Addr} {xs : List V} (h : Tp K F a xs) : SqT K F a xs := by
  rcases h with ⟨o, h1, h2⟩ | ⟨h1, h2⟩ | ⟨o, its, n, h1, h2, h3, h4, h5, h6⟩
  · exact .inl (.inr ⟨o, h2⟩)
  · exact .inl (.inl h1)
  · exact .inr ⟨o, its, n, h1, h2, h4, h5, h6⟩
mutual
inductive Rep (K : PySem.W.Frag) (F : Hp) : V → D → Prop
  | non : Rep K F .non .none
  | bl (b : Bool) : Rep K F (.bl b) (.bool b)
  | int (i : Int) : Rep K F (.int i) (.int i)
  | str (x : Str) : Rep K F (.str x) (.str x)
  | lst {a : Addr} {xs : List V} {ds : List D} : F a = some (.lst xs) ∧ xs.length ≤ sizeLine → Reps K F xs ds → Rep K F (.ref a) (.list ds)
  | tup {a : Addr} {xs : List V} {ds : List D} : Tp K F a xs ∧ xs.length ≤ sizeLine → Reps K F xs ds → Rep K F (.ref a) (.tuple ds)
inductive Reps (K : PySem.W.Frag) (F : Hp) : List V → List D → Prop
  | nil : Reps K F [] []
  | cons {v : V} {vs : List V} {d : D} {ds : List D} : Rep K F v d → Reps K F vs ds → Reps K F (v :: vs) (d :: ds)
end

section
variable {K : PySem.W.Frag} {F F' H : Hp}
theorem le_rd {a : Addr} {u : HO} (e : Le F F') (h : Rd F a u) : Rd F' a u := by
  rcases h with h | ⟨o, h⟩
  · exact Or.inl (e a _ h)
  · exact Or.inr ⟨o, e a _ h⟩
theorem le_l {a : Addr} {xs : List V} (e : Le F F') (h : SqL K F a xs) : SqL K F' a xs := by
  rcases h with h | h
  · exact Or.inl (le_rd e h)
  · exact Or.inr h
theorem le_t {a : Addr} {xs : List V} (e : Le F F') (h : SqT K F a xs) : SqT K F' a xs := by
  rcases h with h | h
  · exact Or.inl (le_rd e h)
  · exact Or.inr h
mutual
theorem Rep.mono (e : Le F F') : ∀ {d : D} {v : V}, Rep K F v d → Rep K F' v d
  | _, _, .non => .non
  | _, _, .bl b => .bl b
  | _, _, .int i => .int i
  | _, _, .str x => .str x
  | _, _, .lst h r => .lst ⟨e _ _ h.1, h.2⟩ (Reps.mono e r)
  | _, _, .tup h r => .tup ⟨h.1.mono e, h.2⟩ (Reps.mono e r)
theorem Reps.mono (e : Le F F') : ∀ {ds : List D} {vs : List V}, Reps K F vs ds → Reps K F' vs ds
  | _, _, .nil => .nil
  | _, _, .cons h r => .cons (Rep.mono e h) (Reps.mono e r)
end
theorem Reps.length : ∀ {vs : List V} {ds : List D}, Reps K F vs ds → vs.length = ds.length
  | _, _, .nil => rfl
  | _, _, .cons _ r => congrArg (· + 1) (Reps.length r)
theorem Reps.get : ∀ {vs : List V} {ds : List D} {i : Nat} {d : D}, Reps K F vs ds → ds[i]? = some d → ∃ v, vs[i]? = some v ∧ Rep K F v d
  | _, _, _, _, .nil, e => by simp at e
  | _, _, 0, _, .cons r _, e => by simp at e; subst e; exact ⟨_, rfl, r⟩
  | _, _, i + 1, _, .cons _ t, e => by
    obtain ⟨v, h1, h2⟩ := Reps.get (i := i) t (by simpa using e)
    exact ⟨v, by simpa using h1, h2⟩
theorem Reps.getV : ∀ {vs : List V} {ds : List D} {i : Nat} {v : V}, Reps K F vs ds → vs[i]? = some v → ∃ d, ds[i]? = some d ∧ Rep K F v d
  | _, _, _, _, .nil, e => by simp at e
  | _, _, 0, _, .cons r _, e => by simp at e; subst e; exact ⟨_, rfl, r⟩
  | _, _, i + 1, _, .cons _ t, e => by
    obtain ⟨v, h1, h2⟩ := Reps.getV (i := i) t (by simpa using e)
    exact ⟨v, by simpa using h1, h2⟩
theorem Reps.append : ∀ {vs ws : List V} {ds es : List D}, Reps K F vs ds → Reps K F ws es → Reps K F (vs ++ ws) (ds ++ es)
  | _, _, _, _, .nil, s => s
  | _, _, _, _, .cons r t, s => .cons r (Reps.append t s)
theorem Reps.snoc {vs : List V} {ds : List D} {v : V} {d : D} (r : Reps K F vs ds) (h : Rep K F v d) : Reps K F (vs ++ [v]) (ds ++ [d]) := r.append (.cons h .nil)
theorem Reps.take : ∀ {vs : List V} {ds : List D} (n : Nat), Reps K F vs ds → Reps K F (vs.take n) (ds.take n)
  | _, _, 0, _ => by simp; exact .nil
  | _, _, _ + 1, .nil => .nil
  | _, _, n + 1, .cons r t => .cons r (Reps.take n t)
theorem Reps.drop : ∀ {vs : List V} {ds : List D} (n : Nat), Reps K F vs ds → Reps K F (vs.drop n) (ds.drop n)
  | _, _, 0, r => r
  | _, _, _ + 1, .nil => .nil
  | _, _, n + 1, .cons _ t => Reps.drop n t
theorem Reps.set : ∀ {vs : List V} {ds : List D} {v : V} {d : D} (n : Nat), Reps K F vs ds → Rep K F v d → Reps K F (vs.set n v) (ds.set n d)
  | _, _, _, _, _, .nil, _ => .nil
  | _, _, _, _, 0, .cons _ t, h => .cons h t
  | _, _, _, _, n + 1, .cons r t, h => .cons r (Reps.set n t h)
theorem Reps.reverse : ∀ {vs : List V} {ds : List D}, Reps K F vs ds → Reps K F vs.reverse ds.reverse
  | _, _, .nil => .nil
  | _, _, .cons r t => by rw [List.reverse_cons, List.reverse_cons]; exact (Reps.reverse t).snoc r

/-! no dicts inside: to the kit's own relation -/
mutual
theorem Rep.dp : ∀ {d : D} {v : V}, Rep K F v d → Dp K F v d
  | _, _, .non => .non
  | _, _, .bl b => .bl b
  | _, _, .int i => .int i
  | _, _, .str x => .str x
  | _, _, .lst h r => .lst (.of h.1) (Reps.dp r)
  | _, _, .tup h r => .tup h.1.sq (Reps.dp r)
theorem Reps.dp : ∀ {ds : List D} {vs : List V}, Reps K F vs ds → DpAll K F vs ds
  | _, _, .nil => .nil
  | _, _, .cons h r => .cons (Rep.dp h) (Reps.dp r)
end
mutual
theorem Rep.plain : ∀ {d : D} {v : V}, Rep K F v d → d.plain = true
  | _, _, .non => rfl
  | _, _, .bl b => rfl
  | _, _, .int i => rfl
  | _, _, .str x => rfl
  | _, _, .lst h r => by show PyData.plainAll _ = true; exact Reps.plain r
  | _, _, .tup h r => by show PyData.plainAll _ = true; exact Reps.plain r
theorem Reps.plain : ∀ {ds : List D} {vs : List V}, Reps K F vs ds → PyData.plainAll ds = true
  | _, _, .nil => rfl
  | _, _, .cons h r => by
    show (PyData.plain _ && PyData.plainAll _) = true
    rw [Rep.plain h, Reps.plain r]; rfl
end
end

/-! ### growth -/
structure Grow (F H F' H' : Hp) : Prop where
  f : Le F F'
  h : Le H H'
  s : Le F' H'
  n : ∀ a, F' a ≠ none → F a ≠ none ∨ H a = none
theorem Grow.refl {F H : Hp} (s : Le F H) : Grow F H F H := ⟨Le.refl _, Le.refl _, s, fun _ h => .inl h⟩
theorem Grow.trans {F H F1 H1 F2 H2 : Hp} (a : Grow F H F1 H1) (b : Grow F1 H1 F2 H2) : Grow F H F2 H2 :=
  ⟨a.f.trans b.f, a.h.trans b.h, b.s, fun x hx => by
    rcases b.n x hx with h | h
    · exact a.n x h
    · exact .inr (a.h.none h)⟩
/-- a new frozen object -/
theorem Grow.new {F H : Hp} {p : Addr} {o : HO} (s : Le F H) (h : H p = none) : Grow F H (upd F p o) (upd H p o) :=
  ⟨Le.new (s.none h), Le.new h, fun a u e => by
    by_cases q : a = p
    · subst q; rw [upd_same] at e ⊢; exact e
    · rw [upd_ne q] at e ⊢; exact s a u e, fun a ha => by
    by_cases q : a = p
    · subst q; exact .inr h
    · rw [upd_ne q] at ha; exact .inl ha⟩

/-! ### what the slots hold -/
inductive Sh | l
inductive Ent
  | no
  | fz (x : D)
  | ow (s : Sh) (v : Option V) (x : D)
  | sc (ns : List Int)
inductive Tree (K : PySem.W.Frag) (F H : Hp) : Sh → V → D → List Addr → Prop
  | l {a : Addr} {vs : List V} {xs : List D} : H a = some (.lst vs) ∧ vs.length ≤ sizeLine → Reps K F vs xs → Tree K F H .l (.ref a) (.list xs) [a]
theorem Tree.frame {K : PySem.W.Frag} {F H F' H' : Hp} {s : Sh} {v : V} {x : D} {fp : List Addr} (t : Tree K F H s v x fp) (f : Le F F') (h : ∀ a ∈ fp, H' a = H a) : Tree K F' H' s v x fp := by
  cases t with
  | l e r => exact .l ⟨(h _ (by simp)).trans e.1, e.2⟩ (r.mono f)
def EntOk (K : PySem.W.Frag) (F H : Hp) (o : Option (Option V)) (fp : List Addr) : Ent → Prop
  | .no => True
  | .fz x => ∃ v, o = some (some v) ∧ Rep K F v x
  | .ow s w x => ∃ v, o = some (some v) ∧ (∀ u, w = some u → u = v) ∧ Tree K F H s v x fp
  | .sc ns => ∃ a, o = some (some (.ref a)) ∧ SqL K F a (ns.map V.int)
structure Fps (F O : Hp) (fp : Nat → List Addr) : Prop where
  nd : ∀ i, (fp i).Nodup
  f : ∀ i a, a ∈ fp i → F a = none ∧ O a = none
  ap : ∀ i j a, a ∈ fp i → a ∈ fp j → i = j
structure At (K : PySem.W.Frag) (F O : Hp) (σ : St) (H : Hp) (Γ : List Ent) : Prop where
  sub : Le F H
  out : Le O H
  fo : ∀ a, F a ≠ none → O a = none
  len : Γ.length = σ.length
  ents : ∃ fp : Nat → List Addr, Fps F O fp ∧ ∀ i e, Γ[i]? = some e → EntOk K F H σ[i]? (fp i) e

section
variable {K : PySem.W.Frag} {F O H F' H' : Hp} {σ : St} {Γ : List Ent}
theorem EntOk.frame {o : Option (Option V)} {fp : List Addr} {e : Ent} (h : EntOk K F H o fp e) (f : Le F F') (k : ∀ a ∈ fp, H' a = H a) : EntOk K F' H' o fp e := by
  cases e with
  | no => trivial
  | fz x => obtain ⟨v, e, r⟩ := h; exact ⟨v, e, r.mono f⟩
  | ow s w x => obtain ⟨v, e, q, t⟩ := h; exact ⟨v, e, q, t.frame f k⟩
  | sc ns => obtain ⟨a, e, q⟩ := h; exact ⟨a, e, le_l f q⟩
theorem Tree.there {s : Sh} {v : V} {x : D} {fp : List Addr} (t : Tree K F H s v x fp) : ∀ a ∈ fp, H a ≠ none := by
  cases t with
  | l e r => intro a ha; simp at ha; subst ha; rw [e.1]; simp
/-- the frozen part and the heap grow -/
theorem At.grow (h : At K F O σ H Γ) (g : Grow F H F' H') : At K F' O σ H' Γ := by
  obtain ⟨fp, d, e⟩ := h.ents
  refine ⟨g.s, h.out.trans g.h, fun a ha => ?_, h.len, fun i => match Γ[i]? with | some (.ow _ _ _) => fp i | _ => [], ⟨fun i => ?_, fun i a ha => ?_, fun i j a ha hb => ?_⟩, fun i e1 he => ?_⟩
  · rcases g.n a ha with q | q
    · exact h.fo a q
    · exact h.out.none q
  · split
    · exact d.nd i
    · exact List.nodup_nil
  · split at ha
    · rename_i s w x hi
      obtain ⟨v, q1, q2, t⟩ := e i _ hi
      refine ⟨?_, (d.f i a ha).2⟩
      cases q : F' a with
      | none => rfl
      | some u =>
        rcases g.n a (by rw [q]; simp) with z | z
        · exact absurd (d.f i a ha).1 z
        · exact absurd z (t.there a ha)
    · cases ha
  · split at ha
    · split at hb
      · exact d.ap i j a ha hb
      · cases hb
    · cases ha
  · have q := e i e1 he
    cases e1 with
    | no => trivial
    | fz x => obtain ⟨v, q1, r⟩ := q; exact ⟨v, q1, r.mono g.f⟩
    | sc ns => obtain ⟨a, q1, r⟩ := q; exact ⟨a, q1, le_l g.f r⟩
    | ow s w x =>
      obtain ⟨v, q1, q2, t⟩ := q
      simp only [he]
      exact ⟨v, q1, q2, t.frame g.f fun a ha => by
        cases z : H a with
        | none => exact absurd z (t.there a ha)
        | some u => exact g.h a u z⟩
/-- a slot that is read -/
theorem At.fz (h : At K F O σ H Γ) {i : Nat} {x : D} (e : Γ[i]? = some (.fz x)) : ∃ v, σ[i]? = some (some v) ∧ Rep K F v x := by
  obtain ⟨fp, d, q⟩ := h.ents
  exact q i _ e
/-- a slot that is stored, frozen -/
theorem At.set (h : At K F O σ H Γ) {i : Nat} {v : V} {x : D} (r : Rep K F v x) : At K F O (σ.set i (some v)) H (Γ.set i (.fz x)) := by
  obtain ⟨fp, d, e⟩ := h.ents
  refine ⟨h.sub, h.out, h.fo, by simp [h.len], fp, d, fun j e1 he => ?_⟩
  by_cases q : j = i
  · subst q
    have hj : j < Γ.length := by
      have := (List.getElem?_eq_some_iff.mp he).1
      simpa using this
    rw [List.getElem?_set_self hj] at he
    cases he
    exact ⟨v, by rw [List.getElem?_set_self (by rw [← h.len]; exact hj)], r⟩
  · rw [List.getElem?_set_ne (Ne.symm q)] at he ⊢
    exact e j e1 he
/-- a slot that is stored, and nothing is known -/
theorem At.junk (h : At K F O σ H Γ) {i : Nat} {v : Option V} : At K F O (σ.set i v) H (Γ.set i .no) := by
  obtain ⟨fp, d, e⟩ := h.ents
  refine ⟨h.sub, h.out, h.fo, by simp [h.len], fp, d, fun j e1 he => ?_⟩
  by_cases q : j = i
  · subst q
    have hj : j < Γ.length := by
      have := (List.getElem?_eq_some_iff.mp he).1
      simpa using this
    rw [List.getElem?_set_self hj] at he
    cases he
    trivial
  · rw [List.getElem?_set_ne (Ne.symm q)] at he ⊢
    exact e j e1 he
/-- forgetting -/
inductive Weak : List Ent → List Ent → Prop
  | nil : Weak [] []
  | same {e : Ent} {Γ Δ : List Ent} : Weak Γ Δ → Weak (e :: Γ) (e :: Δ)
  | no {e : Ent} {Γ Δ : List Ent} : Weak Γ Δ → Weak (e :: Γ) (.no :: Δ)
theorem Weak.refl : ∀ Γ, Weak Γ Γ
  | [] => .nil
  | _ :: Γ => .same (Weak.refl Γ)
theorem Weak.len : ∀ {Γ Δ}, Weak Γ Δ → Γ.length = Δ.length
  | _, _, .nil => rfl
  | _, _, .same h => congrArg (· + 1) h.len
  | _, _, .no h => congrArg (· + 1) h.len
theorem Weak.get : ∀ {Γ Δ : List Ent} {i : Nat} {e : Ent}, Weak Γ Δ → Δ[i]? = some e → Γ[i]? = some e ∨ e = .no
  | _, _, _, _, .nil, h => by simp at h
  | _, _, 0, _, .same _, h => .inl (by simpa using h)
  | _, _, 0, _, .no _, h => .inr (by simpa using h.symm)
  | _, _, i + 1, _, .same w, h => by simpa using w.get (i := i) (by simpa using h)
  | _, _, i + 1, _, .no w, h => by simpa using w.get (i := i) (by simpa using h)
theorem At.weak {Δ : List Ent} (h : At K F O σ H Γ) (w : Weak Γ Δ) : At K F O σ H Δ := by
  obtain ⟨fp, d, e⟩ := h.ents
  refine ⟨h.sub, h.out, h.fo, by rw [← w.len]; exact h.len, fp, d, fun j e1 he => ?_⟩
  rcases w.get he with q | q
  · exact e j e1 q
  · subst q; trivial
end
end Z
namespace Z
open PySem PySem.Spec L2 PyProof.Rows
/-! ## tuples that are made: the object is known to have no dict -/
section
variable {X : Cx}
theorem tupF_ok {P : Program} {w : World} {H : Hp} {h : Heap} {xs : List V} {tv : List Value} (z : xs.length ≤ sizeLine) (r : Vals xs tv) : ObjOk P w H (h.push { cls := .type "tuple", data := .seq tv.toArray }) h.objs.size (.frz { cls := .type "tuple", data := .seq tv.toArray } (.tup xs)) :=
  ⟨Heap.get?_push_size _ rfl, z, tv, r, IsTup.new _ _⟩
def tTupF (t : TA) : TE := fun σ H Qv => t σ H fun xs H1 => xs.length ≤ sizeLine ∧ ∀ (o : Obj) p, o.dict = none → H1 p = none → Qv (.ref p) (upd H1 p (.frz o (.tup xs)))
theorem pe_tupF {es : List Expr} {t : TA} {pos : Pos} {x1} (h : PA X es t) : PE X (.Tuple es x1 pos) (tTupF t) := by
  refine ⟨fun pns s σ H Qv I hsq => ?_⟩
  refine wpAny_Tuple_spliced (thn (h.run pos pns s σ H _ I hsq) fun uv s1 ⟨xs, H1, I1, r, z, q⟩ => ⟨by rw [← r.length]; exact z, ?_⟩)
  have hf : H1 s1.heap.objs.size = none := I1.hok.fresh (Nat.le_refl _)
  exact ⟨.ref s1.heap.objs.size, upd H1 s1.heap.objs.size (.frz { cls := .type "tuple", data := .seq uv.toArray } (.tup xs)), I1.laid (t' := s1.toks) (fun b u e => Heap.get?_push_of_some _ e) (Nat.le_refl _) (tupF_ok z r), rfl, q _ _ rfl hf⟩
theorem call_tupleF : CallR X (.type "tuple") (fun xs H Qv => ∃ p ys, xs = [.ref p] ∧ ((SqL X.K H p ys ∧ ∀ (o : Obj) l, o.dict = none → H l = none → Qv (.ref l) (upd H l (.frz o (.tup ys)))) ∨ (SqT X.K H p ys ∧ Qv (.ref p) H))) := by
  intro pns s σ H xs uv Qv I r h
  obtain ⟨p, ys, rfl, h⟩ := h
  obtain ⟨u, rfl, rx⟩ := vals1 r
  cases rx
  rcases h with ⟨hsq, q⟩ | ⟨hsq, q⟩
  · obtain ⟨tv, r', plo, hsz⟩ := I.list hsq
    have hle := r'.length
    refine call_tuple_list plo.isList (fun h' kp => ?_) (by simp only [List.size_toArray] <;> omega)
    have I1 : Inv X pns σ H { s with heap := h' } := I.kept (t' := s.toks) kp
    have I2 : Inv X pns σ (upd H h'.objs.size (.frz { cls := .type "tuple", data := .seq tv.toArray } (.tup ys))) { s with heap := h'.push { cls := .type "tuple", data := .seq tv.toArray } } :=
      I1.laid (t' := s.toks) (fun b o e => Heap.get?_push_of_some _ e) (Nat.le_refl _) (tupF_ok hsz r')
    exact ⟨.ref h'.objs.size, _, I2, rfl, q _ _ rfl (I1.hok.fresh (Nat.le_refl _))⟩
  · obtain ⟨tv, r', plo, hsz⟩ := I.tuple hsq
    exact call_tuple_same plo ⟨.ref p, H, I, rfl, q⟩
def rCatF (K : PySem.W.Frag) : R2 := fun x y H Qv => ∃ a b xs ys, x = .ref a ∧ y = .ref b ∧ SqT K H a xs ∧ SqT K H b ys ∧ xs.length + ys.length ≤ sizeLine ∧
  (xs = [] → Qv (.ref b) H) ∧ (xs ≠ [] → ys = [] → Qv (.ref a) H) ∧ (xs ≠ [] → ys ≠ [] → ∀ (o : Obj) p, o.dict = none → H p = none → Qv (.ref p) (upd H p (.frz o (.tup (xs ++ ys)))))
theorem op_catF : OpR X (binaryOp .Add) (rCatF X.K) := by
  intro pns s σ H x y v u Qv I rx ry h
  obtain ⟨a, b, xs, ys, rfl, rfl, ha, hb, hsz, qe, q1, q2⟩ := h
  cases rx
  cases ry
  obtain ⟨tv, r1, p1, _⟩ := I.tuple ha
  obtain ⟨its2, r2, p2, _⟩ := I.tuple hb
  by_cases hx : xs = []
  · subst hx
    cases r1
    exact cat_tup0 p1 p2 ⟨.ref b, H, I, rfl, qe rfl⟩
  · refine HT.cat_tup p1 p2 (fun z => hx (r1.nil_iff.mp z)) (fun z => ⟨.ref a, H, I, rfl, q1 hx (r2.nil_iff.mp z)⟩) (fun z => ?_) (by rw [← r1.length, ← r2.length]; exact hsz)
    exact ⟨.ref s.heap.objs.size, _, I.laid (t' := s.toks) (fun b ob q => Heap.get?_push_of_some _ q) (Nat.le_refl _) (tupF_ok (by rw [List.length_append]; exact hsz) (r1.append r2)), rfl, q2 hx (fun w => z (r2.nil_iff.mpr w)) _ _ rfl (I.hok.fresh (Nat.le_refl _))⟩
def rSlF (K : PySem.W.Frag) : V → Option Int → Option Int → Hp → VK → Prop := fun x lo hi H Qv => ∃ a xs, x = .ref a ∧ SqT K H a xs ∧
  (HT.sIx xs.length 0 lo = 0 ∧ HT.sIx xs.length xs.length hi = xs.length → Qv (.ref a) H) ∧ (¬ (HT.sIx xs.length 0 lo = 0 ∧ HT.sIx xs.length xs.length hi = xs.length) → ∀ (o : Obj) p, o.dict = none → H p = none → Qv (.ref p) (upd H p (.frz o (.tup (cutV xs lo hi)))))
theorem sl_tupF : SlR X (rSlF X.K) := by
  intro pns s σ H x v vl vu lo hi sl Qv I rx hs plo pu h
  obtain ⟨a, xs, rfl, hx, q1, q2⟩ := h
  cases rx
  obtain ⟨tv, r, htp, hsz⟩ := I.tuple hx
  have hle : tv.toArray.size = xs.length := by rw [List.size_toArray]; exact r.length.symm
  refine ⟨"tuple", _, PyProof.Rows.slot_tuple_getitem.lookup, htp.typeIs, ?_⟩
  by_cases hwh : HT.sIx xs.length 0 lo = 0 ∧ HT.sIx xs.length xs.length hi = xs.length
  · exact getItem_tuple_whole htp hs plo pu (by rw [hle]; exact hwh) ⟨.ref a, H, I, rfl, q1 hwh⟩
  · refine HT.getItem_tuple_cut htp hs plo pu (by rw [hle]; exact hwh) ?_ (by rw [hle]; exact hsz)
    rw [hle]
    exact ⟨.ref s.heap.objs.size, _, I.laid (t' := s.toks) (fun b ob q => Heap.get?_push_of_some _ q) (Nat.le_refl _) (tupF_ok (Nat.le_trans (cutV_length xs lo hi) hsz) ((r.drop (HT.sIx xs.length 0 lo)).take (HT.sIx xs.length xs.length hi - HT.sIx xs.length 0 lo))), rfl, q2 hwh _ _ rfl (I.hok.fresh (Nat.le_refl _))⟩
end
end Z
namespace Z
open PySem PySem.Spec L2

/-! ## what is reckoned on data; none where nothing is known -/
/-- a text of the program -/
abbrev S (s : String) : D := .str (Str.ofString s)
def pAdd : D → D → Option D
  | .int i, .int j => some (.int (i + j))
  | .str x, .str y => if x.length + y.length ≤ sizeLine then some (.str (x ++ y)) else none
  | .tuple xs, .tuple ys => if xs.length + ys.length ≤ sizeLine then some (.tuple (xs ++ ys)) else none
  | .list xs, .list ys => if xs.length + ys.length ≤ sizeLine then some (.list (xs ++ ys)) else none
  | _, _ => none
def pSub : D → D → Option D
  | .int i, .int j => some (.int (i - j))
  | _, _ => none
instance (i j : Int) : Decidable (CMulX i j) := inferInstanceAs (Decidable (_ ≤ (134217728 : Int)))
instance (i j : Int) : Decidable (CDivW i j) := inferInstanceAs (Decidable (_ ∧ _))
instance (i j : Int) : Decidable (CPow i j) := inferInstanceAs (Decidable (_ ∧ _))
def pMul : D → D → Option D
  | .int i, .int j => if CMulX i j then some (.int (i * j)) else none
  | _, _ => none
def pFdiv : D → D → Option D
  | .int i, .int j => if CDivW i j then some (.int (i / j)) else none
  | _, _ => none
def pMod : D → D → Option D
  | .int i, .int j => if 0 < j then some (.int (i % j)) else none
  | _, _ => none
def pPow : D → D → Option D
  | .int i, .int j => if CPow i j then some (.int (i ^ j.toNat)) else none
  | _, _ => none
def pNeg : D → Option D
  | .int i => some (.int (-i))
  | _ => none
/-- how deep the two are asked -/
def dOk (x y : D) : Bool := decide (min x.depth y.depth ≤ 100)
def pEq (x y : D) : Option D := if dOk x y = true then some (.bool (PyData.eqv x y)) else none
def pNe (x y : D) : Option D := if dOk x y = true then some (.bool (!PyData.eqv x y)) else none
def notNone : D → Bool
  | .none => false
  | _ => true
def ltOk (x y : D) : Bool := PySem.W.alike x y && notNone x && dOk x y
def pLt (x y : D) : Option D := if ltOk x y = true then some (.bool (PySem.W.dataLt x y)) else none
def pGt (x y : D) : Option D := if ltOk x y = true then some (.bool (PySem.W.dataLt y x)) else none
def pLe (x y : D) : Option D := if ltOk x y = true then some (.bool (!PySem.W.dataLt y x)) else none
def pGe (x y : D) : Option D := if ltOk x y = true then some (.bool (!PySem.W.dataLt x y)) else none
/-- a text within a text -/
def inStr (i j : Str) : Bool := !(Builtin.Str.occurrences j i 0 j.length 1).isEmpty
def pIn : D → D → Option D
  | x, .list xs => if dOk x (.list xs) = true then some (.bool (xs.any fun z => PyData.eqv z x)) else none
  | x, .tuple xs => if dOk x (.tuple xs) = true then some (.bool (xs.any fun z => PyData.eqv z x)) else none
  | .str i, .str j => some (.bool (inStr i j))
  | _, _ => none
def pNotIn : D → D → Option D
  | x, .list xs => if dOk x (.list xs) = true then some (.bool (!xs.any fun z => PyData.eqv z x)) else none
  | x, .tuple xs => if dOk x (.tuple xs) = true then some (.bool (!xs.any fun z => PyData.eqv z x)) else none
  | .str i, .str j => some (.bool (!inStr i j))
  | _, _ => none
/-- x is None, x is True, x is False -/
def isB (x : D) : D → Option Bool
  | .none => some (match x with | .none => true | _ => false)
  | .bool b => some (match x with | .bool c => b == c | _ => false)
  | _ => none
def pIs (x y : D) : Option D := (isB x y).map .bool
def pIsNot (x y : D) : Option D := (isB x y).map fun b => .bool (!b)
def pIdx : D → D → Option D
  | .list xs, .int i => atI xs i
  | .tuple xs, .int i => atI xs i
  | .str z, .int i => if z.length ≤ sizeLine then (atI z.cps.toList i).map fun c => .str ⟨#[c]⟩ else none
  | _, _ => none
def pOpt : D → Option (Option Int)
  | .int i => some (some i)
  | _ => none
def cutD (xs : List D) (lo hi : Option Int) : List D := (xs.drop (HT.sIx xs.length 0 lo)).take (HT.sIx xs.length xs.length hi - HT.sIx xs.length 0 lo)
def pSl (x : D) (lo hi : Option Int) : Option D :=
  match x with
  | .list xs => some (.list (cutD xs lo hi))
  | .tuple xs => some (.tuple (cutD xs lo hi))
  | .str z => if z.length ≤ sizeLine then some (.str (cutS z lo hi)) else none
  | _ => none
def pTru : D → Option Bool
  | .none => some false
  | .bool b => some b
  | .int n => some (n != 0)
  | .str x => if x.length ≤ sizeLine then some ((x.length : Int) != 0) else none
  | .list xs => some (!xs.isEmpty)
  | .tuple xs => some (!xs.isEmpty)
  | .dict _ => none
def pNot (x : D) : Option D := (pTru x).map fun b => .bool (!b)

/-! ## and their laws over the kit's rules, by values -/
section
variable {K : PySem.W.Frag}
/-- a two-place operation's reading serves g -/
def RS2 (K : PySem.W.Frag) (r : R2) (g : D → D → Option D) : Prop := ∀ (F H : Hp) (v u : V) (x y z : D) (Q : VK), Le F H → Rep K F v x → Rep K F u y → g x y = some z →
  (∀ w F' H', Grow F H F' H' → Rep K F' w z → Q w H') → r v u H Q
def RS1 (K : PySem.W.Frag) (r : V → Hp → VK → Prop) (g : D → Option D) : Prop := ∀ (F H : Hp) (v : V) (x z : D) (Q : VK), Le F H → Rep K F v x → g x = some z →
  (∀ w F' H', Grow F H F' H' → Rep K F' w z → Q w H') → r v H Q
theorem opr_or {X : Cx} {f : Value → Value → Sem Value} {r r' : R2} (h : OpR X f r) (h' : OpR X f r') : OpR X f (fun x y H Q => r x y H Q ∨ r' x y H Q) := by
  intro pins s σ H x y v u Q I rx ry q
  rcases q with q | q
  · exact h pins s σ H x y v u Q I rx ry q
  · exact h' pins s σ H x y v u Q I rx ry q
theorem grow_tup {F H : Hp} {p : Addr} {xs : List V} {ds : List D} {o : Obj} (ho : o.dict = none) (s : Le F H) (h : H p = none) (z : xs.length ≤ sizeLine) (r : Reps K F xs ds) : Grow F H (upd F p (.frz o (.tup xs))) (upd H p (.frz o (.tup xs))) ∧ Rep K (upd F p (.frz o (.tup xs))) (.ref p) (.tuple ds) :=
  ⟨Grow.new s h, .tup ⟨.inl ⟨o, ho, upd_same⟩, z⟩ (r.mono (Le.new (s.none h)))⟩
theorem grow_lst {F H : Hp} {p : Addr} {xs : List V} {ds : List D} (s : Le F H) (h : H p = none) (z : xs.length ≤ sizeLine) (r : Reps K F xs ds) : Grow F H (upd F p (.lst xs)) (upd H p (.lst xs)) ∧ Rep K (upd F p (.lst xs)) (.ref p) (.list ds) :=
  ⟨Grow.new s h, .lst ⟨upd_same, z⟩ (r.mono (Le.new (s.none h)))⟩


/-! ### + and the numbers -/
def rAdd (K : PySem.W.Frag) : R2 := fun x y H Q => (∃ i j, x = .int i ∧ y = .int j ∧ Q (.int (i + j)) H) ∨ (∃ i j, x = .str i ∧ y = .str j ∧ i.length + j.length ≤ sizeLine ∧ Q (.str (i ++ j)) H) ∨ rCatF K x y H Q ∨
  rCat x y H Q
theorem op_addD {X : Cx} : OpR X (binaryOp .Add) (rAdd X.K) := opr_or op_add (opr_or op_add_str (opr_or op_catF op_cat))
theorem rs_add : RS2 K (rAdd K) pAdd := by
  intro F H v u x y z Q s rx ry e q
  cases rx with
  | int i =>
    cases ry with
    | int j => simp only [pAdd, Option.some.injEq] at e; subst e; exact .inl ⟨i, j, rfl, rfl, q _ F H (Grow.refl s) (.int _)⟩
    | _ => simp [pAdd] at e
  | str i =>
    cases ry with
    | str j =>
      simp only [pAdd] at e
      split at e
      · rename_i hz
        simp only [Option.some.injEq] at e; subst e
        exact .inr (.inl ⟨i, j, rfl, rfl, hz, q _ F H (Grow.refl s) (.str _)⟩)
      · cases e
    | _ => simp [pAdd] at e
  | @tup a xs ds hx rx =>
    cases ry with
    | @tup b ys es hy ry =>
      simp only [pAdd] at e
      split at e
      · rename_i hz
        simp only [Option.some.injEq] at e; subst e
        rw [← rx.length, ← ry.length] at hz
        refine .inr (.inr (.inl ⟨a, b, xs, ys, rfl, rfl, le_t s hx.1.sq, le_t s hy.1.sq, hz, fun e => ?_, fun _ e => ?_, fun _ _ o p ho hp => ?_⟩))
        · subst e; cases rx; exact q _ F H (Grow.refl s) (.tup hy ry)
        · subst e; cases ry; rw [List.append_nil] at q; exact q _ F H (Grow.refl s) (.tup hx rx)
        · obtain ⟨g, r⟩ := grow_tup ho s hp (by rw [List.length_append]; exact hz) (rx.append ry)
          exact q _ _ _ g r
      · cases e
    | _ => simp [pAdd] at e
  | @lst a xs ds hx rx =>
    cases ry with
    | @lst b ys es hy ry =>
      simp only [pAdd] at e
      split at e
      · rename_i hz
        simp only [Option.some.injEq] at e; subst e
        rw [← rx.length, ← ry.length] at hz
        refine .inr (.inr (.inr ⟨a, b, xs, ys, rfl, rfl, s _ _ hx.1, s _ _ hy.1, hz, fun p hp => ?_⟩))
        obtain ⟨g, r⟩ := grow_lst s hp (by rw [List.length_append]; exact hz) (rx.append ry)
        exact q _ _ _ g r
      · cases e
    | _ => simp [pAdd] at e
  | _ => cases y <;> simp [pAdd] at e
theorem rs_sub : RS2 K (rI0 fun i j => .int (i - j)) pSub := by
  intro F H v u x y z Q s rx ry e q
  cases rx <;> cases ry <;> simp only [pSub, reduceCtorEq, Option.some.injEq] at e
  subst e; exact ⟨_, _, rfl, rfl, q _ F H (Grow.refl s) (.int _)⟩
theorem rs_I {C : Int → Int → Prop} [∀ i j, Decidable (C i j)] {f : Int → Int → Int} {g : D → D → Option D} (h1 : ∀ i j, g (.int i) (.int j) = if C i j then some (.int (f i j)) else none)
    (h2 : ∀ x y z, g x y = some z → ∃ i j, x = .int i ∧ y = .int j) : RS2 K (rI C fun i j => .int (f i j)) g := by
  intro F H v u x y z Q s rx ry e q
  obtain ⟨i, j, rfl, rfl⟩ := h2 x y z e
  cases rx; cases ry
  rw [h1] at e
  split at e
  · rename_i hc
    cases e
    exact ⟨i, j, rfl, rfl, hc, q _ F H (Grow.refl s) (.int _)⟩
  · cases e
theorem rs_mul : RS2 K (rI CMulX fun i j => .int (i * j)) pMul := rs_I (fun _ _ => rfl) fun x y z e => by cases x <;> cases y <;> first | exact ⟨_, _, rfl, rfl⟩ | simp [pMul] at e
theorem rs_fdiv : RS2 K (rI CDivW fun i j => .int (i / j)) pFdiv := rs_I (fun _ _ => rfl) fun x y z e => by cases x <;> cases y <;> first | exact ⟨_, _, rfl, rfl⟩ | simp [pFdiv] at e
theorem rs_mod : RS2 K (rI (fun _ j => 0 < j) fun i j => .int (i % j)) pMod := rs_I (C := fun _ j => 0 < j) (fun _ _ => rfl) fun x y z e => by cases x <;> cases y <;> first | exact ⟨_, _, rfl, rfl⟩ | simp [pMod] at e
theorem rs_pow : RS2 K (rI CPow fun i j => .int (i ^ j.toNat)) pPow := rs_I (fun _ _ => rfl) fun x y z e => by cases x <;> cases y <;> first | exact ⟨_, _, rfl, rfl⟩ | simp [pPow] at e
theorem rs_neg : RS1 K (rU fun i => .int (-i)) pNeg := by
  intro F H v x z Q s rx e q
  cases rx <;> simp only [pNeg, reduceCtorEq, Option.some.injEq] at e
  subst e; exact ⟨_, rfl, q _ F H (Grow.refl s) (.int _)⟩

/-! ### comparisons, over what the library reads off the heap -/
/-- a reading by data alone -/
def rDD (K : PySem.W.Frag) (g : D → D → Option Bool) : R2 := fun v u H Q => ∃ x y b, Rep K H v x ∧ Rep K H u y ∧ g x y = some b ∧ Q (.bl b) H
theorem rs_DD {g : D → D → Option Bool} {g' : D → D → Option D} (h : ∀ x y, g' x y = (g x y).map .bool) : RS2 K (rDD K g) g' := by
  intro F H v u x y z Q s rx ry e q
  rw [h] at e
  cases hg : g x y with
  | none => rw [hg] at e; cases e
  | some b =>
    rw [hg] at e
    simp only [Option.map_some, Option.some.injEq] at e
    subst e
    exact ⟨x, y, b, rx.mono s, ry.mono s, hg, q _ F H (Grow.refl s) (.bl b)⟩
variable {X : Cx}
theorem opr_DD {f : Value → Value → Sem Value} {g : D → D → Option Bool} (hu : X.A.units + 200 < cLine)
    (h : ∀ (s : Shared) (a b : Value) (x y : D) (as bs : List Addr) (c : Bool) (Q : Value → Shared → Prop), Reads s.heap a x as → Reads s.heap b y bs → x.plain = true → y.plain = true → g x y = some c → Q (.bool c) s →
      wpAny (model X.prog X.w) X.A (f a b) Q X.xe s) : OpR X f (rDD X.K g) := by
  intro pins s σ H v u a b Q I ra rb hq
  obtain ⟨x, y, c, rx, ry, e, q⟩ := hq
  obtain ⟨as, r1⟩ := Dp.reads I x v a rx.dp ra
  obtain ⟨bs, r2⟩ := Dp.reads I y u b ry.dp rb
  exact h s a b x y as bs c _ r1 r2 rx.plain ry.plain e ⟨.bl c, H, I, rfl, q⟩
theorem dOk_units {A : Around} {x y : D} (hu : A.units + 200 < cLine) (h : dOk x y = true) : A.units + min x.depth y.depth < cLine := by
  have := of_decide_eq_true h
  omega
def bEq (x y : D) : Option Bool := if dOk x y = true then some (PyData.eqv x y) else none
def bNe (x y : D) : Option Bool := if dOk x y = true then some (!PyData.eqv x y) else none
def bLt (x y : D) : Option Bool := if ltOk x y = true then some (PySem.W.dataLt x y) else none
def bGt (x y : D) : Option Bool := if ltOk x y = true then some (PySem.W.dataLt y x) else none
def bLe (x y : D) : Option Bool := if ltOk x y = true then some (!PySem.W.dataLt y x) else none
def bGe (x y : D) : Option Bool := if ltOk x y = true then some (!PySem.W.dataLt x y) else none
theorem rs_eq : RS2 K (rDD K bEq) pEq := rs_DD fun x y => by unfold pEq bEq; split <;> rfl
theorem rs_ne : RS2 K (rDD K bNe) pNe := rs_DD fun x y => by unfold pNe bNe; split <;> rfl
theorem rs_lt : RS2 K (rDD K bLt) pLt := rs_DD fun x y => by unfold pLt bLt; split <;> rfl
theorem rs_gt : RS2 K (rDD K bGt) pGt := rs_DD fun x y => by unfold pGt bGt; split <;> rfl
theorem rs_le : RS2 K (rDD K bLe) pLe := rs_DD fun x y => by unfold pLe bLe; split <;> rfl
theorem rs_ge : RS2 K (rDD K bGe) pGe := rs_DD fun x y => by unfold pGe bGe; split <;> rfl
theorem op_eqZ (hu : X.A.units + 200 < cLine) : OpR X (compareOp .Eq) (rDD X.K bEq) := opr_DD hu fun s a b x y as bs c Q ra rb px py e q => by
  unfold bEq at e
  split at e
  · rename_i hd; cases e; exact SeqAt.eq_plain ra rb px py (dOk_units hu hd) q
  · cases e
theorem op_neZ (hu : X.A.units + 200 < cLine) : OpR X (compareOp .NotEq) (rDD X.K bNe) := opr_DD hu fun s a b x y as bs c Q ra rb px py e q => by
  unfold bNe at e
  split at e
  · rename_i hd; cases e; exact SeqAt.ne_plain ra rb px py (dOk_units hu hd) q
  · cases e
theorem ltOk_ok {A : Around} {x y : D} (hu : A.units + 200 < cLine) (h : ltOk x y = true) : PySem.W.alike x y = true ∧ x ≠ .none ∧ A.units + min x.depth y.depth < cLine := by
  unfold ltOk at h
  simp only [Bool.and_eq_true] at h
  exact ⟨h.1.1, fun e => by subst e; simp [notNone] at h, dOk_units hu h.2⟩
theorem op_ltZ (hu : X.A.units + 200 < cLine) : OpR X (compareOp .Lt) (rDD X.K bLt) := opr_DD hu fun s a b x y as bs c Q ra rb px py e q => by
  unfold bLt at e
  split at e
  · rename_i hd; cases e; obtain ⟨h1, h2, h3⟩ := ltOk_ok hu hd; exact PySem.W.lt_data ra rb h1 h2 h3 q
  · cases e
theorem op_gtZ (hu : X.A.units + 200 < cLine) : OpR X (compareOp .Gt) (rDD X.K bGt) := opr_DD hu fun s a b x y as bs c Q ra rb px py e q => by
  unfold bGt at e
  split at e
  · rename_i hd; cases e; obtain ⟨h1, h2, h3⟩ := ltOk_ok hu hd; exact PySem.W.gt_data ra rb h1 h2 h3 q
  · cases e
theorem op_leZ (hu : X.A.units + 200 < cLine) : OpR X (compareOp .LtE) (rDD X.K bLe) := opr_DD hu fun s a b x y as bs c Q ra rb px py e q => by
  unfold bLe at e
  split at e
  · rename_i hd; cases e; obtain ⟨h1, h2, h3⟩ := ltOk_ok hu hd; exact PySem.W.le_data ra rb h1 h2 h3 q
  · cases e
theorem op_geZ (hu : X.A.units + 200 < cLine) : OpR X (compareOp .GtE) (rDD X.K bGe) := opr_DD hu fun s a b x y as bs c Q ra rb px py e q => by
  unfold bGe at e
  split at e
  · rename_i hd; cases e; obtain ⟨h1, h2, h3⟩ := ltOk_ok hu hd; exact PySem.W.ge_data ra rb h1 h2 h3 q
  · cases e

/-! ### in, is -/
def bIn (x c : D) : Option Bool := match c with
  | .list xs => if dOk x (.list xs) = true then some (xs.any fun z => PyData.eqv z x) else none
  | .tuple xs => if dOk x (.tuple xs) = true then some (xs.any fun z => PyData.eqv z x) else none
  | _ => none
theorem in_units {A : Around} {x : D} {n : Nat} (hu : A.units + 200 < cLine) (h : min x.depth (n + 1) ≤ 100) : A.units + 1 + min n x.depth < cLine := by
  omega
theorem op_inZ (hu : X.A.units + 200 < cLine) : OpR X (compareOp .In) (rDD X.K bIn) := opr_DD hu fun s a b x y as bs c Q ra rb px py e q => by
  unfold bIn at e
  split at e
  · split at e
    · rename_i xs hd; cases e; exact SeqAt.in_list_data rb ra (by simpa [PyData.plain] using py) px (in_units hu (by have := of_decide_eq_true hd; simpa [PyData.depth] using this)) q
    · cases e
  · split at e
    · rename_i xs hd; cases e; exact SeqAt.in_tuple_data rb ra (by simpa [PyData.plain] using py) px (in_units hu (by have := of_decide_eq_true hd; simpa [PyData.depth] using this)) q
    · cases e
  · cases e
theorem op_notInZ (hu : X.A.units + 200 < cLine) : OpR X (compareOp .NotIn) (rDD X.K fun x y => (bIn x y).map (!·)) := opr_DD hu fun s a b x y as bs c Q ra rb px py e q => by
  unfold bIn at e
  split at e
  · split at e
    · rename_i xs hd; cases e; exact SeqAt.notIn_list_data rb ra (by simpa [PyData.plain] using py) px (in_units hu (by have := of_decide_eq_true hd; simpa [PyData.depth] using this)) q
    · cases e
  · split at e
    · rename_i xs hd; cases e; exact SeqAt.notIn_tuple_data rb ra (by simpa [PyData.plain] using py) px (in_units hu (by have := of_decide_eq_true hd; simpa [PyData.depth] using this)) q
    · cases e
  · cases e
def rInA (K : PySem.W.Frag) : R2 := fun x y H Q => rDD K bIn x y H Q ∨ ∃ i j, x = .str i ∧ y = .str j ∧ Q (.bl (inStr i j)) H
def rNotInA (K : PySem.W.Frag) : R2 := fun x y H Q => rDD K (fun x y => (bIn x y).map (!·)) x y H Q ∨ ∃ i j, x = .str i ∧ y = .str j ∧ Q (.bl (!inStr i j)) H
theorem op_inA (hu : X.A.units + 200 < cLine) : OpR X (compareOp .In) (rInA X.K) := opr_or (op_inZ hu) fun pins s σ H x y v u Q I rx ry h => by
  obtain ⟨i, j, rfl, rfl, q⟩ := h
  exact op_in_str pins s σ H _ _ v u Q I rx ry ⟨i, j, rfl, rfl, q⟩
theorem op_notInA (hu : X.A.units + 200 < cLine) : OpR X (compareOp .NotIn) (rNotInA X.K) := opr_or (op_notInZ hu) fun pins s σ H x y v u Q I rx ry h => by
  obtain ⟨i, j, rfl, rfl, q⟩ := h
  refine op_notIn_str pins s σ H _ _ v u Q I rx ry ⟨i, j, rfl, rfl, ?_⟩
  simpa [inStr] using q
theorem rs_in : RS2 K (rInA K) pIn := by
  intro F H v u x y z Q s rx ry e q
  have key : ∀ b, bIn x y = some b → z = .bool b → rInA K v u H Q := fun b h1 h2 => by
    subst h2
    exact .inl ⟨x, y, b, rx.mono s, ry.mono s, h1, q _ F H (Grow.refl s) (.bl b)⟩
  cases ry with
  | lst hy r =>
    simp only [pIn] at e
    split at e
    · rename_i hd; cases e; exact key _ (by simp only [bIn, hd, if_true]) rfl
    · cases e
  | tup hy r =>
    simp only [pIn] at e
    split at e
    · rename_i hd; cases e; exact key _ (by simp only [bIn, hd, if_true]) rfl
    · cases e
  | str j =>
    cases rx with
    | str i => simp only [pIn, Option.some.injEq] at e; subst e; exact .inr ⟨i, j, rfl, rfl, q _ F H (Grow.refl s) (.bl _)⟩
    | _ => simp [pIn] at e
  | _ => cases x <;> simp [pIn] at e
theorem rs_notIn : RS2 K (rNotInA K) pNotIn := by
  intro F H v u x y z Q s rx ry e q
  have key : ∀ b, bIn x y = some b → z = .bool (!b) → rNotInA K v u H Q := fun b h1 h2 => by
    subst h2
    exact .inl ⟨x, y, !b, rx.mono s, ry.mono s, by show (bIn x y).map (!·) = _; rw [h1]; rfl, q _ F H (Grow.refl s) (.bl _)⟩
  cases ry with
  | lst hy r =>
    simp only [pNotIn] at e
    split at e
    · rename_i hd; cases e; exact key _ (by simp only [bIn, hd, if_true]) rfl
    · cases e
  | tup hy r =>
    simp only [pNotIn] at e
    split at e
    · rename_i hd; cases e; exact key _ (by simp only [bIn, hd, if_true]) rfl
    · cases e
  | str j =>
    cases rx with
    | str i => simp only [pNotIn, Option.some.injEq] at e; subst e; exact .inr ⟨i, j, rfl, rfl, q _ F H (Grow.refl s) (.bl _)⟩
    | _ => simp [pNotIn] at e
  | _ => cases x <;> simp [pNotIn] at e
/-- is, against None, True, False -/
def vB : V → V → Option Bool
  | x, .non => some (decide (x = .non))
  | x, .bl b => some (decide (x = .bl b))
  | _, _ => none
def rIsV : R2 := fun x y H Q => ∃ b, vB x y = some b ∧ Q (.bl b) H
def rIsNotV : R2 := fun x y H Q => ∃ b, vB x y = some b ∧ Q (.bl (!b)) H
theorem plainIs_bool {v : V} {a : Value} {b : Bool} (r : RelV v a) : plainIs a (.bool b) = true ∧ ((a == .bool b) = decide (v = .bl b)) := by
  cases v with
  | non => cases r; exact ⟨rfl, rfl⟩
  | bl c => cases r; refine ⟨rfl, ?_⟩; cases c <;> cases b <;> rfl
  | int _ => obtain ⟨t, rfl⟩ := r; exact ⟨rfl, rfl⟩
  | str _ => obtain ⟨t, rfl⟩ := r; exact ⟨rfl, rfl⟩
  | byt _ => obtain ⟨t, rfl⟩ := r; exact ⟨rfl, rfl⟩
  | flt _ => obtain ⟨t, rfl⟩ := r; exact ⟨rfl, rfl⟩
  | ref _ => cases r; exact ⟨rfl, rfl⟩
  | ty _ => cases r; exact ⟨rfl, rfl⟩
theorem op_isV : OpR X (compareOp .Is) rIsV := by
  intro pins s σ H x y v u Q I rx ry h
  obtain ⟨b, e, q⟩ := h
  cases y with
  | non => cases ry; cases e; exact PyProof.Rows.is_none_gen ⟨.bl _, H, I, by rw [rx.none_iff]; rfl, q⟩
  | bl c =>
    cases ry; cases e
    obtain ⟨h1, h2⟩ := plainIs_bool (b := c) rx
    exact wpAny_is_plain h1 ⟨.bl _, H, I, by rw [h2]; rfl, q⟩
  | _ => cases e
theorem op_isNotV : OpR X (compareOp .IsNot) rIsNotV := by
  intro pins s σ H x y v u Q I rx ry h
  obtain ⟨b, e, q⟩ := h
  cases y with
  | non => cases ry; cases e; exact PyProof.Rows.isnot_none_gen ⟨.bl _, H, I, by rw [rx.none_iff]; rfl, q⟩
  | bl c =>
    cases ry; cases e
    obtain ⟨h1, h2⟩ := plainIs_bool (b := c) rx
    exact wpAny_isNot_plain h1 ⟨.bl _, H, I, by rw [h2]; rfl, q⟩
  | _ => cases e
theorem isB_V {F : Hp} {v u : V} {x y : D} {b : Bool} (rx : Rep K F v x) (ry : Rep K F u y) (e : isB x y = some b) : vB v u = some b := by
  cases ry <;> simp only [isB, Option.some.injEq, reduceCtorEq] at e
  · subst e; cases rx <;> rfl
  · subst e
    rename_i c
    cases rx with
    | bl d => cases c <;> cases d <;> rfl
    | _ => rfl
theorem rs_is : RS2 K rIsV pIs := by
  intro F H v u x y z Q s rx ry e q
  unfold pIs at e
  cases hb : isB x y with
  | none => rw [hb] at e; cases e
  | some b => rw [hb] at e; cases e; exact ⟨b, isB_V rx ry hb, q _ F H (Grow.refl s) (.bl b)⟩
theorem rs_isNot : RS2 K rIsNotV pIsNot := by
  intro F H v u x y z Q s rx ry e q
  unfold pIsNot at e
  cases hb : isB x y with
  | none => rw [hb] at e; cases e
  | some b => rw [hb] at e; cases e; exact ⟨b, isB_V rx ry hb, q _ F H (Grow.refl s) (.bl _)⟩

/-! ### x[i], x[a:b] -/
theorem atI_reps {F : Hp} {vs : List V} {ds : List D} {i : Int} {d : D} (r : Reps K F vs ds) (e : atI ds i = some d) : ∃ v, atI vs i = some v ∧ Rep K F v d := by
  unfold atI at e ⊢
  rw [r.length]
  cases hj : ixN ds.length i with
  | none => rw [hj] at e; cases e
  | some j =>
    rw [hj] at e
    exact r.get e
def rIxA (K : PySem.W.Frag) : R2 := fun x y H Q => rIxL K x y H Q ∨ rIxT K x y H Q ∨ rIxS x y H Q
theorem ix_all : IxR X (rIxA X.K) := ix_list.or (ix_tup.or ix_str)
theorem rs_ix : RS2 K (rIxA K) pIdx := by
  intro F H v u x y z Q s rx ry e q
  cases ry with
  | int i =>
    cases rx with
    | lst h r =>
      obtain ⟨w, e1, rw'⟩ := atI_reps r (by simpa [pIdx] using e)
      exact .inl ⟨_, _, i, w, rfl, rfl, .of (s _ _ h.1), e1, q _ F H (Grow.refl s) rw'⟩
    | tup h r =>
      obtain ⟨w, e1, rw'⟩ := atI_reps r (by simpa [pIdx] using e)
      exact .inr (.inl ⟨_, _, i, w, rfl, rfl, le_t s h.1.sq, e1, q _ F H (Grow.refl s) rw'⟩)
    | str y =>
      simp only [pIdx] at e
      split at e
      · rename_i hz
        cases hc : atI y.cps.toList i with
        | none => rw [hc] at e; cases e
        | some c => rw [hc] at e; cases e; exact .inr (.inr ⟨y, i, c, rfl, rfl, hz, hc, q _ F H (Grow.refl s) (.str _)⟩)
      · cases e
    | _ => simp [pIdx] at e
  | _ => cases x <;> simp [pIdx] at e
def RSl (K : PySem.W.Frag) (r : V → Option Int → Option Int → Hp → VK → Prop) (g : D → Option Int → Option Int → Option D) : Prop := ∀ (F H : Hp) (v : V) (x z : D) (lo hi : Option Int) (Q : VK), Le F H → Rep K F v x → g x lo hi = some z →
  (∀ w F' H', Grow F H F' H' → Rep K F' w z → Q w H') → r v lo hi H Q
theorem cut_reps {F : Hp} {vs : List V} {ds : List D} (r : Reps K F vs ds) (lo hi : Option Int) : Reps K F (cutV vs lo hi) (cutD ds lo hi) := by
  unfold cutV cutD
  rw [r.length]
  exact (r.drop _).take _
def rSlAll (K : PySem.W.Frag) : V → Option Int → Option Int → Hp → VK → Prop := fun x lo hi H Q => rSlL K x lo hi H Q ∨ rSlF K x lo hi H Q ∨ rSlS x lo hi H Q
theorem sl_all : SlR X (rSlAll X.K) := sl_list.or (sl_tupF.or sl_str)
theorem rs_sl : RSl K (rSlAll K) pSl := by
  intro F H v x z lo hi Q s rx e q
  cases rx with
  | lst h r =>
    cases e
    refine .inl ⟨_, _, rfl, .of (s _ _ h.1), fun p hp => ?_⟩
    obtain ⟨g, r'⟩ := grow_lst s hp (Nat.le_trans (cutV_length _ lo hi) h.2) (cut_reps r lo hi)
    exact q _ _ _ g r'
  | @tup a vs ds h r =>
    cases e
    refine .inr (.inl ⟨_, _, rfl, le_t s h.1.sq, fun hw => ?_, fun hw o p ho hp => ?_⟩)
    · have e1 : cutD ds lo hi = ds := by
        rw [r.length] at hw
        unfold cutD
        rw [hw.1, hw.2]
        simp
      rw [e1] at q
      exact q _ F H (Grow.refl s) (.tup h r)
    · obtain ⟨g, r'⟩ := grow_tup ho s hp (Nat.le_trans (cutV_length _ lo hi) h.2) (cut_reps r lo hi)
      exact q _ _ _ g r'
  | str y =>
    simp only [pSl] at e
    split at e
    · rename_i hz; cases e; exact .inr (.inr ⟨y, rfl, hz, q _ F H (Grow.refl s) (.str _)⟩)
    · cases e
  | _ => simp [pSl] at e

/-! ### truth -/
theorem isEmpty_reps {F : Hp} {vs : List V} {ds : List D} (r : Reps K F vs ds) : vs.isEmpty = ds.isEmpty := by cases r <;> rfl
theorem tru_v {F H : Hp} {v : V} {x : D} {k : Bool} (s : Le F H) (r : Rep K F v x) (e : pTru x = some k) : TruV K v H k := by
  cases r with
  | non => simp only [pTru, Option.some.injEq] at e; exact e.symm
  | bl b => simp only [pTru, Option.some.injEq] at e; exact e.symm
  | int i => simp only [pTru, Option.some.injEq] at e; exact e.symm
  | str y =>
    simp only [pTru] at e
    split at e
    · rename_i hz; exact ⟨hz, (Option.some.inj e).symm⟩
    · cases e
  | lst h r => simp only [pTru, Option.some.injEq] at e; exact .inl ⟨_, .of (s _ _ h.1), by rw [isEmpty_reps r]; exact e.symm⟩
  | tup h r => simp only [pTru, Option.some.injEq] at e; exact .inr (.inl ⟨_, le_t s h.1.sq, by rw [isEmpty_reps r]; exact e.symm⟩)
end
end Z
namespace Z
open PySem PySem.Spec L2

theorem _root_.L2.PE.weak {X : Cx} {e : Expr} {t t' : TE} (h : PE X e t) (w : ∀ σ H Q, t' σ H Q → t σ H Q) : PE X e t' := ⟨fun p s σ H Q I q => h.run p s σ H Q I (w σ H Q q)⟩
theorem _root_.L2.PT.weak {X : Cx} {e : Expr} {t t' : TT} (h : PT X e t) (w : ∀ σ H Q, t' σ H Q → t σ H Q) : PT X e t' := ⟨fun p s σ H Q I q => h.run p s σ H Q I (w σ H Q q)⟩
theorem _root_.L2.PW.weak {X : Cx} {e : Expr} {t t' : TT} (h : PW X e t) (w : ∀ σ H Q, t' σ H Q → t σ H Q) : PW X e t' := ⟨fun wh p s σ H Q I q => h.run wh p s σ H Q I (w σ H Q q)⟩
theorem _root_.L2.PA.weak {X : Cx} {e : List Expr} {t t' : TA} (h : PA X e t) (w : ∀ σ H Q, t' σ H Q → t σ H Q) : PA X e t' := ⟨fun ps p s σ H Q I q => h.run ps p s σ H Q I (w σ H Q q)⟩
theorem _root_.L2.PS.weak {X : Cx} {e : Stmt} {t t' : TS} (h : PS X e t) (w : ∀ D σ H, t' D σ H → t D σ H) : PS X e t' := ⟨fun p s σ H D I q => h.run p s σ H D I (w D σ H q)⟩
theorem _root_.L2.PSs.weak {X : Cx} {e : List Stmt} {t t' : TS} (h : PSs X e t) (w : ∀ D σ H, t' D σ H → t D σ H) : PSs X e t' := ⟨fun p s σ H D I q => h.run p s σ H D I (w D σ H q)⟩

/-! ### what stands still in a block: its slots, the names it sees, the global ones, the ones it stores -/
def dund (x : Str) : Bool := !(x == ("__debug__" : Str)) && !(x == ("__classdict__" : Str)) && !decide (x = ("__name__" : Str))
def visC (sc : Scope) (x : Str) : Bool := match sc.names.lookup x with | some .local => true | some .cell => true | some .free => true | _ => false
def glC (sc : Scope) (x : Str) : Bool := match sc.names.lookup x with | some .globalImplicit => true | _ => false
def stOk (N W G : List Str) (sc : Scope) : Bool := decide N.Nodup && (W.all fun x => visC sc x && dund x) && (G.all fun x => glC sc x && dund x)
/-- the module at work -/
structure ME where
  prog : Program
  w : World
  K : PySem.W.Frag
  mg : Str → Option Value
  base : Heap
structure MX (X : Cx) (E : ME) : Prop where
  prog : X.prog = E.prog
  w : X.w = E.w
  K : X.K = E.K
  mg : X.mg = E.mg
  base : X.base = E.base
structure LX (X : Cx) (E : ME) (kk : Nat) (N W G Sl : List Str) (sc : Scope) : Prop where
  mx : MX X E
  rm : Room kk X.A
  n : X.N = N
  scp : X.env.scope = sc
  calm : X.calm = true
  st : stOk N W G sc = true
  sto : ∀ x ∈ Sl, Loc X.env.scope x ∧ (X.fn x = true ∨ X.env.scope.names.lookup x = some .local)
  po : PassesOwn (model X.prog X.w) X.A X.env X.xe
section
variable {X : Cx} {E : ME} {kk : Nat} {N W G Sl : List Str} {sc : Scope}
theorem LX.un (L : LX X E kk N W G Sl sc) : X.A.units + 200 < cLine := by have := L.rm.un; omega
theorem LX.nd (L : LX X E kk N W G Sl sc) : X.N.Nodup := by
  have h := L.st
  unfold stOk at h
  simp only [Bool.and_eq_true] at h
  rw [L.n]
  exact of_decide_eq_true h.1.1
theorem LX.vis (L : LX X E kk N W G Sl sc) {x : Str} (hx : x ∈ W) : Vis X.env.scope x ∧ dund x = true := by
  have h := L.st
  unfold stOk at h
  simp only [Bool.and_eq_true, List.all_eq_true] at h
  obtain ⟨h1, h2⟩ := h.1.2 x hx
  refine ⟨?_, h2⟩
  rw [L.scp]
  unfold visC at h1
  unfold Vis
  split at h1
  · rename_i e; exact .inl e
  · rename_i e; exact .inr (.inl e)
  · rename_i e; exact .inr (.inr e)
  · cases h1
theorem LX.gl (L : LX X E kk N W G Sl sc) {x : Str} (hx : x ∈ G) : Gl X x ∧ dund x = true := by
  have h := L.st
  unfold stOk at h
  simp only [Bool.and_eq_true, List.all_eq_true] at h
  obtain ⟨h1, h2⟩ := h.2 x hx
  refine ⟨?_, h2⟩
  show X.env.scope.names.lookup x = _
  rw [L.scp]
  unfold glC at h1
  split at h1
  · rename_i e; exact e
  · cases h1
theorem dund1 {x : Str} (h : dund x = true) : (x == ("__debug__" : Str)) = false ∧ (x == ("__classdict__" : Str)) = false ∧ x ≠ ("__name__" : Str) := by
  unfold dund at h
  simp only [Bool.and_eq_true, Bool.not_eq_true', decide_eq_false_iff_not] at h
  exact ⟨h.1.1, h.1.2, h.2⟩
end

/-! ## expressions that leave what is owned as it is -/
def tX {A : Type} (K : PySem.W.Frag) (Γ : List Ent) (m : Option A) (val : A → D) : TE := fun σ H Q => ∃ F O x, At K F O σ H Γ ∧ m = some x ∧ ∀ v F' H', Grow F H F' H' → Rep K F' v (val x) → Q v H'
abbrev EX (X : Cx) (Γ : List Ent) (e : Expr) (m : Option D) : Prop := PE X e (tX X.K Γ m id)
def tTX (K : PySem.W.Frag) (Γ : List Ent) (m : Option Bool) : TT := fun σ H Q => ∃ F O b, At K F O σ H Γ ∧ m = some b ∧ ∀ F' H', Grow F H F' H' → Q b H'
abbrev TX (X : Cx) (Γ : List Ent) (e : Expr) (m : Option Bool) : Prop := PT X e (tTX X.K Γ m)
abbrev WX (X : Cx) (Γ : List Ent) (e : Expr) (m : Option Bool) : Prop := PW X e (tTX X.K Γ m)
def tAX {A : Type} (K : PySem.W.Frag) (Γ : List Ent) (n : Nat) (k : List D → Option A) (m : Option A) : TA := fun σ H Q => ∃ F O r, At K F O σ H Γ ∧ m = some r ∧ ∀ vs xs F' H', Grow F H F' H' → Reps K F' vs xs → xs.length = n → k xs = some r → Q vs H'
abbrev AX {A : Type} (X : Cx) (Γ : List Ent) (es : List Expr) (k : List D → Option A) (m : Option A) : Prop := PA X es (tAX X.K Γ es.length k m)

theorem bind_some' {A B : Type} {m : Option A} {f : A → Option B} {z : B} (h : m.bind f = some z) : ∃ x, m = some x ∧ f x = some z := Option.bind_eq_some_iff.mp h

section
variable {X : Cx} {E : ME} {kk : Nat} {N W G Sl : List Str} {sc : Scope} {Γ : List Ent} {a b c : Expr} {ma mb mc : Option D} {x y : D} {pos : Pos}

/-! ### names and constants -/
theorem ex_var (L : LX X E kk N W G Sl sc) (i j : Nat) {n : Str} (hN : N[i]? = some n) (hW : W[j]? = some n) (hΓ : Γ[i]? = some (.fz x)) : EX X Γ (.Name n pos) (some x) := by
  obtain ⟨h1, h2⟩ := L.vis (List.mem_of_getElem? hW)
  obtain ⟨d1, d2, d3⟩ := dund1 h2
  refine (pe_var (i := i) (by rw [L.n]; exact hN) h1 d1 d2).weak fun σ H Q ⟨F, O, z, at_, e, q⟩ => ?_
  cases e
  obtain ⟨v, hv, r⟩ := at_.fz hΓ
  exact ⟨v, hv, q v F H (Grow.refl at_.sub) r⟩
theorem ex_int {i : Int} {j} : EX X Γ (.Constant (.int i) j pos) (some (.int i)) := pe_int.weak fun σ H Q ⟨F, O, z, at_, e, q⟩ => by cases e; exact q _ F H (Grow.refl at_.sub) (.int i)
theorem ex_bool {b : Bool} {j} : EX X Γ (.Constant (.bool b) j pos) (some (.bool b)) := pe_bl.weak fun σ H Q ⟨F, O, z, at_, e, q⟩ => by cases e; exact q _ F H (Grow.refl at_.sub) (.bl b)
theorem ex_none {j} : EX X Γ (.Constant .none j pos) (some .none) := pe_non.weak fun σ H Q ⟨F, O, z, at_, e, q⟩ => by cases e; exact q _ F H (Grow.refl at_.sub) .non
theorem ex_str {s : Str} {j} : EX X Γ (.Constant (.str s) j pos) (some (.str s)) := pe_str.weak fun σ H Q ⟨F, O, z, at_, e, q⟩ => by cases e; exact q _ F H (Grow.refl at_.sub) (.str s)
/-- a module's constant -/
def GConst (E : ME) (n : Str) (x : D) : Prop := ∃ (v : V) (u : Value), E.mg n = some u ∧ RelV v u ∧ ∀ F, Rep E.K F v x
theorem ex_glob (L : LX X E kk N W G Sl sc) (j : Nat) {n : Str} (hG : G[j]? = some n) (h : GConst E n x) : EX X Γ (.Name n pos) (some x) := by
  obtain ⟨h1, h2⟩ := L.gl (List.mem_of_getElem? hG)
  obtain ⟨v, u, hm, r, q⟩ := h
  rw [← L.mx.mg] at hm
  rw [← L.mx.K] at q
  exact (pe_glob h1 hm r (dund1 h2).1).weak fun σ H Q ⟨F, O, z, at_, e, k⟩ => by cases e; exact k _ F H (Grow.refl at_.sub) (q F)

/-! ### two places -/
theorem ex_op {op : Operator} {r : R2} {g : D → D → Option D} (ho : OpR X (binaryOp op) r) (hr : RS2 X.K r g) (ha : EX X Γ a ma) (hb : EX X Γ b mb) : EX X Γ (.BinOp a op b pos) (ma.bind fun x => mb.bind fun y => g x y) :=
  (pe_op ho ha hb).weak fun σ H Q ⟨F, O, z, at_, e, q⟩ => by
    obtain ⟨x, e1, e⟩ := bind_some' e
    obtain ⟨y, e2, e⟩ := bind_some' e
    exact ⟨F, O, x, at_, e1, fun v F1 H1 g1 r1 => ⟨F1, O, y, at_.grow g1, e2, fun u F2 H2 g2 r2 => hr F2 H2 v u x y z Q g2.s (r1.mono g2.f) r2 e fun w F3 H3 g3 r3 => q w F3 H3 ((g1.trans g2).trans g3) r3⟩⟩
theorem ex_op_ax {op : Operator} {r : R2} {g : D → D → Option D} (ho : OpR X (binaryOp op) r) (hr : RS2 X.K r g) (ha : EX X Γ a (some x)) (hb : EX X Γ b mb) : EX X Γ (.BinOp a op b pos) (mb.bind fun y => g x y) := ex_op ho hr ha hb
theorem ex_op_xa {op : Operator} {r : R2} {g : D → D → Option D} (ho : OpR X (binaryOp op) r) (hr : RS2 X.K r g) (ha : EX X Γ a ma) (hb : EX X Γ b (some y)) : EX X Γ (.BinOp a op b pos) (ma.bind fun x => g x y) := ex_op ho hr ha hb
theorem ex_op_aa {op : Operator} {r : R2} {g : D → D → Option D} (ho : OpR X (binaryOp op) r) (hr : RS2 X.K r g) (ha : EX X Γ a (some x)) (hb : EX X Γ b (some y)) : EX X Γ (.BinOp a op b pos) (g x y) := ex_op ho hr ha hb
theorem ex_cmp {op : CmpOp} {r : R2} {g : D → D → Option D} (ho : OpR X (compareOp op) r) (hr : RS2 X.K r g) (ha : EX X Γ a ma) (hb : EX X Γ b mb) (hm : behindInMarks op b = false) : EX X Γ (.Compare a [op] [b] pos) (ma.bind fun x => mb.bind fun y => g x y) :=
  (pe_cmpR ho ha hb hm).weak fun σ H Q ⟨F, O, z, at_, e, q⟩ => by
    obtain ⟨x, e1, e⟩ := bind_some' e
    obtain ⟨y, e2, e⟩ := bind_some' e
    exact ⟨F, O, x, at_, e1, fun v F1 H1 g1 r1 => ⟨F1, O, y, at_.grow g1, e2, fun u F2 H2 g2 r2 => hr F2 H2 v u x y z Q g2.s (r1.mono g2.f) r2 e fun w F3 H3 g3 r3 => q w F3 H3 ((g1.trans g2).trans g3) r3⟩⟩
theorem ex_cmp_ax {op : CmpOp} {r : R2} {g : D → D → Option D} (ho : OpR X (compareOp op) r) (hr : RS2 X.K r g) (ha : EX X Γ a (some x)) (hb : EX X Γ b mb) (hm : behindInMarks op b = false) : EX X Γ (.Compare a [op] [b] pos) (mb.bind fun y => g x y) := ex_cmp ho hr ha hb hm
theorem ex_cmp_xa {op : CmpOp} {r : R2} {g : D → D → Option D} (ho : OpR X (compareOp op) r) (hr : RS2 X.K r g) (ha : EX X Γ a ma) (hb : EX X Γ b (some y)) (hm : behindInMarks op b = false) : EX X Γ (.Compare a [op] [b] pos) (ma.bind fun x => g x y) := ex_cmp ho hr ha hb hm
theorem ex_cmp_aa {op : CmpOp} {r : R2} {g : D → D → Option D} (ho : OpR X (compareOp op) r) (hr : RS2 X.K r g) (ha : EX X Γ a (some x)) (hb : EX X Γ b (some y)) (hm : behindInMarks op b = false) : EX X Γ (.Compare a [op] [b] pos) (g x y) := ex_cmp ho hr ha hb hm
/-- a subscript -/
theorem ex_ix (ha : EX X Γ a ma) (hb : EX X Γ b mb) (hs : PlainIx b) : EX X Γ (.Subscript a b pos) (ma.bind fun x => mb.bind fun y => pIdx x y) :=
  (pe_ix ix_all ha hb hs).weak fun σ H Q ⟨F, O, z, at_, e, q⟩ => by
    obtain ⟨x, e1, e⟩ := bind_some' e
    obtain ⟨y, e2, e⟩ := bind_some' e
    exact ⟨F, O, x, at_, e1, fun v F1 H1 g1 r1 => ⟨F1, O, y, at_.grow g1, e2, fun u F2 H2 g2 r2 => rs_ix F2 H2 v u x y z Q g2.s (r1.mono g2.f) r2 e fun w F3 H3 g3 r3 => q w F3 H3 ((g1.trans g2).trans g3) r3⟩⟩
theorem ex_ix_ax (ha : EX X Γ a (some x)) (hb : EX X Γ b mb) (hs : PlainIx b) : EX X Γ (.Subscript a b pos) (mb.bind fun y => pIdx x y) := ex_ix ha hb hs
theorem ex_ix_xa (ha : EX X Γ a ma) (hb : EX X Γ b (some y)) (hs : PlainIx b) : EX X Γ (.Subscript a b pos) (ma.bind fun x => pIdx x y) := ex_ix ha hb hs
theorem ex_ix_aa (ha : EX X Γ a (some x)) (hb : EX X Γ b (some y)) (hs : PlainIx b) : EX X Γ (.Subscript a b pos) (pIdx x y) := ex_ix ha hb hs

/-! ### one place -/
theorem ex_neg (ha : EX X Γ a ma) : EX X Γ (.UnaryOp .USub a pos) (ma.bind pNeg) := (pe_un un_neg ha).weak fun σ H Q ⟨F, O, z, at_, e, q⟩ => by
  obtain ⟨x, e1, e⟩ := bind_some' e
  exact ⟨F, O, x, at_, e1, fun v F1 H1 g1 r1 => rs_neg F1 H1 v x z Q g1.s r1 e fun w F3 H3 g3 r3 => q w F3 H3 (g1.trans g3) r3⟩
theorem ex_neg_a (ha : EX X Γ a (some x)) : EX X Γ (.UnaryOp .USub a pos) (pNeg x) := ex_neg ha
theorem ex_not (ha : EX X Γ a ma) : EX X Γ (.UnaryOp .Not a pos) (ma.bind pNot) := (pe_notT ha).weak fun σ H Q ⟨F, O, z, at_, e, q⟩ => by
  obtain ⟨x, e1, e⟩ := bind_some' e
  unfold pNot at e
  cases hk : pTru x with
  | none => rw [hk] at e; cases e
  | some k =>
    rw [hk] at e
    cases e
    exact ⟨F, O, x, at_, e1, fun v F1 H1 g1 r1 => ⟨k, tru_v g1.s r1 hk, q _ F1 H1 g1 (.bl _)⟩⟩
theorem ex_not_a (ha : EX X Γ a (some x)) : EX X Γ (.UnaryOp .Not a pos) (pNot x) := ex_not ha

/-! ### and, or, if as values -/
theorem ex_one {op} (ha : EX X Γ a ma) : EX X Γ (.BoolOp op [a] pos) ma := pe_one ha
theorem ex_and {rest : List Expr} (ha : EX X Γ a ma) (hb : EX X Γ (.BoolOp .And (b :: rest) pos) mb) : EX X Γ (.BoolOp .And (a :: b :: rest) pos) (ma.bind fun x => (pTru x).bind fun k => if k = true then mb else some x) :=
  (pe_andT ha hb).weak fun σ H Q ⟨F, O, z, at_, e, q⟩ => by
    obtain ⟨x, e1, e⟩ := bind_some' e
    obtain ⟨k, e2, e⟩ := bind_some' e
    refine ⟨F, O, x, at_, e1, fun v F1 H1 g1 r1 => ⟨k, tru_v g1.s r1 e2, ?_⟩⟩
    cases k with
    | true => simp only [if_true] at e ⊢; exact ⟨F1, O, z, at_.grow g1, e, fun w F2 H2 g2 r2 => q w F2 H2 (g1.trans g2) r2⟩
    | false => simp only [Bool.false_eq_true, if_false, Option.some.injEq] at e ⊢; subst e; exact q v F1 H1 g1 r1
theorem ex_or {rest : List Expr} (ha : EX X Γ a ma) (hb : EX X Γ (.BoolOp .Or (b :: rest) pos) mb) : EX X Γ (.BoolOp .Or (a :: b :: rest) pos) (ma.bind fun x => (pTru x).bind fun k => if k = true then some x else mb) :=
  (pe_orT ha hb).weak fun σ H Q ⟨F, O, z, at_, e, q⟩ => by
    obtain ⟨x, e1, e⟩ := bind_some' e
    obtain ⟨k, e2, e⟩ := bind_some' e
    refine ⟨F, O, x, at_, e1, fun v F1 H1 g1 r1 => ⟨k, tru_v g1.s r1 e2, ?_⟩⟩
    cases k with
    | true => simp only [if_true, Option.some.injEq] at e ⊢; subst e; exact q v F1 H1 g1 r1
    | false => simp only [Bool.false_eq_true, if_false] at e ⊢; exact ⟨F1, O, z, at_.grow g1, e, fun w F2 H2 g2 r2 => q w F2 H2 (g1.trans g2) r2⟩
theorem ex_if {tc : Option Bool} (hc : TX X Γ c tc) (ha : EX X Γ a ma) (hb : EX X Γ b mb) : EX X Γ (.IfExp c a b pos) (tc.bind fun k => if k = true then ma else mb) :=
  (pe_ifExp hc ha hb).weak fun σ H Q ⟨F, O, z, at_, e, q⟩ => by
    obtain ⟨k, e1, e⟩ := bind_some' e
    refine ⟨F, O, k, at_, e1, fun F1 H1 g1 => ?_⟩
    cases k with
    | true => exact ⟨F1, O, z, at_.grow g1, e, fun w F2 H2 g2 r2 => q w F2 H2 (g1.trans g2) r2⟩
    | false => exact ⟨F1, O, z, at_.grow g1, e, fun w F2 H2 g2 r2 => q w F2 H2 (g1.trans g2) r2⟩

/-! ### tests -/
/-- what a comparison gives is a truth value -/
def dBool : D → Option Bool
  | .bool b => some b
  | _ => none
theorem tx_cmp {op : CmpOp} {r : R2} {g : D → D → Option D} (ho : OpR X (compareOp op) r) (hr : RS2 X.K r g) (ha : EX X Γ a ma) (hb : EX X Γ b mb) (hm : behindInMarks op b = false) : TX X Γ (.Compare a [op] [b] pos) (ma.bind fun x => mb.bind fun y => (g x y).bind dBool) :=
  (pt_cmpR ho ha hb hm).weak fun σ H Q ⟨F, O, k, at_, e, q⟩ => by
    obtain ⟨x, e1, e⟩ := bind_some' e
    obtain ⟨y, e2, e⟩ := bind_some' e
    obtain ⟨z, e3, e⟩ := bind_some' e
    have ez : z = .bool k := by cases z <;> simp [dBool] at e; rw [e]
    subst ez
    exact ⟨F, O, x, at_, e1, fun v F1 H1 g1 r1 => ⟨F1, O, y, at_.grow g1, e2, fun u F2 H2 g2 r2 => hr F2 H2 v u x y _ _ g2.s (r1.mono g2.f) r2 e3 fun w F3 H3 g3 r3 => by
      cases r3
      exact ⟨k, rfl, q F3 H3 ((g1.trans g2).trans g3)⟩⟩⟩
theorem tx_cmp_ax {op : CmpOp} {r : R2} {g : D → D → Option D} (ho : OpR X (compareOp op) r) (hr : RS2 X.K r g) (ha : EX X Γ a (some x)) (hb : EX X Γ b mb) (hm : behindInMarks op b = false) : TX X Γ (.Compare a [op] [b] pos) (mb.bind fun y => (g x y).bind dBool) := tx_cmp ho hr ha hb hm
theorem tx_cmp_xa {op : CmpOp} {r : R2} {g : D → D → Option D} (ho : OpR X (compareOp op) r) (hr : RS2 X.K r g) (ha : EX X Γ a ma) (hb : EX X Γ b (some y)) (hm : behindInMarks op b = false) : TX X Γ (.Compare a [op] [b] pos) (ma.bind fun x => (g x y).bind dBool) := tx_cmp ho hr ha hb hm
theorem tx_cmp_aa {op : CmpOp} {r : R2} {g : D → D → Option D} (ho : OpR X (compareOp op) r) (hr : RS2 X.K r g) (ha : EX X Γ a (some x)) (hb : EX X Γ b (some y)) (hm : behindInMarks op b = false) : TX X Γ (.Compare a [op] [b] pos) ((g x y).bind dBool) := tx_cmp ho hr ha hb hm
/-- any value -/
theorem tx_val (ha : EX X Γ a ma) (he : ∀ whole, isTrue a X.env whole = (do let v ← whole; standAt a.pos; holding [v] (truthy v))) : TX X Γ a (ma.bind pTru) :=
  (pt_truth ha he).weak fun σ H Q ⟨F, O, k, at_, e, q⟩ => by
    obtain ⟨x, e1, e⟩ := bind_some' e
    exact ⟨F, O, x, at_, e1, fun v F1 H1 g1 r1 => ⟨k, tru_v g1.s r1 e, q F1 H1 g1⟩⟩
theorem tx_val_a (ha : EX X Γ a (some x)) (he : ∀ whole, isTrue a X.env whole = (do let v ← whole; standAt a.pos; holding [v] (truthy v))) : TX X Γ a (pTru x) := tx_val ha he
theorem tx_not {ta : Option Bool} (ha : TX X Γ a ta) : TX X Γ (.UnaryOp .Not a pos) (ta.map (!·)) := (pt_not ha).weak fun σ H Q ⟨F, O, k, at_, e, q⟩ => by
  cases ta with
  | none => cases e
  | some c => cases e; exact ⟨F, O, c, at_, rfl, q⟩
theorem wx_and1 {ta : Option Bool} (ha : TX X Γ a ta) : WX X Γ (.BoolOp .And [a] pos) ta := pw_and1 ha
theorem wx_or1 {ta : Option Bool} (ha : TX X Γ a ta) : WX X Γ (.BoolOp .Or [a] pos) ta := pw_or1 ha
theorem wx_and {ta tb : Option Bool} {rest : List Expr} (ha : TX X Γ a ta) (hb : WX X Γ (.BoolOp .And (b :: rest) pos) tb) : WX X Γ (.BoolOp .And (a :: b :: rest) pos) (ta.bind fun k => if k = true then tb else some false) :=
  (pw_and ha hb).weak fun σ H Q ⟨F, O, z, at_, e, q⟩ => by
    obtain ⟨k, e1, e⟩ := bind_some' e
    refine ⟨F, O, k, at_, e1, fun F1 H1 g1 => ?_⟩
    cases k with
    | true => exact ⟨F1, O, z, at_.grow g1, e, fun F2 H2 g2 => q F2 H2 (g1.trans g2)⟩
    | false => cases e; exact q F1 H1 g1
theorem wx_or {ta tb : Option Bool} {rest : List Expr} (ha : TX X Γ a ta) (hb : WX X Γ (.BoolOp .Or (b :: rest) pos) tb) : WX X Γ (.BoolOp .Or (a :: b :: rest) pos) (ta.bind fun k => if k = true then some true else tb) :=
  (pw_or ha hb).weak fun σ H Q ⟨F, O, z, at_, e, q⟩ => by
    obtain ⟨k, e1, e⟩ := bind_some' e
    refine ⟨F, O, k, at_, e1, fun F1 H1 g1 => ?_⟩
    cases k with
    | true => cases e; exact q F1 H1 g1
    | false => exact ⟨F1, O, z, at_.grow g1, e, fun F2 H2 g2 => q F2 H2 (g1.trans g2)⟩
theorem tx_w {ta : Option Bool} (h : WX X Γ a ta) : TX X Γ a ta := PW.pt h
/-! ### chains -/
theorem rs_bool_K {r : R2} {g : D → D → Option D} (hr : RS2 X.K r g) {F H : Hp} {v u : V} {x y : D} {k : Bool} {Q : VK} (s : Le F H) (rx : Rep X.K F v x) (ry : Rep X.K F u y) (e : (g x y).bind dBool = some k)
    (q : ∀ F' H', Grow F H F' H' → Q (.bl k) H') : r v u H Q := by
  obtain ⟨z, e3, e⟩ := bind_some' e
  have ez : z = .bool k := by cases z <;> simp [dBool] at e; rw [e]
  subst ez
  exact hr F H v u x y _ Q s rx ry e3 fun w F3 H3 g3 r3 => by cases r3; exact q F3 H3 g3
theorem ex_chain {op op' : CmpOp} {r r' : R2} {g g' : D → D → Option D} (ho : OpR X (compareOp op) r) (hr : RS2 X.K r g) (ho' : OpR X (compareOp op') r') (hr' : RS2 X.K r' g') (ha : EX X Γ a ma) (hb : EX X Γ b mb) (hc : EX X Γ c mc)
    (hm : lastMarks [op, op'] [b, c] = false := by with_unfolding_all rfl) : EX X Γ (.Compare a [op, op'] [b, c] pos) (ma.bind fun x => mb.bind fun y => ((g x y).bind dBool).bind fun k => if k = true then mc.bind fun z => g' y z else some (.bool false)) :=
  (pe_chain ho ho' ha hb hc hm).weak fun σ H Q ⟨F, O, z, at_, e, q⟩ => by
    obtain ⟨x, e1, e⟩ := bind_some' e
    obtain ⟨y, e2, e⟩ := bind_some' e
    obtain ⟨k, e3, e⟩ := bind_some' e
    refine ⟨F, O, x, at_, e1, fun v F1 H1 g1 r1 => ⟨F1, O, y, at_.grow g1, e2, fun u F2 H2 g2 r2 => rs_bool_K hr g2.s (r1.mono g2.f) r2 e3 fun F3 H3 g3 => ⟨k, rfl, ?_⟩⟩⟩
    cases k with
    | true =>
      simp only [if_true] at e ⊢
      obtain ⟨w, e4, e⟩ := bind_some' e
      exact ⟨F3, O, w, at_.grow ((g1.trans g2).trans g3), e4, fun v4 F4 H4 g4 r4 => hr' F4 H4 u v4 y w z Q g4.s (r2.mono (g3.f.trans g4.f)) r4 e fun v5 F5 H5 g5 r5 => q v5 F5 H5 ((((g1.trans g2).trans g3).trans g4).trans g5) r5⟩
    | false => cases e; simp only [Bool.false_eq_true, if_false]; exact q _ F3 H3 ((g1.trans g2).trans g3) (.bl false)
theorem tx_chain {op op' : CmpOp} {r r' : R2} {g g' : D → D → Option D} (ho : OpR X (compareOp op) r) (hr : RS2 X.K r g) (ho' : OpR X (compareOp op') r') (hr' : RS2 X.K r' g') (ha : EX X Γ a ma) (hb : EX X Γ b mb) (hc : EX X Γ c mc)
    (hm : lastMarks [op, op'] [b, c] = false := by with_unfolding_all rfl) : TX X Γ (.Compare a [op, op'] [b, c] pos) (ma.bind fun x => mb.bind fun y => ((g x y).bind dBool).bind fun k => if k = true then mc.bind fun z => (g' y z).bind dBool else some false) :=
  (pt_chain ho ho' ha hb hc hm).weak fun σ H Q ⟨F, O, z, at_, e, q⟩ => by
    obtain ⟨x, e1, e⟩ := bind_some' e
    obtain ⟨y, e2, e⟩ := bind_some' e
    obtain ⟨k, e3, e⟩ := bind_some' e
    refine ⟨F, O, x, at_, e1, fun v F1 H1 g1 r1 => ⟨F1, O, y, at_.grow g1, e2, fun u F2 H2 g2 r2 => rs_bool_K hr g2.s (r1.mono g2.f) r2 e3 fun F3 H3 g3 => ⟨k, rfl, ?_⟩⟩⟩
    cases k with
    | true =>
      simp only [if_true] at e ⊢
      obtain ⟨w, e4, e⟩ := bind_some' e
      exact ⟨F3, O, w, at_.grow ((g1.trans g2).trans g3), e4, fun v4 F4 H4 g4 r4 => rs_bool_K hr' g4.s (r2.mono (g3.f.trans g4.f)) r4 e fun F5 H5 g5 => ⟨z, rfl, q F5 H5 ((((g1.trans g2).trans g3).trans g4).trans g5)⟩⟩
    | false => cases e; simp only [Bool.false_eq_true, if_false]; exact ⟨false, rfl, q F3 H3 ((g1.trans g2).trans g3)⟩

/-! ### argument lists, displays -/
variable {A : Type} {es : List Expr}
theorem ax_nil {k : List D → Option A} : AX X Γ [] k (k []) := pa_nil.weak fun σ H Q ⟨F, O, r, at_, e, q⟩ => q [] [] F H (Grow.refl at_.sub) .nil rfl e
theorem ax_cons {k : List D → Option A} {mr : D → Option A} (ha : EX X Γ a ma) (hr : ∀ x, AX X Γ es (fun xs => k (x :: xs)) (mr x)) (hs : starEach (a :: es) X.env = (false, eval a X.env) :: starEach es X.env := by rfl) : AX X Γ (a :: es) k (ma.bind mr) := by
  refine ⟨fun ps pins s σ H Q I h => ?_⟩
  obtain ⟨F, O, r, at_, e, q⟩ := h
  obtain ⟨x, e1, e⟩ := bind_some' e
  refine (pa_cons ha (hr x) hs).run ps pins s σ H Q I ⟨F, O, x, at_, e1, fun v F1 H1 g1 r1 => ⟨F1, O, r, at_.grow g1, e, fun vs xs F2 H2 g2 r2 el ek => q (v :: vs) (x :: xs) F2 H2 (g1.trans g2) (.cons (r1.mono g2.f) r2) (congrArg (· + 1) el) ek⟩⟩
theorem ax_consA {k : List D → Option A} {m : Option A} (ha : EX X Γ a (some x)) (hr : AX X Γ es (fun xs => k (x :: xs)) m) (hs : starEach (a :: es) X.env = (false, eval a X.env) :: starEach es X.env := by rfl) : AX X Γ (a :: es) k m :=
  (pa_cons ha hr hs).weak fun σ H Q ⟨F, O, r, at_, e, q⟩ => ⟨F, O, x, at_, rfl, fun v F1 H1 g1 r1 => ⟨F1, O, r, at_.grow g1, e, fun vs xs F2 H2 g2 r2 el ek => q (v :: vs) (x :: xs) F2 H2 (g1.trans g2) (.cons (r1.mono g2.f) r2) (congrArg (· + 1) el) ek⟩⟩
theorem reps_len {F : Hp} {vs : List V} {xs : List D} (r : Reps X.K F vs xs) : vs.length = xs.length := r.length
theorem ex_tup {m : Option D} (hz : es.length ≤ sizeLine) (h : AX X Γ es (fun xs => some (.tuple xs)) m) {x1} : EX X Γ (.Tuple es x1 pos) m :=
  (pe_tupF h).weak fun σ H Q ⟨F, O, z, at_, e, q⟩ => ⟨F, O, z, at_, e, fun vs xs F1 H1 g1 r1 hl ek => by
    cases ek
    have hz2 : vs.length ≤ sizeLine := by rw [r1.length, hl]; exact hz
    refine ⟨hz2, fun o p ho hp => ?_⟩
    obtain ⟨g2, r2⟩ := grow_tup ho g1.s hp hz2 r1
    exact q _ _ _ (g1.trans g2) r2⟩
theorem ex_lst {m : Option D} (hz : es.length ≤ sizeLine) (h : AX X Γ es (fun xs => some (.list xs)) m) : EX X Γ (.List es pos) m :=
  (pe_lst h).weak fun σ H Q ⟨F, O, z, at_, e, q⟩ => ⟨F, O, z, at_, e, fun vs xs F1 H1 g1 r1 hl ek => by
    cases ek
    have hz2 : vs.length ≤ sizeLine := by rw [r1.length, hl]; exact hz
    refine ⟨hz2, fun p hp => ?_⟩
    obtain ⟨g2, r2⟩ := grow_lst g1.s hp hz2 r1
    exact q _ _ _ (g1.trans g2) r2⟩
end
end Z
namespace Z
open PySem PySem.Spec L2

section
variable {X : Cx} {E : ME} {kk : Nat} {N W G Sl : List Str} {sc : Scope} {Γ : List Ent} {a b c e : Expr} {es : List Expr} {m ma mb mc : Option D} {x y : D} {pos p : Pos}

/-! ### slices -/
def tXO (K : PySem.W.Frag) (Γ : List Ent) (m : Option (Option Int)) : TO := fun σ H Q => ∃ F O o, At K F O σ H Γ ∧ m = some o ∧ ∀ F' H', Grow F H F' H' → Q o H'
abbrev XO (X : Cx) (Γ : List Ent) (e : Option Expr) (m : Option (Option Int)) : Prop := PO X e (tXO X.K Γ m)
theorem _root_.L2.PO.weak {e : Option Expr} {t t' : TO} (h : PO X e t) (w : ∀ σ H Q, t' σ H Q → t σ H Q) : PO X e t' := ⟨fun p s σ H Q I q => h.run p s σ H Q I (w σ H Q q)⟩
theorem xo_none : XO X Γ none (some none) := po_none.weak fun σ H Q ⟨F, O, o, at_, e, q⟩ => by cases e; exact q F H (Grow.refl at_.sub)
theorem xo_some (ha : EX X Γ a ma) : XO X Γ (some a) (ma.bind pOpt) := (po_some ha).weak fun σ H Q ⟨F, O, o, at_, e, q⟩ => by
  obtain ⟨x, e1, e⟩ := bind_some' e
  refine ⟨F, O, x, at_, e1, fun v F1 H1 g1 r1 => ?_⟩
  cases r1 <;> simp only [pOpt, id, reduceCtorEq, Option.some.injEq] at e
  rename_i h _
  all_goals first
    | (subst e; exact ⟨_, rfl, q F1 H1 g1⟩)
theorem xo_some_a (ha : EX X Γ a (some x)) : XO X Γ (some a) (pOpt x) := xo_some ha
theorem ex_sl {lo hi : Option Expr} {ml mh : Option (Option Int)} {p2 : Pos} (ha : EX X Γ a ma) (hl : XO X Γ lo ml) (hh : XO X Γ hi mh) : EX X Γ (.Subscript a (.Slice lo hi none p2) pos) (ma.bind fun x => ml.bind fun l => mh.bind fun h => pSl x l h) :=
  (pe_slice sl_all ha hl hh).weak fun σ H Q ⟨F, O, z, at_, e, q⟩ => by
    obtain ⟨x, e1, e⟩ := bind_some' e
    obtain ⟨l, e2, e⟩ := bind_some' e
    obtain ⟨h, e3, e⟩ := bind_some' e
    exact ⟨F, O, x, at_, e1, fun v F1 H1 g1 r1 => ⟨F1, O, l, at_.grow g1, e2, fun F2 H2 g2 => ⟨F2, O, h, at_.grow (g1.trans g2), e3, fun F3 H3 g3 => rs_sl F3 H3 v x z l h Q g3.s (r1.mono (g2.f.trans g3.f)) e fun w F4 H4 g4 r4 => q w F4 H4 (((g1.trans g2).trans g3).trans g4) r4⟩⟩⟩
theorem ex_sl_a {lo hi : Option Expr} {ml mh : Option (Option Int)} {p2 : Pos} (ha : EX X Γ a (some x)) (hl : XO X Γ lo ml) (hh : XO X Γ hi mh) : EX X Γ (.Subscript a (.Slice lo hi none p2) pos) (ml.bind fun l => mh.bind fun h => pSl x l h) := ex_sl ha hl hh
theorem ex_sl_an {hi : Option Expr} {mh : Option (Option Int)} {p2 : Pos} (ha : EX X Γ a (some x)) (hh : XO X Γ hi mh) : EX X Γ (.Subscript a (.Slice none hi none p2) pos) (mh.bind fun h => pSl x none h) := ex_sl ha xo_none hh
theorem ex_sl_aan {lo : Option Expr} {ml : Option (Option Int)} {p2 : Pos} (ha : EX X Γ a (some x)) (hl : XO X Γ lo ml) : EX X Γ (.Subscript a (.Slice lo none none p2) pos) (ml.bind fun l => pSl x l none) := ex_sl ha hl xo_none

/-! ### built-ins called by name -/
def RSn (K : PySem.W.Frag) (r : List V → Hp → VK → Prop) (g : List D → Option D) : Prop := ∀ (F H : Hp) (vs : List V) (xs : List D) (z : D) (Q : VK), Le F H → Reps K F vs xs → g xs = some z → (∀ w F' H', Grow F H F' H' → Rep K F' w z → Q w H') → r vs H Q
/-- a built-in's name that the module does not take -/
def Free (E : ME) (n : Str) : Prop := E.mg n = none
theorem Free.at {n : Str} (h : Free E n) (L : LX X E kk N W G Sl sc) : X.mg n = none := by rw [L.mx.mg]; exact h
theorem ex_callB {r : List V → Hp → VK → Prop} {g : List D → Option D} {id : String} (L : LX X E kk N W G Sl sc) (j : Nat) {n : Str} (hG : G[j]? = some n) (hm : Free E n) (hv : bootBuiltins n = some (.builtin id)) (hc : CallR X (.builtin id) r) (hr : RSn X.K r g) (ha : AX X Γ (a :: es) g m)
    (he : starEach (a :: es) X.env = (false, eval a X.env) :: starEach es X.env := by rfl) (hpl : (backTo pos (starEach es X.env)).any (·.1) = false := by rfl) : EX X Γ (.Call (.Name n p) (a :: es) [] pos) m := by
  obtain ⟨h1, h2⟩ := L.gl (List.mem_of_getElem? hG)
  obtain ⟨d1, d2, d3⟩ := dund1 h2
  exact (pe_callB hc h1 (hm.at L) hv ha d3 d1 he hpl).weak fun σ H Q ⟨F, O, z, at_, e, q⟩ => ⟨F, O, z, at_, e, fun vs xs F1 H1 g1 r1 _ ek => hr F1 H1 vs xs z Q g1.s r1 ek fun w F2 H2 g2 r2 => q w F2 H2 (g1.trans g2) r2⟩
theorem ex_callT {r : List V → Hp → VK → Prop} {g : List D → Option D} {T : String} (L : LX X E kk N W G Sl sc) (j : Nat) {n : Str} (hG : G[j]? = some n) (hm : Free E n) (hv : bootBuiltins n = some (.type T)) (hc : CallR X (.type T) r) (hr : RSn X.K r g) (ha : AX X Γ (a :: es) g m)
    (he : starEach (a :: es) X.env = (false, eval a X.env) :: starEach es X.env := by rfl) (hpl : (backTo pos (starEach es X.env)).any (·.1) = false := by rfl) : EX X Γ (.Call (.Name n p) (a :: es) [] pos) m := by
  obtain ⟨h1, h2⟩ := L.gl (List.mem_of_getElem? hG)
  obtain ⟨d1, d2, d3⟩ := dund1 h2
  exact (pe_callTy hc h1 (hm.at L) hv ha d3 d1 he hpl).weak fun σ H Q ⟨F, O, z, at_, e, q⟩ => ⟨F, O, z, at_, e, fun vs xs F1 H1 g1 r1 _ ek => hr F1 H1 vs xs z Q g1.s r1 ek fun w F2 H2 g2 r2 => q w F2 H2 (g1.trans g2) r2⟩
/-- of one argument -/
def g0 {B : Type} (g : Option B) : List D → Option B
  | [] => g
  | _ => none
def g1 {B : Type} (g : D → Option B) : List D → Option B
  | [x] => g x
  | _ => none
def g2 {B : Type} (g : D → D → Option B) : List D → Option B
  | [x, y] => g x y
  | _ => none
def g3 {B : Type} (g : D → D → D → Option B) : List D → Option B
  | [x, y, z] => g x y z
  | _ => none
def g4 {B : Type} (g : D → D → D → D → Option B) : List D → Option B
  | [x, y, z, w] => g x y z w
  | _ => none
def g5 {B : Type} (g : D → D → D → D → D → Option B) : List D → Option B
  | [x, y, z, w, v] => g x y z w v
  | _ => none
def g6 {B : Type} (g : D → D → D → D → D → D → Option B) : List D → Option B
  | [x, y, z, w, v, u] => g x y z w v u
  | _ => none
def g7 {B : Type} (g : D → D → D → D → D → D → D → Option B) : List D → Option B
  | [x, y, z, w, v, u, t] => g x y z w v u t
  | _ => none
def g8 {B : Type} (g : D → D → D → D → D → D → D → D → Option B) : List D → Option B
  | [x, y, z, w, v, u, t, s] => g x y z w v u t s
  | _ => none

/-! len -/
def pLen : D → Option D
  | .str x => if x.length ≤ sizeLine then some (.int x.length) else none
  | .list xs => some (.int xs.length)
  | .tuple xs => some (.int xs.length)
  | _ => none
theorem rs_len {K : PySem.W.Frag} : RSn K (fun xs H Q => ∃ x n, xs = [x] ∧ LenV K x H n ∧ Q (.int n) H) (g1 pLen) := by
  intro F H vs xs z Q s r e q
  cases r with
  | nil => cases e
  | cons r1 r2 =>
    cases r2 with
    | cons _ _ => cases e
    | nil =>
      cases r1 with
      | str y =>
        simp only [g1, pLen] at e
        split at e
        · rename_i hz; cases e; exact ⟨_, _, rfl, ⟨hz, rfl⟩, q _ F H (Grow.refl s) (.int _)⟩
        · cases e
      | lst h r => cases e; exact ⟨_, _, rfl, .inl ⟨_, .of (s _ _ h.1), rfl⟩, q _ F H (Grow.refl s) (by rw [r.length]; exact .int _)⟩
      | tup h r => cases e; exact ⟨_, _, rfl, .inr ⟨_, le_t s h.1.sq, rfl⟩, q _ F H (Grow.refl s) (by rw [r.length]; exact .int _)⟩
      | _ => simp [g1, pLen] at e
/-! int(..), list(..), tuple(..) -/
def pInt : D → Option D
  | .int i => some (.int i)
  | .bool k => some (.int (if k then 1 else 0))
  | .str x => if x.length ≤ 640 then (PySem.intText? x).map .int else none
  | _ => none
def rInt : List V → Hp → VK → Prop := fun xs H Q => ((∃ i, xs = [.int i] ∧ Q (.int i) H) ∨ ∃ k, xs = [.bl k] ∧ Q (.int (if k then 1 else 0)) H) ∨ (∃ a n, xs = [.str a] ∧ PySem.intText? a = some n ∧ a.length ≤ 640 ∧ Q (.int n) H)
theorem callr_or {f : Value} {r r' : List V → Hp → VK → Prop} (h : CallR X f r) (h' : CallR X f r') : CallR X f (fun x H Q => r x H Q ∨ r' x H Q) := by
  intro pins s σ H x u Q I rx q
  rcases q with q | q
  · exact h pins s σ H x u Q I rx q
  · exact h' pins s σ H x u Q I rx q
theorem call_int : CallR X (.type "int") rInt := callr_or call_int1 call_int_str
theorem rs_int {K : PySem.W.Frag} : RSn K rInt (g1 pInt) := by
  intro F H vs xs z Q s r e q
  cases r with
  | nil => cases e
  | cons r1 r2 =>
    cases r2 with
    | cons _ _ => cases e
    | nil =>
      cases r1 with
      | int i => cases e; exact .inl (.inl ⟨_, rfl, q _ F H (Grow.refl s) (.int _)⟩)
      | bl k => cases e; exact .inl (.inr ⟨_, rfl, q _ F H (Grow.refl s) (.int _)⟩)
      | str y =>
        simp only [g1, pInt] at e
        split at e
        · rename_i hz
          cases hn : PySem.intText? y with
          | none => rw [hn] at e; cases e
          | some n => rw [hn] at e; cases e; exact .inr ⟨y, n, rfl, hn, hz, q _ F H (Grow.refl s) (.int _)⟩
        · cases e
      | _ => simp [g1, pInt] at e
def pList : D → Option D
  | .list xs => some (.list xs)
  | .tuple xs => some (.list xs)
  | _ => none
def pTuple : D → Option D
  | .list xs => some (.tuple xs)
  | .tuple xs => some (.tuple xs)
  | _ => none
theorem rs_list {K : PySem.W.Frag} : RSn K (fun xs H Q => ∃ p ys, xs = [.ref p] ∧ (SqL K H p ys ∨ SqT K H p ys) ∧ ∀ l, H l = none → Q (.ref l) (upd H l (.lst ys))) (g1 pList) := by
  intro F H vs xs z Q s r e q
  cases r with
  | nil => cases e
  | cons r1 r2 =>
    cases r2 with
    | cons _ _ => cases e
    | nil =>
      cases r1 with
      | lst h r =>
        cases e
        refine ⟨_, _, rfl, .inl (.of (s _ _ h.1)), fun l hl => ?_⟩
        obtain ⟨g2, r2⟩ := grow_lst s hl h.2 r
        exact q _ _ _ g2 r2
      | tup h r =>
        cases e
        refine ⟨_, _, rfl, .inr (le_t s h.1.sq), fun l hl => ?_⟩
        obtain ⟨g2, r2⟩ := grow_lst s hl h.2 r
        exact q _ _ _ g2 r2
      | _ => simp [g1, pList] at e
theorem rs_tuple {K : PySem.W.Frag} : RSn K (fun xs H Q => ∃ p ys, xs = [.ref p] ∧ ((SqL K H p ys ∧ ∀ (o : Obj) l, o.dict = none → H l = none → Q (.ref l) (upd H l (.frz o (.tup ys)))) ∨ (SqT K H p ys ∧ Q (.ref p) H))) (g1 pTuple) := by
  intro F H vs xs z Q s r e q
  cases r with
  | nil => cases e
  | cons r1 r2 =>
    cases r2 with
    | cons _ _ => cases e
    | nil =>
      cases r1 with
      | lst h r =>
        cases e
        refine ⟨_, _, rfl, .inl ⟨.of (s _ _ h.1), fun o l ho hl => ?_⟩⟩
        obtain ⟨g2, r2⟩ := grow_tup ho s hl h.2 r
        exact q _ _ _ g2 r2
      | tup h r =>
        cases e
        exact ⟨_, _, rfl, .inr ⟨le_t s h.1.sq, q _ F H (Grow.refl s) (.tup h r)⟩⟩
      | _ => simp [g1, pTuple] at e
/-! all, any of truth values -/
def dBools : List D → Option (List Bool)
  | [] => some []
  | .bool b :: r => (dBools r).map (b :: ·)
  | _ :: _ => none
theorem reps_bools {K : PySem.W.Frag} {F : Hp} : ∀ {vs : List V} {xs : List D} {bs : List Bool}, Reps K F vs xs → dBools xs = some bs → vs = bs.map V.bl
  | _, _, bs, .nil, e => by cases e; rfl
  | _, _, bs, .cons (.bl b) r, e => by
    simp only [dBools] at e
    obtain ⟨cs, h1, h2⟩ := Option.map_eq_some_iff.mp e
    subst h2
    rw [reps_bools r h1]
    rfl
  | _, _, bs, .cons .non r, e => by cases e
  | _, _, bs, .cons (.int _) r, e => by cases e
  | _, _, bs, .cons (.str _) r, e => by cases e
  | _, _, bs, .cons (.lst _ _) r, e => by cases e
  | _, _, bs, .cons (.tup _ _) r, e => by cases e
def pAll : D → Option D
  | .list xs => (dBools xs).map fun bs => .bool (bs.all id)
  | _ => none
def pAny : D → Option D
  | .list xs => (dBools xs).map fun bs => .bool (bs.any id)
  | _ => none
theorem rs_all {K : PySem.W.Frag} : RSn K (rAll K) (g1 pAll) := by
  intro F H vs xs z Q s r e q
  cases r with
  | nil => cases e
  | cons r1 r2 =>
    cases r2 with
    | cons _ _ => cases e
    | nil =>
      cases r1 with
      | lst h r =>
        simp only [g1, pAll] at e
        obtain ⟨bs, h1, h2⟩ := Option.map_eq_some_iff.mp e
        subst h2
        have := reps_bools r h1
        subst this
        exact ⟨_, bs, rfl, .of (s _ _ h.1), q _ F H (Grow.refl s) (.bl _)⟩
      | _ => simp [g1, pAll] at e
theorem rs_any {K : PySem.W.Frag} : RSn K (rAny K) (g1 pAny) := by
  intro F H vs xs z Q s r e q
  cases r with
  | nil => cases e
  | cons r1 r2 =>
    cases r2 with
    | cons _ _ => cases e
    | nil =>
      cases r1 with
      | lst h r =>
        simp only [g1, pAny] at e
        obtain ⟨bs, h1, h2⟩ := Option.map_eq_some_iff.mp e
        subst h2
        have := reps_bools r h1
        subst this
        exact ⟨_, bs, rfl, .of (s _ _ h.1), q _ F H (Grow.refl s) (.bl _)⟩
      | _ => simp [g1, pAny] at e
/-! isinstance(x, T) -/
/-- T's truth on data -/
def IsaR (X : Cx) (T : String) (f : D → Bool) : Prop := ∀ (s : Shared) (v : Value) (d : D) (as : List Addr) (Q : Value → Shared → Prop), Reads s.heap v d as → (∀ tk, s.toks ≤ tk → Q (.bool (f d)) { s with toks := tk }) → wpAny (model X.prog X.w) X.A (call (.builtin "isinstance") [v, .type T]) Q X.xe s
theorem isa_tuple : IsaR X "tuple" PyData.isTuple := fun _ _ _ _ _ r h => PySem.W.isinstance_tuple_data r h
theorem isa_list : IsaR X "list" PyData.isList := fun _ _ _ _ _ r h => PySem.W.isinstance_list_data r h
theorem isa_bool : IsaR X "bool" PyData.isBool := fun _ _ _ _ _ r h => PySem.W.isinstance_bool_data r h
theorem isa_int : IsaR X "int" PyData.isInt := fun _ _ _ _ _ r h => PySem.W.isinstance_int_data r h
theorem isa_str : IsaR X "str" PyData.isStr := fun _ _ _ _ _ r h => PySem.W.isinstance_str_data r h
theorem ex_isa {T : String} {f : D → Bool} {n : Str} {p1 p2 : Pos} (hi : IsaR X T f) (L : LX X E kk N W G Sl sc) (i j : Nat) (hG : G[i]? = some ("isinstance" : Str)) (hm : Free E "isinstance") (hT : G[j]? = some n) (hmT : Free E n) (hv : bootBuiltins n = some (.type T)) (ha : EX X Γ a ma)
    (he : starEach [a, .Name n p2] X.env = (false, eval a X.env) :: starEach [.Name n p2] X.env := by rfl) (he2 : starEach [.Name n p2] X.env = (false, eval (.Name n p2) X.env) :: starEach [] X.env := by rfl) (hpl : (backTo pos (starEach [.Name n p2] X.env)).any (·.1) = false := by rfl) :
    EX X Γ (.Call (.Name "isinstance" p1) [a, .Name n p2] [] pos) (ma.map fun x => .bool (f x)) := by
  obtain ⟨h1, h2⟩ := L.gl (List.mem_of_getElem? hG)
  obtain ⟨h3, h4⟩ := L.gl (List.mem_of_getElem? hT)
  obtain ⟨d1, d2, d3⟩ := dund1 h2
  obtain ⟨f1, f2, f3⟩ := dund1 h4
  have hc : CallR X (.builtin "isinstance") (fun vs H Q => ∃ v x, vs = [v, .ty T] ∧ Rep X.K H v x ∧ Q (.bl (f x)) H) := by
    intro pins s σ H vs us Q I r ⟨v, x, e, rx, q⟩
    subst e
    obtain ⟨u1, u2, rfl, r1, r2⟩ := vals2 r
    cases (show u2 = Value.type T from r2)
    obtain ⟨as, rd⟩ := Dp.reads I x v u1 rx.dp r1
    exact hi s u1 x as _ rd fun tk _ => ⟨.bl _, H, I.tok tk, rfl, q⟩
  refine (pe_callB hc h1 (hm.at L) PyProof.Rows.boot_isinstance (pa_cons ha (pa_cons (pe_bltn h3 (hmT.at L) hv (v := .ty T) rfl f3 f1) pa_nil he2) he) d3 d1 he hpl).weak fun σ H Q ⟨F, O, z, at_, e, q⟩ => ?_
  obtain ⟨x, e1, e2⟩ := Option.map_eq_some_iff.mp e
  subst e2
  exact ⟨F, O, x, at_, e1, fun v F1 H1 g1 r1 => ⟨v, x, rfl, r1.mono g1.s, q _ F1 H1 g1 (.bl _)⟩⟩
theorem ex_isa_a {T : String} {f : D → Bool} {n : Str} {p1 p2 : Pos} (hi : IsaR X T f) (L : LX X E kk N W G Sl sc) (i j : Nat) (hG : G[i]? = some ("isinstance" : Str)) (hm : Free E "isinstance") (hT : G[j]? = some n) (hmT : Free E n) (hv : bootBuiltins n = some (.type T)) (ha : EX X Γ a (some x))
    (he : starEach [a, .Name n p2] X.env = (false, eval a X.env) :: starEach [.Name n p2] X.env := by rfl) (he2 : starEach [.Name n p2] X.env = (false, eval (.Name n p2) X.env) :: starEach [] X.env := by rfl) (hpl : (backTo pos (starEach [.Name n p2] X.env)).any (·.1) = false := by rfl) :
    EX X Γ (.Call (.Name "isinstance" p1) [a, .Name n p2] [] pos) (some (.bool (f x))) := ex_isa hi L i j hG hm hT hmT hv ha he he2 hpl
end
end Z
namespace Z
open PySem PySem.Spec L2

/-! ## statements: how a block ends -/
inductive Ctl (N L R : Type)
  | nx (n : N)
  | bk (l : L)
  | ct (l : L)
  | rt (r : R)
namespace Ctl
variable {N N' L R S : Type}
/-- one behind the other -/
def seq (m : Option (Ctl N L R)) (k : N → Option (Ctl N' L R)) : Option (Ctl N' L R) :=
  match m with
  | none => none
  | some (.nx n) => k n
  | some (.bk l) => some (.bk l)
  | some (.ct l) => some (.ct l)
  | some (.rt r) => some (.rt r)
@[simp] theorem seq_nx (n : N) (k : N → Option (Ctl N' L R)) : seq (some (.nx n)) k = k n := rfl
@[simp] theorem seq_bk (l : L) (k : N → Option (Ctl N' L R)) : seq (some (.bk l)) k = some (.bk l) := rfl
@[simp] theorem seq_ct (l : L) (k : N → Option (Ctl N' L R)) : seq (some (.ct l)) k = some (.ct l) := rfl
@[simp] theorem seq_rt (r : R) (k : N → Option (Ctl N' L R)) : seq (some (.rt r)) k = some (.rt r) := rfl
@[simp] theorem seq_none (k : N → Option (Ctl N' L R)) : seq none k = none := rfl
theorem seq_bind {A : Type} (m : Option A) (f : A → Option (Ctl N L R)) (k : N → Option (Ctl N' L R)) : seq (m.bind f) k = m.bind fun a => seq (f a) k := by cases m <;> rfl
/-- a block that never ends in the ordinary way -/
def ex (m : Option (Ctl N L R)) : Option (Ctl N' L R) :=
  match m with
  | none => none
  | some (.nx _) => none
  | some (.bk l) => some (.bk l)
  | some (.ct l) => some (.ct l)
  | some (.rt r) => some (.rt r)
@[simp] theorem ex_bk (l : L) : (ex (some (.bk l : Ctl N L R)) : Option (Ctl N' L R)) = some (.bk l) := rfl
@[simp] theorem ex_ct (l : L) : (ex (some (.ct l : Ctl N L R)) : Option (Ctl N' L R)) = some (.ct l) := rfl
@[simp] theorem ex_rt (r : R) : (ex (some (.rt r : Ctl N L R)) : Option (Ctl N' L R)) = some (.rt r) := rfl
@[simp] theorem ex_none : (ex (none : Option (Ctl N L R)) : Option (Ctl N' L R)) = none := rfl
theorem ex_bind {A : Type} (m : Option A) (f : A → Option (Ctl N L R)) : (ex (m.bind f) : Option (Ctl N' L R)) = m.bind fun a => ex (f a) := by cases m <;> rfl
/-- a def's answer -/
def fin (d : N → R) (m : Option (Ctl N L R)) : Option R :=
  match m with
  | some (.nx n) => some (d n)
  | some (.rt r) => some r
  | _ => none
@[simp] theorem fin_nx (d : N → R) (n : N) : fin d (some (.nx n : Ctl N L R)) = some (d n) := rfl
@[simp] theorem fin_rt (d : N → R) (r : R) : fin d (some (.rt r : Ctl N L R)) = some r := rfl
@[simp] theorem fin_none (d : N → R) : fin d (none : Option (Ctl N L R)) = none := rfl
theorem fin_bind {A : Type} (d : N → R) (m : Option A) (f : A → Option (Ctl N L R)) : fin d (m.bind f) = m.bind fun a => fin d (f a) := by cases m <;> rfl
theorem fin_some {d : N → R} {m : Option (Ctl N L R)} {r : R} (h : fin d m = some r) : (∃ n, m = some (.nx n) ∧ d n = r) ∨ m = some (.rt r) := by
  unfold fin at h
  split at h
  · rename_i n; exact .inl ⟨n, rfl, Option.some.inj h⟩
  · rename_i q; exact .inr (by rw [Option.some.inj h])
  · cases h
end Ctl
/-- a for loop: the items, a turn, the state -/
def forC {S L R : Type} (f : D → S → Option (Ctl S S R)) : List D → S → Option (Ctl S L R)
  | [], s => some (.nx s)
  | x :: r, s => match f x s with
    | none => none
    | some (.nx t) => forC f r t
    | some (.ct t) => forC f r t
    | some (.bk t) => some (.nx t)
    | some (.rt v) => some (.rt v)
/-- a while loop, of so many turns at most -/
def whileC {S L R : Type} (c : S → Option Bool) (f : S → Option (Ctl S S R)) : Nat → S → Option (Ctl S L R)
  | 0, _ => none
  | n + 1, s => match c s with
    | none => none
    | some false => some (.nx s)
    | some true => match f s with
      | none => none
      | some (.nx t) => whileC c f n t
      | some (.ct t) => whileC c f n t
      | some (.bk t) => some (.nx t)
      | some (.rt v) => some (.rt v)

/-- a block's reading -/
def tEnd {N L R : Type} (K : PySem.W.Frag) (F O : Hp) (gN : N → List Ent) (gL : L → List Ent) (gR : R → List Ent) (vR : R → D) (D : Ends) : Ctl N L R → Prop
  | .nx n => ∀ σ' F' H', Le F F' → At K F' O σ' H' (gN n) → D.nx σ' H'
  | .bk l => ∀ σ' F' H', Le F F' → At K F' O σ' H' (gL l) → D.bk σ' H'
  | .ct l => ∀ σ' F' H', Le F F' → At K F' O σ' H' (gL l) → D.ct σ' H'
  | .rt r => ∀ v σ' F' H', Le F F' → At K F' O σ' H' (gR r) → Rep K F' v (vR r) → D.rt v H'
theorem tEnd.le {N L R : Type} {K : PySem.W.Frag} {F F' O : Hp} {gN : N → List Ent} {gL : L → List Ent} {gR : R → List Ent} {vR : R → D} {D : Ends} (f : Le F F') : ∀ {c : Ctl N L R}, tEnd K F O gN gL gR vR D c → tEnd K F' O gN gL gR vR D c
  | .nx _, q => fun σ2 F2 H2 f2 a2 => q σ2 F2 H2 (f.trans f2) a2
  | .bk _, q => fun σ2 F2 H2 f2 a2 => q σ2 F2 H2 (f.trans f2) a2
  | .ct _, q => fun σ2 F2 H2 f2 a2 => q σ2 F2 H2 (f.trans f2) a2
  | .rt _, q => fun v σ2 F2 H2 f2 a2 => q v σ2 F2 H2 (f.trans f2) a2
def tBS {N L R : Type} (K : PySem.W.Frag) (Γ : List Ent) (m : Option (Ctl N L R)) (gN : N → List Ent) (gL : L → List Ent) (gR : R → List Ent) (vR : R → D) : TS := fun D σ H => ∃ F O c, At K F O σ H Γ ∧ m = some c ∧ tEnd K F O gN gL gR vR D c
abbrev BS {N L R : Type} (X : Cx) (Γ : List Ent) (ss : List Stmt) (m : Option (Ctl N L R)) (gN : N → List Ent) (gL : L → List Ent) (gR : R → List Ent) (vR : R → D) : Prop := PSs X ss (tBS X.K Γ m gN gL gR vR)
abbrev SS {N L R : Type} (X : Cx) (Γ : List Ent) (s : Stmt) (m : Option (Ctl N L R)) (gN : N → List Ent) (gL : L → List Ent) (gR : R → List Ent) (vR : R → D) : Prop := PS X s (tBS X.K Γ m gN gL gR vR)
theorem _root_.L2.PSs.ex {X : Cx} {ss : List Stmt} {A : Type} {t : A → TS} (h : ∀ a, PSs X ss (t a)) : PSs X ss (fun D σ H => ∃ a, t a D σ H) := ⟨fun p s σ H D I ⟨a, q⟩ => (h a).run p s σ H D I q⟩
theorem _root_.L2.PG.ex {X : Cx} {tg : Expr} {A : Type} {t : A → TG} (h : ∀ a, PG X tg (t a)) : PG X tg (fun v σ H Q => ∃ a, t a v σ H Q) := ⟨fun p s σ H v u Q I r ⟨a, q⟩ => (h a).run p s σ H v u Q I r q⟩
theorem _root_.L2.PG.weak {X : Cx} {tg : Expr} {t t' : TG} (h : PG X tg t) (w : ∀ v σ H Q, t' v σ H Q → t v σ H Q) : PG X tg t' := ⟨fun p s σ H v u Q I r q => h.run p s σ H v u Q I r (w v σ H Q q)⟩
theorem _root_.L2.PI.weak {X : Cx} {tg e : Expr} {t t' : TI} (h : PI X tg e t) (w : ∀ σ H Q, t' σ H Q → t σ H Q) : PI X tg e t' := ⟨fun p s σ H Q I q => h.run p s σ H Q I (w σ H Q q)⟩
theorem _root_.L2.PI.or {X : Cx} {tg e : Expr} {t t' : TI} (h : PI X tg e t) (h' : PI X tg e t') : PI X tg e (fun σ H Q => t σ H Q ∨ t' σ H Q) := ⟨fun p s σ H Q I q => q.elim (h.run p s σ H Q I) (h'.run p s σ H Q I)⟩

section
variable {X : Cx} {E : ME} {kk : Nat} {N W G Sl : List Str} {sc : Scope} {Γ Δ : List Ent} {e c : Expr} {pos : Pos} {x : D} {me : Option D} {st : Stmt} {rest ss : List Stmt}
variable {Nt Nt' L' R' : Type} {gN : Nt → List Ent} {gN' : Nt' → List Ent} {gL : L' → List Ent} {gR : R' → List Ent} {vR : R' → D}

theorem LX.slot (L : LX X E kk N W G Sl sc) {i j : Nat} {n : Str} (hN : N[i]? = some n) (hT : Sl[j]? = some n) : X.N[i]? = some n ∧ Loc X.env.scope n ∧ (X.fn n = true ∨ X.env.scope.names.lookup n = some .local) := by
  obtain ⟨h1, h2⟩ := L.sto n (List.mem_of_getElem? hT)
  exact ⟨by rw [L.n]; exact hN, h1, h2⟩

/-! ### blocks -/
theorem bs_nil {n : Nt} (w : Weak Γ (gN n)) : BS X Γ [] (some (.nx n)) gN gL gR vR := pss_nil.weak fun D σ H ⟨F, O, c, at_, e, q⟩ => by cases e; exact q σ F H (Le.refl F) (at_.weak w)
theorem bs_seq {m : Option (Ctl Nt' L' R')} {k : Nt' → Option (Ctl Nt L' R')} (h : SS X Γ st m gN' gL gR vR) (hr : ∀ n, BS X (gN' n) rest (k n) gN gL gR vR) : BS X Γ (st :: rest) (Ctl.seq m k) gN gL gR vR :=
  (pss_cons h (PSs.ex hr)).weak fun D σ H ⟨F, O, c, at_, e, q⟩ => by
    cases m with
    | none => cases e
    | some b =>
      refine ⟨F, O, b, at_, rfl, ?_⟩
      cases b with
      | nx n => exact fun σ' F' H' f a' => ⟨n, F', O, c, a', e, q.le f⟩
      | bk l => cases e; exact q
      | ct l => cases e; exact q
      | rt l => cases e; exact q
theorem bs_one {m : Option (Ctl Nt L' R')} (h : SS X Γ st m gN gL gR vR) : BS X Γ [st] m gN gL gR vR := pss_one h
/-- what is known of the slots, forgotten in part -/
theorem bs_weak {m : Option (Ctl Nt L' R')} (w : Weak Γ Δ) (h : BS X Δ ss m gN gL gR vR) : BS X Γ ss m gN gL gR vR := PSs.weak h fun D σ H ⟨F, O, c, at_, e, q⟩ => ⟨F, O, c, at_.weak w, e, q⟩
/-- the rest of a block, behind a step that leads to one state -/
theorem le_rest {K : PySem.W.Frag} {F F' O : Hp} {m : Option (Ctl Nt L' R')} {D : Ends} {σ' : L2.St} {H' : Hp} {c : Ctl Nt L' R'} (f : Le F F') (a' : At K F' O σ' H' Δ) (e : m = some c)
    (q : tEnd K F O gN gL gR vR D c) : tBS K Δ m gN gL gR vR D σ' H' := ⟨F', O, c, a', e, q.le f⟩

/-! ### small statements -/
theorem bs_ret {mk : D → R'} (he : EX X Γ e me) (h1 : ∀ x, vR (mk x) = x) (h2 : ∀ x, Weak Γ (gR (mk x))) : BS X Γ (.Return (some e) pos :: rest) (me.bind fun x => some (.rt (mk x))) gN gL gR vR :=
  (pss_cons (ps_ret he) pss_never).weak fun D σ H ⟨F, O, c, at_, e, q⟩ => by
    obtain ⟨x, e1, e⟩ := bind_some' e
    cases e
    exact ⟨F, O, x, at_, e1, fun v F1 H1 g1 r1 => q v σ F1 H1 g1.f ((at_.grow g1).weak (h2 x)) (by rw [h1]; exact r1)⟩
theorem bs_ret_a {mk : D → R'} (he : EX X Γ e (some x)) (h1 : ∀ x, vR (mk x) = x) (h2 : ∀ x, Weak Γ (gR (mk x))) : BS X Γ (.Return (some e) pos :: rest) (some (.rt (mk x))) gN gL gR vR := bs_ret he h1 h2
theorem bs_retN {r : R'} (h1 : vR r = .none) (h2 : Weak Γ (gR r)) : BS X Γ (.Return none pos :: rest) (some (.rt r)) gN gL gR vR :=
  (pss_cons ps_retN pss_never).weak fun D σ H ⟨F, O, c, at_, e, q⟩ => by
    cases e
    exact q _ σ F H (Le.refl F) (at_.weak h2) (by rw [h1]; exact .non)
theorem bs_brk {l : L'} (w : Weak Γ (gL l)) : BS X Γ (.Break pos :: rest) (some (.bk l)) gN gL gR vR := (pss_cons ps_break pss_never).weak fun D σ H ⟨F, O, c, at_, e, q⟩ => by cases e; exact q σ F H (Le.refl F) (at_.weak w)
theorem bs_cont {l : L'} (w : Weak Γ (gL l)) : BS X Γ (.Continue pos :: rest) (some (.ct l)) gN gL gR vR := (pss_cons ps_continue pss_never).weak fun D σ H ⟨F, O, c, at_, e, q⟩ => by cases e; exact q σ F H (Le.refl F) (at_.weak w)
theorem bs_pass {m : Option (Ctl Nt L' R')} (h : BS X Γ rest m gN gL gR vR) : BS X Γ (.Pass pos :: rest) m gN gL gR vR := (pss_cons ps_pass h).weak fun D σ H q => q
/-- name = e -/
theorem bs_set (L : LX X E kk N W G Sl sc) (i j : Nat) {n : Str} {p' : Pos} {k : D → Option (Ctl Nt L' R')} (hN : N[i]? = some n) (hT : Sl[j]? = some n) (he : EX X Γ e me) (hr : ∀ x, BS X (Γ.set i (.fz x)) rest (k x) gN gL gR vR)
    (hs : swapsWith e (some (.Name n p')) pos.line X.env = pure false := by rfl) : BS X Γ (.Assign [.Name n p'] e pos :: rest) (me.bind k) gN gL gR vR := by
  obtain ⟨h1, h2, h3⟩ := L.slot hN hT
  exact (pss_cons (ps_set L.nd h1 h2 he hs h3) (PSs.ex hr)).weak fun D σ H ⟨F, O, c, at_, e, q⟩ => by
    obtain ⟨x, e1, e⟩ := bind_some' e
    exact ⟨F, O, x, at_, e1, fun v F1 H1 g1 r1 => ⟨x, le_rest g1.f ((at_.grow g1).set r1) e q⟩⟩
theorem bs_set_a (L : LX X E kk N W G Sl sc) (i j : Nat) {n : Str} {p' : Pos} {m : Option (Ctl Nt L' R')} (hN : N[i]? = some n) (hT : Sl[j]? = some n) (he : EX X Γ e (some x)) (hr : BS X (Γ.set i (.fz x)) rest m gN gL gR vR)
    (hs : swapsWith e (some (.Name n p')) pos.line X.env = pure false := by rfl) : BS X Γ (.Assign [.Name n p'] e pos :: rest) m gN gL gR vR := by
  obtain ⟨h1, h2, h3⟩ := L.slot hN hT
  exact (pss_cons (ps_set L.nd h1 h2 he hs h3) hr).weak fun D σ H ⟨F, O, c, at_, e, q⟩ => ⟨F, O, x, at_, rfl, fun v F1 H1 g1 r1 => le_rest g1.f ((at_.grow g1).set r1) e q⟩
/-- name op= e -/
theorem bs_aug (L : LX X E kk N W G Sl sc) (i j : Nat) {n : Str} {p' : Pos} {op : Operator} {r : R2} {g : D → D → Option D} {k : D → Option (Ctl Nt L' R')} (hN : N[i]? = some n) (hT : Sl[j]? = some n) (hΓ : Γ[i]? = some (.fz x)) (ho : OpR X (inplaceOp op) r) (hr2 : RS2 X.K r g) (he : EX X Γ e me)
    (hr : ∀ x, BS X (Γ.set i (.fz x)) rest (k x) gN gL gR vR) : BS X Γ (.AugAssign (.Name n p') op e pos :: rest) (me.bind fun y => (g x y).bind k) gN gL gR vR := by
  obtain ⟨h1, h2, h3⟩ := L.slot hN hT
  refine (pss_cons (ps_aug (ti := r) L.nd h1 h2 he (fun p s σ H v u a b Q I r1 r2 q => ho p s σ H v u a b Q I r1 r2 q) h3) (PSs.ex hr)).weak fun D σ H ⟨F, O, c, at_, e, q⟩ => ?_
  obtain ⟨y, e1, e⟩ := bind_some' e
  obtain ⟨z, e2, e⟩ := bind_some' e
  obtain ⟨v, hv, rx⟩ := at_.fz hΓ
  exact ⟨v, hv, F, O, y, at_, e1, fun u F1 H1 g1 r1 => hr2 F1 H1 v u x y z _ g1.s (rx.mono g1.f) r1 e2 fun w F2 H2 g2 r2 => ⟨z, le_rest (g1.trans g2).f ((at_.grow (g1.trans g2)).set r2) e q⟩⟩
/-- an expression as a statement -/
theorem bs_expr {k : D → Option (Ctl Nt L' R')} (he : EX X Γ e me) (hr : ∀ x, BS X Γ rest (k x) gN gL gR vR) (hs : swapsWith e none pos.line X.env = pure false := by rfl) : BS X Γ (.Expr e pos :: rest) (me.bind k) gN gL gR vR :=
  (pss_cons (ps_expr he hs) (PSs.ex hr)).weak fun D σ H ⟨F, O, c, at_, e, q⟩ => by
    obtain ⟨x, e1, e⟩ := bind_some' e
    exact ⟨F, O, x, at_, e1, fun v F1 H1 g1 r1 => ⟨x, le_rest g1.f (at_.grow g1) e q⟩⟩

/-! ### if -/
theorem ss_if {tc : Option Bool} {a b : List Stmt} {m1 m2 : Option (Ctl Nt L' R')} (hc : TX X Γ c tc) (ha : BS X Γ a m1 gN gL gR vR) (hb : BS X Γ b m2 gN gL gR vR) : SS X Γ (.If c a b pos) (tc.bind fun k => if k = true then m1 else m2) gN gL gR vR :=
  (ps_if hc ha hb).weak fun D σ H ⟨F, O, c, at_, e, q⟩ => by
    obtain ⟨k, e1, e⟩ := bind_some' e
    refine ⟨F, O, k, at_, e1, fun F1 H1 g1 => ?_⟩
    cases k with
    | true => exact le_rest g1.f (at_.grow g1) e q
    | false => exact le_rest g1.f (at_.grow g1) e q
/-- if c: .. (which never goes on); the rest -/
theorem bs_ifx {tc : Option Bool} {a : List Stmt} {m1 : Option (Ctl Nt' L' R')} {m2 : Option (Ctl Nt L' R')} (hc : TX X Γ c tc) (ha : BS X Γ a m1 gN' gL gR vR) (hr : BS X Γ rest m2 gN gL gR vR) :
    BS X Γ (.If c a [] pos :: rest) (tc.bind fun k => if k = true then Ctl.ex m1 else m2) gN gL gR vR :=
  (pss_cons (ps_if hc ha pss_nil) hr).weak fun D σ H ⟨F, O, c, at_, e, q⟩ => by
    obtain ⟨k, e1, e⟩ := bind_some' e
    refine ⟨F, O, k, at_, e1, fun F1 H1 g1 => ?_⟩
    cases k with
    | true =>
      simp only [if_true] at e ⊢
      cases m1 with
      | none => cases e
      | some d =>
        cases d with
        | nx n => cases e
        | bk l => cases e; exact le_rest (m := some _) g1.f (at_.grow g1) rfl q
        | ct l => cases e; exact le_rest (m := some _) g1.f (at_.grow g1) rfl q
        | rt l => cases e; exact le_rest (m := some _) g1.f (at_.grow g1) rfl q
    | false => exact le_rest g1.f (at_.grow g1) e q
end
end Z
namespace Z
open PySem PySem.Spec L2

/-! ## what is walked -/
structure ItD (K : PySem.W.Frag) (F : Hp) (J : It) (xs : List D) : Prop where
  go : ∀ i F' H, Le F F' → Le F' H → i < xs.length → J.go i H
  yld : ∀ i F' H v H', Le F F' → Le F' H → J.yld i H v H' → ∀ x, xs[i]? = some x → ∃ F'', Grow F' H F'' H' ∧ Rep K F'' v x
  stop : ∀ F' H, Le F F' → Le F' H → J.stop xs.length H
  len : xs.length ≤ sizeLine
def tXI (K : PySem.W.Frag) (Γ : List Ent) (m : Option (List D)) : TI := fun σ H R => ∃ F O xs, At K F O σ H Γ ∧ m = some xs ∧ ∀ F' H' J, Grow F H F' H' → ItD K F' J xs → R J H'
abbrev XI (X : Cx) (Γ : List Ent) (tg e : Expr) (m : Option (List D)) : Prop := PI X tg e (tXI X.K Γ m)
/-- the items of a list, a tuple, a text -/
def pIter : D → Option (List D)
  | .list xs => some xs
  | .tuple xs => some xs
  | .str z => if z.length ≤ sizeLine then some (z.cps.toList.map fun c => .str ⟨#[c]⟩) else none
  | _ => none
section
variable {X : Cx} {E : ME} {kk : Nat} {N W G Sl : List Str} {sc : Scope} {Γ : List Ent} {tg e a b c : Expr} {pos p : Pos} {x y z : D} {me ma mb mc : Option D} {K : PySem.W.Frag} {F : Hp}
theorem itd_list {q : Addr} {vs : List V} {xs : List D} (h : F q = some (.lst vs) ∧ vs.length ≤ sizeLine) (r : Reps K F vs xs) : ItD K F (Itl K q) xs where
  go := fun i F' H f s hi => by
    rw [← r.length] at hi
    exact ⟨vs, vs[i], .of (s _ _ (f _ _ h.1)), by simp [hi]⟩
  yld := fun i F' H v H' f s hy x hx => by
    obtain ⟨e, hy⟩ := hy
    subst e
    obtain ⟨w, h1, h2⟩ := r.get hx
    have h3 := hy vs (.of (s _ _ (f _ _ h.1)))
    rw [h1] at h3
    cases h3
    exact ⟨F', Grow.refl s, h2.mono f⟩
  stop := fun F' H f s => ⟨vs, .of (s _ _ (f _ _ h.1)), by rw [r.length]; exact Nat.le_refl _⟩
  len := by rw [← r.length]; exact h.2
theorem itd_tup {q : Addr} {vs : List V} {xs : List D} (h : Tp K F q vs ∧ vs.length ≤ sizeLine) (r : Reps K F vs xs) : ItD K F (Itt K q) xs where
  go := fun i F' H f s hi => by
    rw [← r.length] at hi
    exact ⟨vs, vs[i], le_t s (le_t f h.1.sq), by simp [hi]⟩
  yld := fun i F' H v H' f s hy x hx => by
    obtain ⟨e, hy⟩ := hy
    subst e
    obtain ⟨w, h1, h2⟩ := r.get hx
    have h3 := hy vs (le_t s (le_t f h.1.sq))
    rw [h1] at h3
    cases h3
    exact ⟨F', Grow.refl s, h2.mono f⟩
  stop := fun F' H f s => ⟨vs, le_t s (le_t f h.1.sq), by rw [r.length]; exact Nat.le_refl _⟩
  len := by rw [← r.length]; exact h.2
theorem itd_str (z : Str) (hz : z.length ≤ sizeLine) : ItD K F (Its z) (z.cps.toList.map fun c => .str ⟨#[c]⟩) where
  go := fun i F' H f s hi => by show i < z.cps.size; simpa using hi
  yld := fun i F' H v H' f s hy x hx => by
    obtain ⟨e, c, h1, h2⟩ := hy
    subst e h2
    rw [List.getElem?_map] at hx
    have h3 : z.cps.toList[i]? = some c := by simpa using h1
    rw [h3] at hx
    cases hx
    exact ⟨F', Grow.refl s, .str _⟩
  stop := fun F' H f s => by show z.cps.size ≤ _; simp
  len := by simpa [Str.length] using hz
def rgU (lo : Int) (n : Nat) : List D := (List.range n).map fun i => .int (lo + (i : Nat))
def rgC (lo c : Int) (n : Nat) : List D := (List.range n).map fun i => .int (lo + (i : Nat) * c)
theorem rgU_get {lo : Int} {n i : Nat} {x : D} (h : (rgU lo n)[i]? = some x) : i < n ∧ x = .int (lo + (i : Nat)) := by
  unfold rgU at h
  rw [List.getElem?_map] at h
  obtain ⟨j, h1, h2⟩ := Option.map_eq_some_iff.mp h
  obtain ⟨h3, h4⟩ := List.getElem?_eq_some_iff.mp h1
  rw [List.length_range] at h3
  rw [List.getElem_range] at h4
  subst h4
  exact ⟨h3, h2.symm⟩
theorem itd_range {lo : Int} {n : Nat} (hz : n ≤ sizeLine) : ItD K F (Itr lo n) (rgU lo n) where
  go := fun i F' H f s hi => by show i < n; simpa [rgU] using hi
  yld := fun i F' H v H' f s hy x hx => by
    obtain ⟨e, h2⟩ := hy
    subst e h2
    obtain ⟨_, h3⟩ := rgU_get hx
    subst h3
    exact ⟨F', Grow.refl s, .int _⟩
  stop := fun F' H f s => by show n ≤ _; simp [rgU]
  len := by simpa [rgU] using hz
theorem itd_rangeC {lo c : Int} {n : Nat} (hz : n ≤ sizeLine) : ItD K F (Itc lo c n) (rgC lo c n) where
  go := fun i F' H f s hi => by show i < n; simpa [rgC] using hi
  yld := fun i F' H v H' f s hy x hx => by
    obtain ⟨e, h2⟩ := hy
    subst e h2
    unfold rgC at hx
    rw [List.getElem?_map] at hx
    obtain ⟨j, h1, h2⟩ := Option.map_eq_some_iff.mp hx
    obtain ⟨h3, h4⟩ := List.getElem?_eq_some_iff.mp h1
    rw [List.getElem_range] at h4
    subst h4 h2
    exact ⟨F', Grow.refl s, .int _⟩
  stop := fun F' H f s => by show n ≤ _; simp [rgC]
  len := by simpa [rgC] using hz
/-- a list, a tuple, a text -/
theorem xi_val (he : EX X Γ e me) : XI X Γ tg e (me.bind pIter) := (((pi_list he).or (pi_tup he)).or (pi_str he)).weak fun σ H R ⟨F, O, xs, at_, e, q⟩ => by
  obtain ⟨x, e1, e⟩ := bind_some' e
  cases x with
  | list ds =>
    cases e
    refine .inl (.inl ⟨F, O, _, at_, e1, fun v F1 H1 g1 r1 => ?_⟩)
    cases r1 with
    | lst h r => exact ⟨_, rfl, ⟨_, .of (g1.s _ _ h.1)⟩, q F1 H1 _ g1 (itd_list h r)⟩
  | tuple ds =>
    cases e
    refine .inl (.inr ⟨F, O, _, at_, e1, fun v F1 H1 g1 r1 => ?_⟩)
    cases r1 with
    | tup h r => exact ⟨_, rfl, ⟨_, le_t g1.s h.1.sq⟩, q F1 H1 _ g1 (itd_tup h r)⟩
  | str z =>
    simp only [pIter] at e
    split at e
    · rename_i hz
      cases e
      refine .inr ⟨F, O, _, at_, e1, fun v F1 H1 g1 r1 => ?_⟩
      cases r1
      exact ⟨z, rfl, q F1 H1 _ g1 (itd_str z hz)⟩
    · cases e
  | _ => cases e
theorem xi_val_a (he : EX X Γ e (some x)) : XI X Γ tg e (pIter x) := xi_val he
/-- range(..) -/
def rgOk (i : Int) : Bool := decide (-(2 ^ 62) ≤ i ∧ i < 2 ^ 62)
def rgLe (n : Nat) : Bool := decide (n ≤ sizeLine)
def pRg1 : D → Option (List D)
  | .int j => if rgOk j = true ∧ rgLe j.toNat = true then some (rgU 0 j.toNat) else none
  | _ => none
def pRg2 : D → D → Option (List D)
  | .int i, .int j => if rgOk i = true ∧ rgOk j = true ∧ rgLe (j - i).toNat = true then some (rgU i (j - i).toNat) else none
  | _, _ => none
/-- downwards by ones -/
def pRgD : D → D → D → Option (List D)
  | .int i, .int j, .int c => if rgOk i = true ∧ rgOk j = true ∧ c = -1 ∧ rgLe (i - j).toNat = true then some (rgC i (-1) (i - j).toNat) else none
  | _, _, _ => none
theorem xi_rg1 (L : LX X E kk N W G Sl sc) (j : Nat) (hG : G[j]? = some ("range" : Str)) (hm : Free E "range") (ha : EX X Γ a ma) (hs : starEach [a] X.env = [(false, eval a X.env)] := by rfl) : XI X Γ tg (.Call (.Name "range" p) [a] [] pos) (ma.bind pRg1) :=
  (pi_range1 (L.gl (List.mem_of_getElem? hG)).1 (hm.at L) (pa_cons ha pa_nil hs) hs).weak fun σ H R ⟨F, O, xs, at_, e, q⟩ => by
    obtain ⟨x, e1, e⟩ := bind_some' e
    cases x <;> simp only [pRg1, reduceCtorEq] at e
    split at e
    · rename_i hz
      cases e
      have hz2 := of_decide_eq_true hz.2
      have hz := of_decide_eq_true hz.1
      refine ⟨F, O, _, at_, e1, fun v F1 H1 g1 r1 => ?_⟩
      cases r1
      exact ⟨_, rfl, hz.1, hz.2, q F1 H1 _ g1 (itd_range hz2)⟩
    · cases e
theorem xi_rg1_a (L : LX X E kk N W G Sl sc) (j : Nat) (hG : G[j]? = some ("range" : Str)) (hm : Free E "range") (ha : EX X Γ a (some x)) (hs : starEach [a] X.env = [(false, eval a X.env)] := by rfl) : XI X Γ tg (.Call (.Name "range" p) [a] [] pos) (pRg1 x) := xi_rg1 L j hG hm ha hs
theorem xi_rg2 (L : LX X E kk N W G Sl sc) (j : Nat) (hG : G[j]? = some ("range" : Str)) (hm : Free E "range") (ha : EX X Γ a ma) (hb : EX X Γ b mb) (hs : starEach [a, b] X.env = [(false, eval a X.env), (false, eval b X.env)] := by rfl) (hs2 : starEach [b] X.env = [(false, eval b X.env)] := by rfl) :
    XI X Γ tg (.Call (.Name "range" p) [a, b] [] pos) (ma.bind fun x => mb.bind fun y => pRg2 x y) :=
  (pi_range2 (L.gl (List.mem_of_getElem? hG)).1 (hm.at L) (pa_cons ha (pa_cons hb pa_nil hs2) (by rw [hs, hs2])) hs hs2).weak fun σ H R ⟨F, O, xs, at_, e, q⟩ => by
    obtain ⟨x, e1, e⟩ := bind_some' e
    obtain ⟨y, e2, e⟩ := bind_some' e
    cases x <;> cases y <;> simp only [pRg2, reduceCtorEq] at e
    split at e
    · rename_i hz
      cases e
      have h1 := of_decide_eq_true hz.1
      have h2 := of_decide_eq_true hz.2.1
      have h3 := of_decide_eq_true hz.2.2
      refine ⟨F, O, _, at_, e1, fun v F1 H1 g1 r1 => ⟨F1, O, _, at_.grow g1, e2, fun v2 F2 H2 g2 r2 => ?_⟩⟩
      cases r1; cases r2
      exact ⟨_, _, rfl, ⟨h1.1, h1.2, h2.1, h2.2⟩, q F2 H2 _ (g1.trans g2) (itd_range h3)⟩
    · cases e
theorem xi_rgD (L : LX X E kk N W G Sl sc) (j : Nat) (hG : G[j]? = some ("range" : Str)) (hm : Free E "range") (ha : EX X Γ a ma) (hb : EX X Γ b mb) (hc : EX X Γ c mc) (hs : starEach [a, b, c] X.env = (false, eval a X.env) :: starEach [b, c] X.env := by rfl) (hs2 : starEach [b, c] X.env = (false, eval b X.env) :: starEach [c] X.env := by rfl)
    (hs3 : starEach [c] X.env = (false, eval c X.env) :: starEach [] X.env := by rfl) (hpl : (backTo pos (starEach [b, c] X.env)).any (·.1) = false := by rfl) :
    XI X Γ tg (.Call (.Name "range" p) [a, b, c] [] pos) (ma.bind fun x => mb.bind fun y => mc.bind fun z => pRgD x y z) :=
  (pi_range3 (L.gl (List.mem_of_getElem? hG)).1 (hm.at L) (pa_cons ha (pa_cons hb (pa_cons hc pa_nil hs3) hs2) hs) hs hpl).weak fun σ H R ⟨F, O, xs, at_, e, q⟩ => by
    obtain ⟨x, e1, e⟩ := bind_some' e
    obtain ⟨y, e2, e⟩ := bind_some' e
    obtain ⟨z, e3, e⟩ := bind_some' e
    cases x <;> cases y <;> cases z <;> simp only [pRgD, reduceCtorEq] at e
    split at e
    · rename_i hz
      obtain ⟨h1, h2, h3, h4⟩ := hz
      subst h3
      cases e
      have h1 := of_decide_eq_true h1
      have h2 := of_decide_eq_true h2
      refine ⟨F, O, _, at_, e1, fun v F1 H1 g1 r1 => ⟨F1, O, _, at_.grow g1, e2, fun v2 F2 H2 g2 r2 => ⟨F2, O, _, at_.grow (g1.trans g2), e3, fun v3 F3 H3 g3 r3 => ?_⟩⟩⟩
      cases r1; cases r2; cases r3
      exact ⟨_, _, _, _, rfl, RgC.neg h1.1 h1.2 h2.1 h2.2, q F3 H3 _ ((g1.trans g2).trans g3) (itd_rangeC (of_decide_eq_true h4))⟩
    · cases e

/-! ## targets -/
def tGX {A : Type} (K : PySem.W.Frag) (Γ : List Ent) (mt : D → Option A) (gt : A → List Ent) : TG := fun v σ H Q => ∃ F O x a, At K F O σ H Γ ∧ Rep K F v x ∧ mt x = some a ∧ ∀ σ', At K F O σ' H (gt a) → Q σ' H
abbrev GX {A : Type} (X : Cx) (Γ : List Ent) (tg : Expr) (mt : D → Option A) (gt : A → List Ent) : Prop := PG X tg (tGX X.K Γ mt gt)
theorem gx_name (L : LX X E kk N W G Sl sc) (i j : Nat) {n : Str} (hN : N[i]? = some n) (hT : Sl[j]? = some n) : GX X Γ (.Name n pos) some (fun x => Γ.set i (.fz x)) := by
  obtain ⟨h1, h2, h3⟩ := L.slot hN hT
  refine (pg_name L.nd h1 h2 h3).weak fun v σ H Q ⟨F, O, x, a, at_, r, e, q⟩ => ?_
  cases e
  exact q _ (at_.set r)
def pUn2 : D → Option (D × D)
  | .tuple [x, y] => some (x, y)
  | _ => none
def pUn3 : D → Option (D × D × D)
  | .tuple [x, y, z] => some (x, y, z)
  | _ => none
def pUn4 : D → Option (D × D × D × D)
  | .tuple [x, y, z, w] => some (x, y, z, w)
  | _ => none
theorem pUn2_some {x : D} {a : D × D} (h : pUn2 x = some a) : x = .tuple [a.1, a.2] := by unfold pUn2 at h; split at h <;> cases h; rfl
theorem pUn3_some {x : D} {a : D × D × D} (h : pUn3 x = some a) : x = .tuple [a.1, a.2.1, a.2.2] := by unfold pUn3 at h; split at h <;> cases h; rfl
theorem pUn4_some {x : D} {a : D × D × D × D} (h : pUn4 x = some a) : x = .tuple [a.1, a.2.1, a.2.2.1, a.2.2.2] := by unfold pUn4 at h; split at h <;> cases h; rfl
theorem gx_tup2 (L : LX X E kk N W G Sl sc) (i j i' j' : Nat) {n n' : Str} {p' : Pos} {k : Nat} (hN : N[i]? = some n) (hT : Sl[j]? = some n) (hN' : N[i']? = some n') (hT' : Sl[j']? = some n')
    (h1 : (assignEach [.Name n pos, .Name n' p'] X.env).map (·.2) = assign (.Name n pos) X.env :: (assignEach [.Name n' p'] X.env).map (·.2) := by rfl) (h2 : (assignEach [.Name n' p'] X.env).map (·.2) = assign (.Name n' p') X.env :: (assignEach [] X.env).map (·.2) := by rfl)
    (h3 : (assignEach [.Name n pos, .Name n' p'] X.env).length = 2 := by rfl) (h4 : (assignEach [.Name n pos, .Name n' p'] X.env).findIdx? (·.1) = none := by rfl) :
    GX X Γ (.Tuple [.Name n pos, .Name n' p'] k p) pUn2 (fun a => (Γ.set i (.fz a.1)).set i' (.fz a.2)) := by
  obtain ⟨a1, a2, a3⟩ := L.slot hN hT
  obtain ⟨b1, b2, b3⟩ := L.slot hN' hT'
  refine (pg_tup L.calm (pgs_cons (pg_name L.nd a1 a2 a3) (pgs_cons (pg_name L.nd b1 b2 b3) pgs_nil h2) h1) h3 h4).weak fun v σ H Q ⟨F, O, x, a, at_, r, e, q⟩ => ?_
  have := pUn2_some e
  subst this
  cases r with
  | tup h r =>
    cases r with
    | cons r1 r => cases r with
      | cons r2 r => cases r; exact ⟨_, _, rfl, le_t at_.sub h.1.sq, rfl, _, _, rfl, _, _, rfl, rfl, q _ ((at_.set r1).set r2)⟩
theorem gx_tup3 (L : LX X E kk N W G Sl sc) (i j i' j' i'' j'' : Nat) {n n' n'' : Str} {p' p'' : Pos} {k : Nat} (hN : N[i]? = some n) (hT : Sl[j]? = some n) (hN' : N[i']? = some n') (hT' : Sl[j']? = some n') (hN'' : N[i'']? = some n'') (hT'' : Sl[j'']? = some n'')
    (h1 : (assignEach [.Name n pos, .Name n' p', .Name n'' p''] X.env).map (·.2) = assign (.Name n pos) X.env :: (assignEach [.Name n' p', .Name n'' p''] X.env).map (·.2) := by rfl) (h2 : (assignEach [.Name n' p', .Name n'' p''] X.env).map (·.2) = assign (.Name n' p') X.env :: (assignEach [.Name n'' p''] X.env).map (·.2) := by rfl)
    (h2' : (assignEach [.Name n'' p''] X.env).map (·.2) = assign (.Name n'' p'') X.env :: (assignEach [] X.env).map (·.2) := by rfl)
    (h3 : (assignEach [.Name n pos, .Name n' p', .Name n'' p''] X.env).length = 3 := by rfl) (h4 : (assignEach [.Name n pos, .Name n' p', .Name n'' p''] X.env).findIdx? (·.1) = none := by rfl) :
    GX X Γ (.Tuple [.Name n pos, .Name n' p', .Name n'' p''] k p) pUn3 (fun a => ((Γ.set i (.fz a.1)).set i' (.fz a.2.1)).set i'' (.fz a.2.2)) := by
  obtain ⟨a1, a2, a3⟩ := L.slot hN hT
  obtain ⟨b1, b2, b3⟩ := L.slot hN' hT'
  obtain ⟨c1, c2, c3⟩ := L.slot hN'' hT''
  refine (pg_tup L.calm (pgs_cons (pg_name L.nd a1 a2 a3) (pgs_cons (pg_name L.nd b1 b2 b3) (pgs_cons (pg_name L.nd c1 c2 c3) pgs_nil h2') h2) h1) h3 h4).weak fun v σ H Q ⟨F, O, x, a, at_, r, e, q⟩ => ?_
  have := pUn3_some e
  subst this
  cases r with
  | tup h r =>
    cases r with
    | cons r1 r => cases r with
      | cons r2 r => cases r with
        | cons r3 r => cases r; exact ⟨_, _, rfl, le_t at_.sub h.1.sq, rfl, _, _, rfl, _, _, rfl, _, _, rfl, rfl, q _ (((at_.set r1).set r2).set r3)⟩
end
/-! ## loops -/
section
variable {X : Cx} {E : ME} {kk : Nat} {N W G Sl : List Str} {sc : Scope} {Γ : List Ent} {tg e c : Expr} {pos : Pos} {body rest : List Stmt} {mi : Option (List D)}
variable {S L' L2' R' A : Type} {gS : S → List Ent} {gL : L' → List Ent} {gR : R' → List Ent} {vR : R' → D}
/-- for: s0 the state at the start, gS what the slots hold, mt the target's parts -/
theorem ss_for (L : LX X E kk N W G Sl sc) {mt : D → Option A} {gt : S → A → List Ent} {mb : A → S → Option (Ctl S S R')} {s0 : S} (w : Weak Γ (gS s0)) (hi : XI X Γ tg e mi) (hg : ∀ s, GX X (gS s) tg mt (gt s)) (hb : ∀ s a, BS X (gt s a) body (mb a s) gS gS gR vR)
    (hs : ∀ x, foldedSetIterable e X.env x = pure x := by intro _; rfl) : SS X Γ (.For tg e body [] pos) (mi.bind fun xs => forC (fun x s => (mt x).bind fun a => mb a s) xs s0) gS gL gR vR := by
  have hG : PG X tg (fun v σ H Q => ∃ s, tGX X.K (gS s) mt (gt s) v σ H Q) := PG.ex hg
  have hB : PSs X body (fun D σ H => ∃ sa : S × A, tBS X.K (gt sa.1 sa.2) (mb sa.2 sa.1) gS gS gR vR D σ H) := PSs.ex fun sa => hb sa.1 sa.2
  refine (ps_for L.po L.calm hi hG hB hs).weak fun Dd σ H ⟨F, O, c, at_, e, q⟩ => ?_
  obtain ⟨xs, e1, e⟩ := bind_some' e
  refine ⟨F, O, xs, at_, e1, fun F1 H1 J g1 it => ?_⟩
  have run : ∀ i, i ≤ xs.length → True := fun _ _ => trivial
  refine ⟨fun i mm σ' H' => mm = xs.length - i ∧ i ≤ xs.length ∧ ∃ F' s, Le F1 F' ∧ At X.K F' O σ' H' (gS s) ∧ forC (L := L') (fun x s => (mt x).bind fun a => mb a s) (xs.drop i) s = some c, ⟨xs.length, by simp, Nat.zero_le _, F1, s0, Le.refl _, (at_.grow g1).weak w, by simpa using e⟩, ?_⟩
  rintro i mm σ' H' ⟨rfl, hi2, F', s, lf, at', ec⟩
  by_cases hlt : i < xs.length
  · refine .inr ⟨it.go i F' H' lf at'.sub hlt, fun σ2 H2 => ∃ F2 s2, Le F1 F2 ∧ At X.K F2 O σ2 H2 (gS s2) ∧ forC (L := L') (fun x s => (mt x).bind fun a => mb a s) (xs.drop (i + 1)) s2 = some c, fun σ2 H2 ⟨F2, s2, a1, a2, a3⟩ => ⟨xs.length - (i + 1), by omega, rfl, hlt, F2, s2, a1, a2, a3⟩, fun v H2 hy => ?_⟩
    have hx : xs[i]? = some xs[i] := List.getElem?_eq_getElem hlt
    obtain ⟨F2, g2, r2⟩ := it.yld i F' H' v H2 lf at'.sub hy _ hx
    rw [List.drop_eq_getElem_cons hlt] at ec
    unfold forC at ec
    cases hm : mt xs[i] with
    | none => rw [hm] at ec; cases ec
    | some a =>
      rw [hm] at ec
      simp only [Option.bind_some] at ec
      refine ⟨s, F2, O, xs[i], a, at'.grow g2, r2, hm, fun σ3 at3 => ⟨(s, a), F2, O, ?_⟩⟩
      cases hbm : mb a s with
      | none => rw [hbm] at ec; cases ec
      | some d =>
        rw [hbm] at ec
        refine ⟨d, at3, rfl, ?_⟩
        cases d with
        | nx t => exact fun σ4 F4 H4 f4 a4 => ⟨F4, t, lf.trans (g2.f.trans f4), a4, ec⟩
        | ct t => exact fun σ4 F4 H4 f4 a4 => ⟨F4, t, lf.trans (g2.f.trans f4), a4, ec⟩
        | bk t => cases ec; exact fun σ4 F4 H4 f4 a4 => q σ4 F4 H4 (g1.f.trans (lf.trans (g2.f.trans f4))) a4
        | rt r => cases ec; exact fun v5 σ4 F4 H4 f4 a4 => q v5 σ4 F4 H4 (g1.f.trans (lf.trans (g2.f.trans f4))) a4
  · have ei : i = xs.length := by omega
    subst ei
    refine .inl ⟨it.stop F' H' lf at'.sub, ?_⟩
    rw [List.drop_length] at ec
    cases ec
    exact q σ' F' H' (g1.f.trans lf) at'
/-- one name as the target -/
theorem ss_for1 (L : LX X E kk N W G Sl sc) (i j : Nat) {n : Str} {p' : Pos} {mb : D → S → Option (Ctl S S R')} {s0 : S} (hN : N[i]? = some n) (hT : Sl[j]? = some n) (w : Weak Γ (gS s0)) (hi : XI X Γ (.Name n p') e mi) (hb : ∀ s x, BS X ((gS s).set i (.fz x)) body (mb x s) gS gS gR vR)
    (hs : ∀ x, foldedSetIterable e X.env x = pure x := by intro _; rfl) : SS X Γ (.For (.Name n p') e body [] pos) (mi.bind fun xs => forC mb xs s0) gS gL gR vR :=
  ss_for (mt := some) (gt := fun s x => (gS s).set i (.fz x)) (mb := mb) L w hi (fun s => gx_name L i j hN hT) hb hs
/-- while, n turns at most -/
theorem ss_while (L : LX X E kk N W G Sl sc) (n : Nat) {mc : S → Option Bool} {mb : S → Option (Ctl S S R')} {s0 : S} (w : Weak Γ (gS s0)) (hc : ∀ s, TX X (gS s) c (mc s)) (hb : ∀ s, BS X (gS s) body (mb s) gS gS gR vR) :
    SS X Γ (.While c body [] pos) (whileC mc mb n s0) gS gL gR vR := by
  have hC : PT X c (fun σ H Q => ∃ s, tTX X.K (gS s) (mc s) σ H Q) := ⟨fun p s σ H Q I ⟨a, q⟩ => (hc a).run p s σ H Q I q⟩
  have hB : PSs X body (fun D σ H => ∃ s, tBS X.K (gS s) (mb s) gS gS gR vR D σ H) := PSs.ex hb
  refine (ps_while L.po hC hB).weak fun Dd σ H ⟨F, O, c, at_, e, q⟩ => ?_
  refine ⟨fun mm σ' H' => ∃ F' s, Le F F' ∧ At X.K F' O σ' H' (gS s) ∧ whileC (L := L') mc mb mm s = some c, ⟨n, F, s0, Le.refl _, at_.weak w, e⟩, ?_⟩
  rintro mm σ' H' ⟨F', s, lf, at', ec⟩
  cases mm with
  | zero => cases ec
  | succ mm =>
    unfold whileC at ec
    cases hm : mc s with
    | none => rw [hm] at ec; cases ec
    | some b =>
      rw [hm] at ec
      refine ⟨s, F', O, b, at', hm, fun F1 H1 g1 => ?_⟩
      cases b with
      | false =>
        cases ec
        exact q σ' F1 H1 (lf.trans g1.f) (at'.grow g1)
      | true =>
        refine ⟨fun σ2 H2 => ∃ F2 s2, Le F F2 ∧ At X.K F2 O σ2 H2 (gS s2) ∧ whileC (L := L') mc mb mm s2 = some c, fun σ2 H2 h2 => ⟨mm, Nat.lt_succ_self _, h2⟩, s, F1, O, ?_⟩
        cases hbm : mb s with
        | none => rw [hbm] at ec; cases ec
        | some d =>
          rw [hbm] at ec
          refine ⟨d, at'.grow g1, rfl, ?_⟩
          cases d with
          | nx t => exact fun σ4 F4 H4 f4 a4 => ⟨F4, t, lf.trans (g1.f.trans f4), a4, ec⟩
          | ct t => exact fun σ4 F4 H4 f4 a4 => ⟨F4, t, lf.trans (g1.f.trans f4), a4, ec⟩
          | bk t => cases ec; exact fun σ4 F4 H4 f4 a4 => q σ4 F4 H4 (lf.trans (g1.f.trans f4)) a4
          | rt r => cases ec; exact fun v5 σ4 F4 H4 f4 a4 => q v5 σ4 F4 H4 (lf.trans (g1.f.trans f4)) a4
end
end Z
namespace Z
open PySem PySem.Spec L2

/-! ## a target's slots -/
theorem wipe_get (σ : L2.St) : ∀ (vs : List Nat) (i : Nat), (wipe σ vs)[i]? = if i ∈ vs ∧ i < σ.length then some none else σ[i]?
  | [], i => by simp [wipe]
  | v :: vs, i => by
    unfold wipe
    by_cases h : i = v
    · subst h
      by_cases hl : i < σ.length
      · rw [List.getElem?_set_self (by rw [wipe_length]; exact hl)]; simp [hl]
      · rw [List.getElem?_eq_none (by rw [List.length_set, wipe_length]; omega), List.getElem?_eq_none (by omega)]; simp [hl]
    · rw [List.getElem?_set_ne (Ne.symm h), wipe_get σ vs i]
      simp [h]
theorem wipe_eq {σ τ : L2.St} {vs : List Nat} (hl : σ.length = τ.length) (h : ∀ i, i ∉ vs → σ[i]? = τ[i]?) : wipe σ vs = wipe τ vs := by
  apply List.ext_getElem?
  intro i
  rw [wipe_get, wipe_get, hl]
  by_cases hi : i ∈ vs
  · by_cases h2 : i < τ.length
    · simp [hi, h2]
    · simp only [hi, h2, and_false, if_false]
      rw [List.getElem?_eq_none (by omega), List.getElem?_eq_none (by omega)]
  · simp only [hi, false_and, if_false]
    exact h i hi
/-- what is known of the slots, without some -/
def wipeE (Γ : List Ent) : List Nat → List Ent
  | [] => Γ
  | v :: vs => (wipeE Γ vs).set v .no
theorem At.wipe {K : PySem.W.Frag} {F O H : Hp} {σ : L2.St} {Γ : List Ent} (h : At K F O σ H Γ) : ∀ vs, At K F O (L2.wipe σ vs) H (wipeE Γ vs)
  | [] => h
  | v :: vs => (At.wipe h vs).junk
theorem Grow.mut {F H F' H' : Hp} {p : Addr} {o : HO} (g : Grow F H F' H') (h : H p = none) (f : F' p = none) : Grow F H F' (upd H' p o) :=
  ⟨g.f, fun a u e => by rw [upd_ne (ne_of_none e h)]; exact g.h a u e, fun a u e => by rw [upd_ne (ne_of_none e f)]; exact g.s a u e, g.n⟩

/-- a value that is a new list, nobody's yet -/
def tXF (K : PySem.W.Frag) (Γ : List Ent) (m : Option D) : TE := fun σ H Q => ∃ F O x, At K F O σ H Γ ∧ m = some x ∧ ∀ p vs xs F' H', x = .list xs → Grow F H F' H' → H p = none → F' p = none → H' p = some (.lst vs) → vs.length ≤ sizeLine → Reps K F' vs xs → Q (.ref p) H'
abbrev EXF (X : Cx) (Γ : List Ent) (e : Expr) (m : Option D) : Prop := PE X e (tXF X.K Γ m)
theorem tXF_of {K : PySem.W.Frag} {Γ : List Ent} {m : Option D} {σ : L2.St} {H : Hp} {Q : VK} (h : tX K Γ m id σ H Q) : tXF K Γ m σ H Q := by
  obtain ⟨F, O, x, at_, e, q⟩ := h
  refine ⟨F, O, x, at_, e, fun p vs xs F' H' ex g hp fp hp2 hl r => ?_⟩
  subst ex
  refine q (.ref p) (upd F' p (.lst vs)) H' ⟨fun a u h => ?_, g.h, fun a u h => ?_, fun a h => ?_⟩ (.lst ⟨upd_same, hl⟩ (r.mono (Le.new fp)))
  · rw [upd_ne (ne_of_none (g.f _ _ h) fp)]; exact g.f _ _ h
  · by_cases ea : a = p
    · subst ea; rw [upd_same] at h; cases h; exact hp2
    · rw [upd_ne ea] at h; exact g.s _ _ h
  · by_cases ea : a = p
    · subst ea; exact .inr hp
    · rw [upd_ne ea] at h; exact g.n a h
theorem exf_ex {X : Cx} {Γ : List Ent} {e : Expr} {m : Option D} (h : EXF X Γ e m) : EX X Γ e m := h.weak fun σ H Q q => tXF_of q
/-! a target, telling which slots it stores -/
def tGY {A : Type} (K : PySem.W.Frag) (Γ : List Ent) (ts : List Nat) (mt : D → Option A) (gt : A → List Ent) : TG := fun v σ H Q => ∃ F O x a, At K F O σ H Γ ∧ Rep K F v x ∧ mt x = some a ∧ ∀ σ', At K F O σ' H (gt a) → L2.wipe σ' ts = L2.wipe σ ts → Q σ' H
abbrev GY {A : Type} (X : Cx) (Γ : List Ent) (ts : List Nat) (tg : Expr) (mt : D → Option A) (gt : A → List Ent) : Prop := PG X tg (tGY X.K Γ ts mt gt)
section
variable {X : Cx} {E : ME} {kk : Nat} {N W G Sl : List Str} {sc : Scope} {Γ : List Ent} {tg e a b c elt : Expr} {pos p : Pos} {x y z : D} {me ma mb mc : Option D} {K : PySem.W.Frag} {F : Hp}
theorem gy_name (L : LX X E kk N W G Sl sc) (i j : Nat) {n : Str} (hN : N[i]? = some n) (hT : Sl[j]? = some n) : GY X Γ [i] (.Name n pos) some (fun x => Γ.set i (.fz x)) := by
  obtain ⟨h1, h2, h3⟩ := L.slot hN hT
  refine (pg_name L.nd h1 h2 h3).weak fun v σ H Q ⟨F, O, x, a, at_, r, e, q⟩ => ?_
  cases e
  exact q _ (at_.set r) (wipe_eq (by simp) fun k hk => by rw [List.getElem?_set_ne (by simp at hk; omega)])
theorem gy_tup2 (L : LX X E kk N W G Sl sc) (i j i' j' : Nat) {n n' : Str} {p' : Pos} {k : Nat} (hN : N[i]? = some n) (hT : Sl[j]? = some n) (hN' : N[i']? = some n') (hT' : Sl[j']? = some n')
    (h1 : (assignEach [.Name n pos, .Name n' p'] X.env).map (·.2) = assign (.Name n pos) X.env :: (assignEach [.Name n' p'] X.env).map (·.2) := by rfl) (h2 : (assignEach [.Name n' p'] X.env).map (·.2) = assign (.Name n' p') X.env :: (assignEach [] X.env).map (·.2) := by rfl)
    (h3 : (assignEach [.Name n pos, .Name n' p'] X.env).length = 2 := by rfl) (h4 : (assignEach [.Name n pos, .Name n' p'] X.env).findIdx? (·.1) = none := by rfl) :
    GY X Γ [i, i'] (.Tuple [.Name n pos, .Name n' p'] k p) pUn2 (fun a => (Γ.set i (.fz a.1)).set i' (.fz a.2)) := by
  obtain ⟨a1, a2, a3⟩ := L.slot hN hT
  obtain ⟨b1, b2, b3⟩ := L.slot hN' hT'
  refine (pg_tup L.calm (pgs_cons (pg_name L.nd a1 a2 a3) (pgs_cons (pg_name L.nd b1 b2 b3) pgs_nil h2) h1) h3 h4).weak fun v σ H Q ⟨F, O, x, a, at_, r, e, q⟩ => ?_
  have := pUn2_some e
  subst this
  cases r with
  | tup h r =>
    cases r with
    | cons r1 r => cases r with
      | cons r2 r =>
        cases r
        refine ⟨_, _, rfl, le_t at_.sub h.1.sq, rfl, _, _, rfl, _, _, rfl, rfl, q _ ((at_.set r1).set r2) (wipe_eq (by simp) fun k hk => ?_)⟩
        simp at hk
        rw [List.getElem?_set_ne (by omega), List.getElem?_set_ne (by omega)]
theorem gy_tup3 (L : LX X E kk N W G Sl sc) (i j i' j' i'' j'' : Nat) {n n' n'' : Str} {p' p'' : Pos} {k : Nat} (hN : N[i]? = some n) (hT : Sl[j]? = some n) (hN' : N[i']? = some n') (hT' : Sl[j']? = some n') (hN'' : N[i'']? = some n'') (hT'' : Sl[j'']? = some n'')
    (h1 : (assignEach [.Name n pos, .Name n' p', .Name n'' p''] X.env).map (·.2) = assign (.Name n pos) X.env :: (assignEach [.Name n' p', .Name n'' p''] X.env).map (·.2) := by rfl) (h2 : (assignEach [.Name n' p', .Name n'' p''] X.env).map (·.2) = assign (.Name n' p') X.env :: (assignEach [.Name n'' p''] X.env).map (·.2) := by rfl)
    (h2' : (assignEach [.Name n'' p''] X.env).map (·.2) = assign (.Name n'' p'') X.env :: (assignEach [] X.env).map (·.2) := by rfl)
    (h3 : (assignEach [.Name n pos, .Name n' p', .Name n'' p''] X.env).length = 3 := by rfl) (h4 : (assignEach [.Name n pos, .Name n' p', .Name n'' p''] X.env).findIdx? (·.1) = none := by rfl) :
    GY X Γ [i, i', i''] (.Tuple [.Name n pos, .Name n' p', .Name n'' p''] k p) pUn3 (fun a => ((Γ.set i (.fz a.1)).set i' (.fz a.2.1)).set i'' (.fz a.2.2)) := by
  obtain ⟨a1, a2, a3⟩ := L.slot hN hT
  obtain ⟨b1, b2, b3⟩ := L.slot hN' hT'
  obtain ⟨c1, c2, c3⟩ := L.slot hN'' hT''
  refine (pg_tup L.calm (pgs_cons (pg_name L.nd a1 a2 a3) (pgs_cons (pg_name L.nd b1 b2 b3) (pgs_cons (pg_name L.nd c1 c2 c3) pgs_nil h2') h2) h1) h3 h4).weak fun v σ H Q ⟨F, O, x, a, at_, r, e, q⟩ => ?_
  have := pUn3_some e
  subst this
  cases r with
  | tup h r =>
    cases r with
    | cons r1 r => cases r with
      | cons r2 r => cases r with
        | cons r3 r =>
          cases r
          refine ⟨_, _, rfl, le_t at_.sub h.1.sq, rfl, _, _, rfl, _, _, rfl, _, _, rfl, rfl, q _ (((at_.set r1).set r2).set r3) (wipe_eq (by simp) fun k hk => ?_)⟩
          simp at hk
          rw [List.getElem?_set_ne (by omega), List.getElem?_set_ne (by omega), List.getElem?_set_ne (by omega)]

/-! ## list comprehensions -/
/-- an expression that is stored in a way of its own -/
structure CE (X : Cx) (e : Expr) (t : TE) : Prop where
  pe : PE X e t
  st : ∀ (i : Nat) (y : Str) (py spos : Pos), X.N[i]? = some y → X.env.scope.names.lookup y = some .local → swapsWith e (some (.Name y py)) spos.line X.env = pure true → PS X (.Assign [.Name y py] e spos) (tAsg t (gName i))
theorem CE.weak {e : Expr} {t t' : TE} (h : CE X e t) (w : ∀ σ H Q, t' σ H Q → t σ H Q) : CE X e t' := ⟨h.pe.weak w, fun i y py spos a b c => (h.st i y py spos a b c).weak fun D σ H q => w σ H _ q⟩
/-- item by item: a value, or nothing -/
def lcG (f : D → Option (Option D)) : List D → Option (List D)
  | [] => some []
  | x :: r => (f x).bind fun o => (lcG f r).map fun ys => match o with
    | some y => y :: ys
    | none => ys
def lcM (f : D → Option D) : List D → Option (List D)
  | [] => some []
  | x :: r => (f x).bind fun y => (lcM f r).map (y :: ·)
def lcI (c : D → Option Bool) (f : D → Option D) : List D → Option (List D)
  | [] => some []
  | x :: r => (c x).bind fun b => if b = true then (f x).bind fun y => (lcI c f r).map (y :: ·) else lcI c f r
theorem lcM_G (f : D → Option D) : ∀ xs, lcM f xs = lcG (fun x => (f x).map some) xs
  | [] => rfl
  | x :: r => by
    unfold lcM lcG
    rw [lcM_G f r]
    cases f x <;> rfl
theorem lcI_G (c : D → Option Bool) (f : D → Option D) : ∀ xs, lcI c f xs = lcG (fun x => (c x).bind fun b => if b = true then (f x).map some else some none) xs
  | [] => rfl
  | x :: r => by
    unfold lcI lcG
    rw [lcI_G c f r]
    cases c x with
    | none => rfl
    | some b =>
      cases b with
      | true => simp only [Option.bind_some, if_true]; cases f x <;> rfl
      | false =>
        simp only [Option.bind_some, Bool.false_eq_true, if_false]
        cases lcG (fun x => (c x).bind fun b => if b = true then Option.map some (f x) else some none) r <;> rfl

def blkSto (scope sc : Scope) (Sl : List Str) : Bool := Sl.all fun x => match (relS scope sc).names.lookup x with
  | some .local => true
  | some .cell => scope.names.lookup x == some .cell
  | _ => false
theorem LX.blk {Wb Gb Sb : List Str} (L : LX X E kk N W G Sl sc) {s : Shared} {H : Hp} {C : Addr} {cl : List (Str × Addr)} {fp : List Addr} {scope : Scope} (st : stOk N Wb Gb (relS scope sc) = true) (sto : blkSto scope sc Sb = true) :
    LX (X.blk s H scope (compEnvC scope cl C X.env) fp) E kk N Wb Gb Sb (relS scope sc) where
  mx := ⟨L.mx.prog, L.mx.w, L.mx.K, L.mx.mg, L.mx.base⟩
  rm := L.rm
  n := L.n
  scp := by show relS scope X.env.scope = _; rw [L.scp]
  calm := L.calm
  st := st
  sto := fun x hx => by
    have h := List.all_eq_true.mp sto x hx
    show L2.Loc (relS scope X.env.scope) x ∧ ((scope.names.lookup x == some NameKind.cell) = true ∨ (relS scope X.env.scope).names.lookup x = some .local)
    rw [L.scp]
    unfold L2.Loc
    split at h
    · rename_i e; exact ⟨.inl e, .inr e⟩
    · rename_i e; exact ⟨.inr e, .inl h⟩
    · cases h
  po := PassesOwn.never
/-- the block's facts, decided -/
def lcOk (N W G Sl : List Str) (sc scope : Scope) (own : List (Str × Nat)) : Bool := stOk N W G (relS scope sc) && blkSto scope sc Sl && blkC N sc scope own

/-- in a block -/
structure Blk (X X' : Cx) : Prop where
  K : X'.K = X.K
variable {scope : Scope} {mi : Option (List D)} {A : Type}
theorem exf_lcG (L : LX X E kk N W G Sl sc) {Wb Gb Sb : List Str} (own : List (Str × Nat)) (ok : lcOk N Wb Gb Sb sc scope own = true) {ifs : List Expr} {mt : D → Option A} {gt : A → List Ent} {cc : A → Option Bool} {mf : A → Option D}
    (hi : XI X Γ tg e mi)
    (hg : ∀ X', LX X' E kk N Wb Gb Sb (relS scope sc) → GY X' (wipeE Γ (own.map (·.2))) (own.map (·.2)) tg mt gt)
    (ht : ∀ X', LX X' E kk N Wb Gb Sb (relS scope sc) → ∀ a, PTs X' ifs (tTX X'.K (gt a) (cc a)))
    (he : ∀ X', LX X' E kk N Wb Gb Sb (relS scope sc) → ∀ a, EX X' (gt a) elt (mf a)) (hs : ∀ x, foldedSetIterable e X.env x = pure x := by intro _; rfl) :
    CE X (.ListComp elt [⟨tg, e, ifs, 0⟩] scope pos) (tXF X.K Γ (mi.bind fun xs => (lcG (fun x => (mt x).bind fun a => (cc a).bind fun b => if b = true then (mf a).map some else some none) xs).map .list)) := by
  unfold lcOk at ok
  simp only [Bool.and_eq_true] at ok
  obtain ⟨⟨o1, o2⟩, o3⟩ := ok
  have o4 : BlkOk X.N X.env.scope scope own := by rw [L.n, L.scp]; exact blkOk_by o3
  have hT : ∀ (s : Shared) (H : Hp) (C : Addr) (cl : List (Str × Addr)) (fp : List Addr), PTs (X.blk s H scope (compEnvC scope cl C X.env) fp) ifs (fun σ H Q => ∃ a, tTX X.K (gt a) (cc a) σ H Q) :=
    fun s H C cl fp => ⟨fun p s' σ H' Q I ⟨a, q⟩ => (ht _ (L.blk o1 o2) a).run p s' σ H' Q I q⟩
  have hE : ∀ (s : Shared) (H : Hp) (C : Addr) (cl : List (Str × Addr)) (fp : List Addr), PE (X.blk s H scope (compEnvC scope cl C X.env) fp) elt (fun σ H Q => ∃ a, tX X.K (gt a) (mf a) id σ H Q) :=
    fun s H C cl fp => ⟨fun p s' σ H' Q I ⟨a, q⟩ => (he _ (L.blk o1 o2) a).run p s' σ H' Q I q⟩
  have hG : ∀ (s : Shared) (H : Hp) (C : Addr) (cl : List (Str × Addr)) (fp : List Addr), PG (X.blk s H scope (compEnvC scope cl C X.env) fp) tg (tGY X.K (wipeE Γ (own.map (·.2))) (own.map (·.2)) mt gt) := fun s H C cl fp => hg _ (L.blk o1 o2)
  refine (CE.mk (pe_lc L.calm L.nd hi o4 hG hT hE hs) fun i y py spos a b c => ps_setLc L.calm L.nd a b c hi o4 hG hT hE hs).weak fun σ H Q ⟨F, O, z, at_, e, q⟩ => ?_
  obtain ⟨xs, e1, e⟩ := bind_some' e
  obtain ⟨ys, e2, e3⟩ := Option.map_eq_some_iff.mp e
  subst e3
  refine ⟨F, O, xs, at_, e1, fun F1 H1 J g1 it D hD => ?_⟩
  let f := fun x => (mt x).bind fun a => (cc a).bind fun b => if b = true then (mf a).map some else some none
  have atw := at_.wipe (own.map (·.2))
  refine ⟨fun i mm H' => mm = xs.length - i ∧ i ≤ xs.length ∧ ∃ F' acc zs ws, Grow F1 H1 F' H' ∧ F' D = none ∧ H' D = some (.lst acc) ∧ acc.length ≤ i ∧ Reps X.K F' acc zs ∧ lcG f (xs.drop i) = some ws ∧ zs ++ ws = ys,
    ⟨xs.length, by simp, Nat.zero_le _, F1, [], [], ys, (Grow.refl g1.s).mut hD (g1.s.none hD), g1.s.none hD, upd_same, Nat.le_refl _, .nil, by simpa using e2, rfl⟩, ?_⟩
  rintro i mm H' ⟨rfl, hi2, F', acc, zs, ws, g, fD, hDa, hl, r, ew, ey⟩
  by_cases hlt : i < xs.length
  · refine .inr ⟨it.go i F' H' g.f g.s hlt, fun H2 => ∃ F2 acc2 zs2 ws2, Grow F1 H1 F2 H2 ∧ F2 D = none ∧ H2 D = some (.lst acc2) ∧ acc2.length ≤ i + 1 ∧ Reps X.K F2 acc2 zs2 ∧ lcG f (xs.drop (i + 1)) = some ws2 ∧ zs2 ++ ws2 = ys,
      fun H2 ⟨F2, acc2, zs2, ws2, a⟩ => ⟨xs.length - (i + 1), by omega, rfl, hlt, F2, acc2, zs2, ws2, a⟩, fun v H2 hy => ?_⟩
    obtain ⟨F2, g2, r2⟩ := it.yld i F' H' v H2 g.f g.s hy _ (List.getElem?_eq_getElem hlt)
    rw [List.drop_eq_getElem_cons hlt] at ew
    unfold lcG at ew
    obtain ⟨o, ef, ew⟩ := bind_some' ew
    obtain ⟨ws2, ew2, ew3⟩ := Option.map_eq_some_iff.mp ew
    obtain ⟨a, em, ef⟩ := bind_some' ef
    obtain ⟨b, ec, ef⟩ := bind_some' ef
    have gg : Grow F H F2 H2 := g1.trans (g.trans g2)
    have nD : ∀ {F3 H3 : Hp}, Grow F' H' F3 H3 → F3 D = none := fun {F3 H3} g3 => by
      cases qd : F3 D with
      | none => rfl
      | some u =>
        rcases g3.n D (by rw [qd]; simp) with h | h
        · exact absurd fD h
        · rw [hDa] at h; cases h
    refine ⟨F2, O, xs[i], a, (atw.grow gg), r2, em, fun σ2 at2 hw => ⟨by rw [hw]; exact wipe_eq (wipe_length _ _) fun k hk => by rw [wipe_get]; simp [hk], a, F2, O, b, at2, ec, fun F3 H3 g3 => ?_⟩⟩
    have g23 := g2.trans g3
    cases b with
    | false =>
      simp only [Bool.false_eq_true, if_false, Option.some.injEq] at ef ⊢
      subst ef
      simp only at ew3
      subst ew3
      exact ⟨F3, acc, zs, ws2, g.trans g23, nD g23, g23.h _ _ hDa, by omega, r.mono g23.f, ew2, ey⟩
    | true =>
      simp only [if_true] at ef ⊢
      obtain ⟨y, ey2, ef⟩ := Option.map_eq_some_iff.mp ef
      subst ef
      simp only at ew3
      subst ew3
      refine ⟨a, F3, O, y, at2.grow g3, ey2, fun w F4 H4 g4 r4 => ?_⟩
      have g24 := g23.trans g4
      have hs2 : xs.length ≤ sizeLine := it.len
      refine ⟨acc, g24.h _ _ hDa, by omega, F4, acc ++ [w], zs ++ [y], ws2, ((g.trans g24).mut hD (nD g24)), nD g24, upd_same, by simp; omega, (r.mono g24.f).snoc r4, ew2, by rw [List.append_assoc]; exact ey⟩
  · have ei : i = xs.length := by omega
    subst ei
    refine .inl ⟨it.stop F' H' g.f g.s, ?_⟩
    rw [List.drop_length] at ew
    cases ew
    rw [List.append_nil] at ey
    subst ey
    exact q D acc zs F' H' rfl (g1.trans g) (g1.h.none hD) fD hDa (Nat.le_trans hl it.len) r
theorem ex_lcG (L : LX X E kk N W G Sl sc) {Wb Gb Sb : List Str} (own : List (Str × Nat)) (ok : lcOk N Wb Gb Sb sc scope own = true) {ifs : List Expr} {mt : D → Option A} {gt : A → List Ent} {cc : A → Option Bool} {mf : A → Option D}
    (hi : XI X Γ tg e mi)
    (hg : ∀ X', LX X' E kk N Wb Gb Sb (relS scope sc) → GY X' (wipeE Γ (own.map (·.2))) (own.map (·.2)) tg mt gt)
    (ht : ∀ X', LX X' E kk N Wb Gb Sb (relS scope sc) → ∀ a, PTs X' ifs (tTX X'.K (gt a) (cc a)))
    (he : ∀ X', LX X' E kk N Wb Gb Sb (relS scope sc) → ∀ a, EX X' (gt a) elt (mf a)) (hs : ∀ x, foldedSetIterable e X.env x = pure x := by intro _; rfl) :
    CE X (.ListComp elt [⟨tg, e, ifs, 0⟩] scope pos) (tX X.K Γ (mi.bind fun xs => (lcG (fun x => (mt x).bind fun a => (cc a).bind fun b => if b = true then (mf a).map some else some none) xs).map .list) id) := (exf_lcG L own ok hi hg ht he hs).weak fun σ H Q q => tXF_of q
theorem pts_yes {X' : Cx} {Δ : List Ent} : PTs X' [] (tTX X'.K Δ (some true)) := ⟨fun p s σ H Q I ⟨F, O, b, at_, e, q⟩ => by cases e; exact pts_nil.run p s σ H Q I (q F H (Grow.refl at_.sub))⟩
theorem pts_ifs {X' : Cx} {Δ : List Ent} {c : Expr} {m : Option Bool} (h : TX X' Δ c m) : PTs X' [c] (tTX X'.K Δ m) := pts_one h
/-- [elt for n in e] -/
theorem ex_lc1 (L : LX X E kk N W G Sl sc) {Wb Gb Sb : List Str} (i j : Nat) {n : Str} {p' : Pos} (hN : N[i]? = some n) (hT : Sb[j]? = some n) (ok : lcOk N Wb Gb Sb sc scope [(n, i)] = true) {mf : D → Option D} (hi : XI X Γ (.Name n p') e mi)
    (he : ∀ X', LX X' E kk N Wb Gb Sb (relS scope sc) → ∀ x, EX X' ((Γ.set i .no).set i (.fz x)) elt (mf x)) (hs : ∀ x, foldedSetIterable e X.env x = pure x := by intro _; rfl) :
    CE X (.ListComp elt [⟨.Name n p', e, [], 0⟩] scope pos) (tX X.K Γ (mi.bind fun xs => (lcM mf xs).map .list) id) := by
  have h := ex_lcG (A := D) (mt := some) (gt := fun x => (Γ.set i .no).set i (.fz x)) (cc := fun _ => some true) (mf := mf) (pos := pos) (tg := .Name n p') L [(n, i)] ok hi (fun X' L' => gy_name L' i j hN hT) (fun X' L' a => pts_yes) he hs
  have e1 : lcM mf = lcG (fun x => (some x).bind fun a => (some true).bind fun b => if b = true then (mf a).map some else some none) := by funext xs; rw [lcM_G]; rfl
  rw [e1]
  exact h
/-- [elt for n in e if c] -/
theorem ex_lcI1 (L : LX X E kk N W G Sl sc) {Wb Gb Sb : List Str} (i j : Nat) {n : Str} {p' : Pos} (hN : N[i]? = some n) (hT : Sb[j]? = some n) (ok : lcOk N Wb Gb Sb sc scope [(n, i)] = true) {mf : D → Option D} {cc : D → Option Bool} (hi : XI X Γ (.Name n p') e mi)
    (ht : ∀ X', LX X' E kk N Wb Gb Sb (relS scope sc) → ∀ x, TX X' ((Γ.set i .no).set i (.fz x)) c (cc x))
    (he : ∀ X', LX X' E kk N Wb Gb Sb (relS scope sc) → ∀ x, EX X' ((Γ.set i .no).set i (.fz x)) elt (mf x)) (hs : ∀ x, foldedSetIterable e X.env x = pure x := by intro _; rfl) :
    CE X (.ListComp elt [⟨.Name n p', e, [c], 0⟩] scope pos) (tX X.K Γ (mi.bind fun xs => (lcI cc mf xs).map .list) id) := by
  have h := ex_lcG (A := D) (mt := some) (gt := fun x => (Γ.set i .no).set i (.fz x)) (cc := cc) (mf := mf) (pos := pos) (tg := .Name n p') L [(n, i)] ok hi (fun X' L' => gy_name L' i j hN hT) (fun X' L' a => pts_ifs (ht X' L' a)) he hs
  have e1 : lcI cc mf = lcG (fun x => (some x).bind fun a => (cc a).bind fun b => if b = true then (mf a).map some else some none) := by funext xs; rw [lcI_G]; rfl
  rw [e1]
  exact h
end
end Z
namespace Z
open PySem PySem.Spec L2

/-! ## what a def promises -/
/-- C: what the parameters hold, the answer, what they hold then -/
abbrev Con := List Ent → D → List Ent → Prop
def spC (K : PySem.W.Frag) (C : Con) : Sp := fun vs H Q _ => ∃ F O Γ0 r Γ1, At K F O (vs.map some) H Γ0 ∧ C Γ0 r Γ1 ∧ ∀ v F' H', Le F F' → At K F' O (vs.map some) H' Γ1 → Rep K F' v r → Q v H'
def FnM (E : ME) (k : Nat) (n : Str) (C : Con) : Prop := ∃ f fd ps, FnOk E.prog E.w E.K E.mg E.base CX0 k f fd ps (spC E.K C) ∧ E.mg n = some (.ref f) ∧ PySem.W.keepIn E.K (.ref f) = true ∧ Binds E.K fd ps []
theorem FnM.mono {E : ME} {j k : Nat} {n : Str} {C : Con} (h : FnM E j n C) (le : j ≤ k) : FnM E k n C := let ⟨f, fd, ps, a, b⟩ := h; ⟨f, fd, ps, a.mono le, b⟩
theorem FnM.imp {E : ME} {k : Nat} {n : Str} {C C' : Con} (h : FnM E k n C) (w : ∀ Γ0 r Γ1, C' Γ0 r Γ1 → C Γ0 r Γ1) : FnM E k n C' :=
  let ⟨f, fd, ps, a, b⟩ := h; ⟨f, fd, ps, a.imp fun _ _ _ _ ⟨F, O, Γ0, r, Γ1, x, y, z⟩ => ⟨F, O, Γ0, r, Γ1, x, w _ _ _ y, z⟩, b⟩
/-- all parameters frozen -/
def CP (m : List D → Option D) : Con := fun Γ0 r Γ1 => ∃ xs : List D, Γ0 = xs.map .fz ∧ m xs = some r ∧ Γ1 = xs.map fun _ => .no
/-- everything of H that F does not hold -/
def restH (F H : Hp) : Hp := fun a => if F a = none then H a else none
theorem restH_le {F H : Hp} : Le (restH F H) H := fun a o h => by
  unfold restH at h
  split at h
  · exact h
  · cases h
theorem restH_none {F H : Hp} {a : Addr} (h : F a ≠ none) : restH F H a = none := by unfold restH; rw [if_neg h]
theorem restH_some {F H : Hp} {a : Addr} (h : F a = none) : restH F H a = H a := by unfold restH; rw [if_pos h]
section
variable {K : PySem.W.Frag}
theorem at_args {F H : Hp} (s : Le F H) {vs : List V} {xs : List D} (r : Reps K F vs xs) : At K F (restH F H) (vs.map some) H (xs.map .fz) where
  sub := s
  out := restH_le
  fo := fun a h => restH_none h
  len := by rw [List.length_map, List.length_map, r.length]
  ents := ⟨fun _ => [], ⟨fun _ => List.nodup_nil, fun _ _ h => by simp at h, fun _ _ _ h => by simp at h⟩, fun i e h => by
    rw [List.getElem?_map] at h
    obtain ⟨x, h1, h2⟩ := Option.map_eq_some_iff.mp h
    subst h2
    obtain ⟨v, h3, h4⟩ := r.get h1
    exact ⟨v, by rw [List.getElem?_map, h3]; rfl, h4⟩⟩
theorem grow_of_rest {F H F' H' : Hp} {σ : L2.St} {Γ : List Ent} (s : Le F H) (f : Le F F') (a : At K F' (restH F H) σ H' Γ) : Grow F H F' H' where
  f := f
  h := fun b u e => by
    by_cases h : F b = none
    · exact a.out b u (by rw [restH_some h]; exact e)
    · cases q : F b with
      | none => exact absurd q h
      | some w =>
        have := s b w q
        rw [e] at this
        cases this
        exact a.sub _ _ (f _ _ q)
  s := a.sub
  n := fun b hb => by
    by_cases h : F b = none
    · have := a.fo b hb
      rw [restH_some h] at this
      exact .inr this
    · exact .inl h
end
section
variable {X : Cx} {E : ME} {kk k : Nat} {N W G Sl : List Str} {sc : Scope} {Γ : List Ent} {a b c e : Expr} {es : List Expr} {mr : Option D} {pos p : Pos}
/-- f(..), f a def of the module, all its arguments frozen -/
theorem ex_call {m : List D → Option D} (L : LX X E kk N W G Sl sc) (j : Nat) {n : Str} (hG : G[j]? = some n) (h : FnM E k n (CP m)) (hk : k ≤ kk) (ha : AX X Γ (a :: es) m mr)
    (he : starEach (a :: es) X.env = (false, eval a X.env) :: starEach es X.env := by rfl) (hpl : (backTo pos (starEach es X.env)).any (·.1) = false := by rfl) : EX X Γ (.Call (.Name n p) (a :: es) [] pos) mr := by
  obtain ⟨h1, h2⟩ := L.gl (List.mem_of_getElem? hG)
  obtain ⟨d1, d2, d3⟩ := dund1 h2
  obtain ⟨E1, E2, E3, E4, E5⟩ := E
  obtain ⟨f, fd, ps, ok, hm, hki, hb⟩ := h
  have q1 := L.mx.prog; have q2 := L.mx.w; have q3 := L.mx.K; have q4 := L.mx.mg; have q5 := L.mx.base
  simp only at q1 q2 q3 q4 q5 ok hm hki hb
  subst q1 q2 q3 q4 q5
  refine (pe_call ok (L.rm.mono hk) h1 hm hki hb .nil pass0 ha d1 he hpl).weak fun σ H Q ⟨F, O, z, at_, e, q⟩ => ⟨F, O, z, at_, e, fun vs xs F1 H1 g1 r1 _ ek => ?_⟩
  show spC X.K (CP m) (vs ++ []) H1 Q E0
  rw [List.append_nil]
  exact ⟨F1, restH F1 H1, xs.map .fz, z, xs.map fun _ => .no, at_args g1.s r1, ⟨xs, rfl, ek, rfl⟩, fun v F' H' f a' r' => q v F' H' (g1.trans (grow_of_rest g1.s f a')) r'⟩
theorem ex_call0 {m : List D → Option D} (L : LX X E kk N W G Sl sc) (j : Nat) {n : Str} (hG : G[j]? = some n) (h : FnM E k n (CP m)) (hk : k ≤ kk) : EX X Γ (.Call (.Name n p) [] [] pos) (m []) := by
  obtain ⟨h1, h2⟩ := L.gl (List.mem_of_getElem? hG)
  obtain ⟨d1, d2, d3⟩ := dund1 h2
  obtain ⟨E1, E2, E3, E4, E5⟩ := E
  obtain ⟨f, fd, ps, ok, hm, hki, hb⟩ := h
  have q1 := L.mx.prog; have q2 := L.mx.w; have q3 := L.mx.K; have q4 := L.mx.mg; have q5 := L.mx.base
  simp only at q1 q2 q3 q4 q5 ok hm hki hb
  subst q1 q2 q3 q4 q5
  refine (pe_call0 ok (L.rm.mono hk) h1 hm hki hb .nil pass0 d1).weak fun σ H Q ⟨F, O, z, at_, e, q⟩ => ?_
  exact ⟨F, restH F H, [], z, [], at_args (xs := []) (vs := []) at_.sub .nil, ⟨[], rfl, e, rfl⟩, fun v F' H' f a' r' => q v F' H' (grow_of_rest at_.sub f a') r'⟩
end

/-! ## a def by its body -/
/-- at a return: what is told of the parameters -/
inductive Ret : List Ent → List Ent → List Ent → Prop
  | nil {Γ' : List Ent} : Ret [] Γ' []
  | no {e0 e' : Ent} {Γ0 Γ' Γ1 : List Ent} : Ret Γ0 Γ' Γ1 → Ret (e0 :: Γ0) (e' :: Γ') (.no :: Γ1)
  | ow {s s0 : Sh} {v : V} {x x0 : D} {Γ0 Γ' Γ1 : List Ent} : Ret Γ0 Γ' Γ1 → Ret (.ow s0 (some v) x0 :: Γ0) (.ow s (some v) x :: Γ') (.ow s (some v) x :: Γ1)
theorem Ret.get : ∀ {Γ0 Γ' Γ1 : List Ent} {i : Nat} {e : Ent}, Ret Γ0 Γ' Γ1 → Γ1[i]? = some e → e = .no ∨ ∃ s v x s0 x0, e = .ow s (some v) x ∧ Γ'[i]? = some e ∧ Γ0[i]? = some (.ow s0 (some v) x0)
  | _, _, _, _, _, .nil, h => by simp at h
  | _, _, _, 0, _, .no _, h => .inl (by simpa using h.symm)
  | _, _, _, i + 1, _, .no r, h => by simpa using r.get (i := i) (by simpa using h)
  | _, _, _, 0, _, .ow _, h => by simp at h; subst h; exact .inr ⟨_, _, _, _, _, rfl, rfl, rfl⟩
  | _, _, _, i + 1, _, .ow r, h => by simpa using r.get (i := i) (by simpa using h)
theorem Ret.len : ∀ {Γ0 Γ' Γ1 : List Ent}, Ret Γ0 Γ' Γ1 → Γ1.length = Γ0.length
  | _, _, _, .nil => rfl
  | _, _, _, .no r => congrArg (· + 1) r.len
  | _, _, _, .ow r => congrArg (· + 1) r.len
/-- a body's worth: Γ0 the parameters at the entry, r the answer, Γ1 the parameters then -/
def BodyOk (X : Cx) (Γ0 Γ : List Ent) (ss : List Stmt) (r : D) (Γ1 : List Ent) : Prop :=
  PSs X ss (fun Dd σ H => ∃ F O, At X.K F O σ H Γ ∧ (∀ v σ' F' H' Γ', Le F F' → At X.K F' O σ' H' Γ' → Ret Γ0 Γ' Γ1 → Rep X.K F' v r → Dd.rt v H') ∧ (r = .none → ∀ σ' F' H' Γ', Le F F' → At X.K F' O σ' H' Γ' → Ret Γ0 Γ' Γ1 → Dd.nx σ' H'))
theorem body_of {Nt L' R' : Type} {X : Cx} {Γ0 Γ Γ1 : List Ent} {ss : List Stmt} {m : Option (Ctl Nt L' R')} {gN : Nt → List Ent} {gL : L' → List Ent} {gR : R' → List Ent} {vR : R' → D} {d : Nt → R'} {rr : R'} (b : BS X Γ ss m gN gL gR vR) (e : Ctl.fin d m = some rr)
    (hR : Ret Γ0 (gR rr) Γ1) (hN : ∀ n, d n = rr → vR rr = .none ∧ Ret Γ0 (gN n) Γ1) : BodyOk X Γ0 Γ ss (vR rr) Γ1 :=
  PSs.weak b fun Dd σ H ⟨F, O, at_, q1, q2⟩ => by
    rcases Ctl.fin_some e with ⟨n, h1, h2⟩ | h1
    · obtain ⟨h3, h4⟩ := hN n h2
      exact ⟨F, O, _, at_, h1, fun σ' F' H' f a => q2 h3 σ' F' H' _ f a h4⟩
    · exact ⟨F, O, _, at_, h1, fun v σ' F' H' f a r => q1 v σ' F' H' _ f a hR r⟩
def locC (sc : Scope) (Sl : List Str) : Bool := Sl.all fun x => match sc.names.lookup x with | some .local => true | some .cell => true | _ => false
theorem at_start {K : PySem.W.Frag} {F O H : Hp} {vs : List V} {Γ0 : List Ent} {N : List Str} (h : At K F O (vs.map some) H Γ0) : At K F O (L2.start N vs) H (Γ0 ++ List.replicate (N.length - vs.length) .no) := by
  obtain ⟨fp, d, e⟩ := h.ents
  have hl : Γ0.length = vs.length := by rw [h.len, List.length_map]
  refine ⟨h.sub, h.out, h.fo, by unfold L2.start; simp [hl], fp, d, fun i x hx => ?_⟩
  by_cases hi : i < Γ0.length
  · rw [List.getElem?_append_left hi] at hx
    unfold L2.start
    rw [List.getElem?_append_left (by rw [List.length_map, ← hl]; exact hi)]
    exact e i x hx
  · rw [List.getElem?_append_right (by omega), List.getElem?_replicate] at hx
    split at hx
    · cases hx; trivial
    · cases hx
theorem at_end {K : PySem.W.Frag} {F O H F' H' : Hp} {vs : List V} {σ' : L2.St} {Γ0 Γ' Γ1 : List Ent} (h : At K F O (vs.map some) H Γ0) (h' : At K F' O σ' H' Γ') (r : Ret Γ0 Γ' Γ1) : At K F' O (vs.map some) H' Γ1 := by
  obtain ⟨fp0, d0, e0⟩ := h.ents
  obtain ⟨fp, d, e⟩ := h'.ents
  refine ⟨h'.sub, h'.out, h'.fo, by rw [r.len, h.len], fp, d, fun i x hx => ?_⟩
  rcases r.get hx with q | ⟨s, v, y, s0, y0, q1, q2, q3⟩
  · subst q; trivial
  · subst q1
    obtain ⟨w, z1, z2, z3⟩ := e i _ q2
    obtain ⟨w0, y1, y2, y3⟩ := e0 i _ q3
    have ew := z2 v rfl
    have ew0 := y2 v rfl
    subst ew ew0
    exact ⟨v, y1, fun u hu => by cases hu; rfl, z3⟩
/-- THE RULE -/
theorem fn_ok {E : ME} {k : Nat} {n qual : Str} {st : Stmt} {f : Addr} {fd : FuncData} {N W G Sl ps : List Str} {C : Con} (F : Fun E.K n qual st f fd) (S : FnScope N ps (defScope st)) (hst : stOk N W G (defScope st) = true)
    (hsl : locC (defScope st) Sl = true) (hlen : ∀ Γ0 r Γ1, C Γ0 r Γ1 → Γ0.length = ps.length)
    (body : ∀ X, LX X E k N W G Sl (defScope st) → ∀ Γ0 r Γ1, C Γ0 r Γ1 → BodyOk X Γ0 (Γ0 ++ List.replicate (N.length - ps.length) .no) (defBody st) r Γ1) : FnOk E.prog E.w E.K E.mg E.base CX0 (k + 1) f fd ps (spC E.K C) := by
  have len : ∀ vs H Q Ex, spC E.K C vs H Q Ex → vs.length = ps.length := fun vs H Q Ex ⟨F, O, Γ0, r, Γ1, a, c, _⟩ => by
    have := a.len
    rw [List.length_map] at this
    rw [← this]
    exact hlen _ _ _ c
  refine F.ok S len fun cdv A outer s H vs Q Ex hr hsp => ?_
  obtain ⟨Fz, O, Γ0, r, Γ1, at_, hc, q⟩ := id hsp
  have hl := len _ _ _ _ hsp
  have hl0 : Γ0.length = ps.length := hlen _ _ _ hc
  have sto : ∀ x ∈ Sl, L2.Loc (defScope st) x ∧ (true = true ∨ (defScope st).names.lookup x = some .local) := fun x hx => by
    have h := List.all_eq_true.mp hsl x hx
    unfold L2.Loc
    split at h
    · rename_i e; exact ⟨.inl e, .inl rfl⟩
    · rename_i e; exact ⟨.inr e, .inl rfl⟩
    · cases h
  have B := body (cxOf CX0 E.prog E.w E.K E.mg E.base N qual (defScope st) f cdv A outer s H Ex).nox ⟨⟨rfl, rfl, rfl, rfl, rfl⟩, hr, rfl, rfl, rfl, hst, sto, PassesOwn.never⟩ Γ0 r Γ1 hc
  refine ⟨_, B, Fz, O, ?_, fun v σ' F' H' Γ' f' a' hR r' => q v F' H' f' (at_end at_ a' hR) r', fun e σ' F' H' Γ' f' a' hR => q .non F' H' f' (at_end at_ a' hR) (by rw [e]; exact .non)⟩
  have := at_start (N := N) at_
  rw [hl] at this
  exact this
theorem fn_mk {E : ME} {k : Nat} {n qual : Str} {st : Stmt} {f : Addr} {fd : FuncData} {N W G Sl ps : List Str} {C : Con} (F : Fun E.K n qual st f fd) (hb : Binds E.K fd ps []) (hm : E.mg n = some (.ref f)) (S : FnScope N ps (defScope st)) (hst : stOk N W G (defScope st) = true)
    (hsl : locC (defScope st) Sl = true) (hlen : ∀ Γ0 r Γ1, C Γ0 r Γ1 → Γ0.length = ps.length)
    (body : ∀ X, LX X E k N W G Sl (defScope st) → ∀ Γ0 r Γ1, C Γ0 r Γ1 → BodyOk X Γ0 (Γ0 ++ List.replicate (N.length - ps.length) .no) (defBody st) r Γ1) : FnM E (k + 1) n C :=
  ⟨f, fd, ps, fn_ok F S hst hsl hlen body, hm, F.kp, hb⟩
/-- nothing can be asked at level 0 -/
theorem fn_zero {E : ME} {n : Str} {f : Addr} {fd : FuncData} {ps : List Str} {C : Con} (hm : E.mg n = some (.ref f)) (hk : PySem.W.keepIn E.K (.ref f) = true) (hb : Binds E.K fd ps []) (hno : ∀ Γ0 r Γ1, ¬ C Γ0 r Γ1) : FnM E 0 n C :=
  ⟨f, fd, ps, ⟨fun vs H Q Ex ⟨F, O, Γ0, r, Γ1, a, c, _⟩ => absurd c (hno _ _ _), fun A outer s H args us vs Q Ex _ _ _ _ ⟨F, O, Γ0, r, Γ1, a, c, _⟩ => absurd c (hno _ _ _)⟩, hm, hk, hb⟩
end Z
namespace Z
open PySem PySem.Spec L2

/-! ## owned lists -/
section
variable {K : PySem.W.Frag} {F O H : Hp} {σ : L2.St} {Γ : List Ent} {i : Nat}
/-- what an owned list's slot is worth -/
theorem At.own (h : At K F O σ H Γ) {ov : Option V} {x : D} (e : Γ[i]? = some (.ow .l ov x)) : ∃ p vs xs, σ[i]? = some (some (.ref p)) ∧ (∀ u, ov = some u → u = .ref p) ∧ x = .list xs ∧ H p = some (.lst vs) ∧ vs.length ≤ sizeLine ∧ Reps K F vs xs ∧ F p = none ∧ O p = none ∧
    (∀ vs' xs', Reps K F vs' xs' → vs'.length ≤ sizeLine → At K F O σ (upd H p (.lst vs')) (Γ.set i (.ow .l ov (.list xs')))) ∧ At K (upd F p (.lst vs)) O σ H (Γ.set i (.fz x)) := by
  obtain ⟨fp, d, q⟩ := h.ents
  obtain ⟨v, h1, h2, t⟩ := q i _ e
  have hi : i < Γ.length := (List.getElem?_eq_some_iff.mp e).1
  generalize hfp : fp i = fpi at t
  cases t with
  | @l p vs xs hp r =>
    obtain ⟨hp, hz⟩ := hp
    have mp : p ∈ fp i := by rw [hfp]; simp
    obtain ⟨fF, fO⟩ := d.f i p mp
    refine ⟨p, vs, xs, h1, h2, rfl, hp, hz, r, fF, fO, fun vs' xs' r' hz' => ?_, ?_⟩
    · refine ⟨fun a o ha => by rw [upd_ne (ne_of_none ha fF)]; exact h.sub a o ha, fun a o ha => by rw [upd_ne (ne_of_none ha fO)]; exact h.out a o ha, h.fo, by simp [h.len], fp, d, fun j e1 he => ?_⟩
      by_cases hj : j = i
      · subst hj
        rw [List.getElem?_set_self hi] at he
        cases he
        refine ⟨_, h1, h2, ?_⟩
        rw [hfp]
        exact .l ⟨upd_same, hz'⟩ r'
      · rw [List.getElem?_set_ne (Ne.symm hj)] at he
        refine (q j e1 he).frame (Le.refl F) fun a ha => upd_ne fun ea => ?_
        subst ea
        exact hj (d.ap j i _ ha mp)
    · have le : Le F (upd F p (.lst vs)) := Le.new fF
      refine ⟨fun a o ha => ?_, h.out, fun a ha => ?_, by simp [h.len], fun j => if j = i then [] else fp j, ⟨fun j => ?_, fun j a ha => ?_, fun j k a ha hb => ?_⟩, fun j e1 he => ?_⟩
      · by_cases ea : a = p
        · subst ea; rw [upd_same] at ha; cases ha; exact hp
        · rw [upd_ne ea] at ha; exact h.sub a o ha
      · by_cases ea : a = p
        · subst ea; exact fO
        · rw [upd_ne ea] at ha; exact h.fo a ha
      · by_cases hj : j = i
        · simp [hj]
        · simp only [hj, if_false]; exact d.nd j
      · by_cases hj : j = i
        · simp [hj] at ha
        · simp only [hj, if_false] at ha
          have ea : a ≠ p := fun ea => by subst ea; exact hj (d.ap j i _ ha mp)
          exact ⟨by rw [upd_ne ea]; exact (d.f j a ha).1, (d.f j a ha).2⟩
      · by_cases hj : j = i
        · simp [hj] at ha
        · by_cases hk : k = i
          · simp [hk] at hb
          · simp only [hj, hk, if_false] at ha hb; exact d.ap j k a ha hb
      · by_cases hj : j = i
        · subst hj
          rw [List.getElem?_set_self hi] at he
          cases he
          exact ⟨_, h1, .lst ⟨upd_same, hz⟩ (r.mono le)⟩
        · rw [List.getElem?_set_ne (Ne.symm hj)] at he
          simp only [hj, if_false]
          exact (q j e1 he).frame le fun a _ => rfl
/-- a new list, owned by a slot -/
theorem At.newOwn (h : At K F O σ H Γ) {p : Addr} (hp : H p = none) {vs : List V} {xs : List D} (r : Reps K F vs xs) (hz : vs.length ≤ sizeLine) : At K F O (σ.set i (some (.ref p))) (upd H p (.lst vs)) (Γ.set i (.ow .l none (.list xs))) := by
  obtain ⟨fp, d, q⟩ := h.ents
  have fF : F p = none := h.sub.none hp
  have fO : O p = none := h.out.none hp
  refine ⟨fun a o ha => by rw [upd_ne (ne_of_none ha fF)]; exact h.sub a o ha, fun a o ha => by rw [upd_ne (ne_of_none ha fO)]; exact h.out a o ha, h.fo, by simp [h.len],
    fun j => if j = i then [p] else (match Γ[j]? with | some (.ow _ _ _) => fp j | _ => []), ⟨fun j => ?_, fun j a ha => ?_, fun j k a ha hb => ?_⟩, fun j e1 he => ?_⟩
  · by_cases hj : j = i
    · simp [hj]
    · simp only [hj, if_false]
      split
      · exact d.nd j
      · exact List.nodup_nil
  · by_cases hj : j = i
    · simp [hj] at ha; subst ha; exact ⟨fF, fO⟩
    · simp only [hj, if_false] at ha
      split at ha
      · exact d.f j a ha
      · cases ha
  · have key : ∀ j, j ≠ i → a ∈ (match Γ[j]? with | some (.ow _ _ _) => fp j | _ => []) → a ∈ fp j ∧ a ≠ p := fun j hj ha => by
      split at ha
      · rename_i s w x hx
        refine ⟨ha, fun ea => ?_⟩
        obtain ⟨v, q1, q2, t⟩ := q j _ hx
        have := t.there a ha
        rw [ea] at this
        exact this hp
      · cases ha
    by_cases hj : j = i
    · by_cases hk : k = i
      · rw [hj, hk]
      · simp [hj] at ha
        simp only [hk, if_false] at hb
        exact absurd ha (key k hk hb).2
    · simp only [hj, if_false] at ha
      by_cases hk : k = i
      · simp [hk] at hb
        exact absurd hb (key j hj ha).2
      · simp only [hk, if_false] at hb
        exact d.ap j k a (key j hj ha).1 (key k hk hb).1
  · by_cases hj : j = i
    · subst hj
      have hjl : j < Γ.length := by
        have := (List.getElem?_eq_some_iff.mp he).1
        simpa using this
      rw [List.getElem?_set_self hjl] at he
      cases he
      simp only [if_true]
      exact ⟨.ref p, by rw [List.getElem?_set_self (by rw [← h.len]; exact hjl)], ⟨fun u hu => (nomatch hu), Tree.l ⟨upd_same, hz⟩ r⟩⟩
    · rw [List.getElem?_set_ne (Ne.symm hj)] at he
      rw [List.getElem?_set_ne (Ne.symm hj)]
      have qq := q j e1 he
      simp only [hj, if_false]
      cases e1 with
      | no => trivial
      | fz x => exact qq
      | sc ns => exact qq
      | ow s w x =>
        simp only [he]
        refine qq.frame (Le.refl F) fun a ha => upd_ne fun ea => ?_
        obtain ⟨v, q1, q2, t⟩ := qq
        exact t.there a ha (by rw [ea]; exact hp)
end
/-- a growth, less one address that was there -/
def lessP (F : Hp) (p : Addr) : Hp := fun a => if a = p then none else F a
theorem lessP_ne {F : Hp} {p a : Addr} (h : a ≠ p) : lessP F p a = F a := by unfold lessP; rw [if_neg h]
theorem lessP_same {F : Hp} {p : Addr} : lessP F p p = none := by unfold lessP; rw [if_pos rfl]
theorem grow_less {F H F' H' : Hp} {p : Addr} {o : HO} (fF : F p = none) (hp : H p ≠ none) (g : Grow (upd F p o) H F' H') : Grow F H (lessP F' p) H' where
  f := fun a u h => by
    have ea : a ≠ p := ne_of_none h fF
    rw [lessP_ne ea]
    exact g.f a u (by rw [upd_ne ea]; exact h)
  h := g.h
  s := fun a u h => by
    by_cases ea : a = p
    · subst ea; rw [lessP_same] at h; cases h
    · rw [lessP_ne ea] at h; exact g.s a u h
  n := fun a h => by
    by_cases ea : a = p
    · subst ea; rw [lessP_same] at h; exact absurd rfl h
    · rw [lessP_ne ea] at h
      have := g.n a h
      rw [upd_ne ea] at this
      exact this
def scal : D → Bool
  | .list _ => false
  | .tuple _ => false
  | .dict _ => false
  | _ => true
theorem rep_scal {K : PySem.W.Frag} {F F' : Hp} {v : V} {x : D} (h : scal x = true) (r : Rep K F v x) : Rep K F' v x := by
  cases r with
  | non => exact .non
  | bl b => exact .bl b
  | int i => exact .int i
  | str s => exact .str s
  | lst _ _ => cases h
  | tup _ _ => cases h

/-! ## what is reckoned on owned lists -/
def pApp (x y : D) : Option D := match x with
  | .list xs => if xs.length < sizeLine then some (.list (xs ++ [y])) else none
  | _ => none
def pExt (x y : D) : Option D := match x, y with
  | .list xs, .list ys => if xs.length + ys.length ≤ sizeLine then some (.list (xs ++ ys)) else none
  | _, _ => none
def pPop (x : D) : Option (D × D) := match x with
  | .list xs => (xs[xs.length - 1]?).map fun y => (y, .list xs.dropLast)
  | _ => none
def pPopAt (x i : D) : Option (D × D) := match x, i with
  | .list xs, .int i => if -(2 ^ 63) ≤ i ∧ i < 2 ^ 63 then (seqIndex? i xs.length).bind fun k => (xs[k]?).map fun y => (y, .list (xs.eraseIdx k)) else none
  | _, _ => none
def pSetI (x i y : D) : Option D := match x, i with
  | .list xs, .int k => (ixN xs.length k).map fun j => .list (xs.set j y)
  | _, _ => none

section
variable {X : Cx} {E : ME} {kk k : Nat} {N W G Sl : List Str} {sc : Scope} {Γ : List Ent} {a b c e : Expr} {es : List Expr} {x y : D} {me ma mb : Option D} {pos p p1 p2 : Pos} {rest ss : List Stmt}
variable {Nt L' R' : Type} {gN : Nt → List Ent} {gL : L' → List Ent} {gR : R' → List Ent} {vR : R' → D}

/-! ### reading an owned list -/
theorem bs_freeze {m : Option (Ctl Nt L' R')} (i : Nat) {ov : Option V} (hΓ : Γ[i]? = some (.ow .l ov x)) (h : BS X (Γ.set i (.fz x)) ss m gN gL gR vR) : BS X Γ ss m gN gL gR vR := PSs.weak h fun Dd σ H ⟨F, O, c, at_, e, q⟩ => by
  obtain ⟨p, vs, xs, h1, h2, h3, h4, h5, h6, h7, h8, h9, h10⟩ := at_.own hΓ
  exact ⟨_, O, c, h10, e, q.le (Le.new h7)⟩
theorem tx_borrow {m : Option Bool} (i : Nat) {ov : Option V} (hΓ : Γ[i]? = some (.ow .l ov x)) (h : TX X (Γ.set i (.fz x)) e m) : TX X Γ e m := PT.weak h fun σ H Q ⟨F, O, c, at_, e, q⟩ => by
  obtain ⟨p, vs, xs, h1, h2, h3, h4, h5, h6, h7, h8, h9, h10⟩ := at_.own hΓ
  exact ⟨_, O, c, h10, e, fun F' H' g => q _ H' (grow_less h7 (by rw [h4]; simp) g)⟩
theorem ex_borrow {m : Option D} (i : Nat) {ov : Option V} (hΓ : Γ[i]? = some (.ow .l ov x)) (hs : ∀ y, m = some y → scal y = true) (h : EX X (Γ.set i (.fz x)) e m) : EX X Γ e m := PE.weak h fun σ H Q ⟨F, O, c, at_, e, q⟩ => by
  obtain ⟨p, vs, xs, h1, h2, h3, h4, h5, h6, h7, h8, h9, h10⟩ := at_.own hΓ
  exact ⟨_, O, c, h10, e, fun v F' H' g r => q v _ H' (grow_less h7 (by rw [h4]; simp) g) (rep_scal (hs c e) r)⟩
theorem own_var (L : LX X E kk N W G Sl sc) (i j : Nat) {n : Str} (hN : N[i]? = some n) (hW : W[j]? = some n) : PE X (.Name n pos) (tVar i) := by
  obtain ⟨h1, h2⟩ := L.vis (List.mem_of_getElem? hW)
  obtain ⟨d1, d2, d3⟩ := dund1 h2
  exact pe_var (i := i) (by rw [L.n]; exact hN) h1 d1 d2
/-- n[e], n an owned list -/
theorem ex_ixO (L : LX X E kk N W G Sl sc) (i j : Nat) {n : Str} {ov : Option V} (hN : N[i]? = some n) (hW : W[j]? = some n) (hΓ : Γ[i]? = some (.ow .l ov x)) (hb : EX X Γ b mb) (hs : PlainIx b) : EX X Γ (.Subscript (.Name n p1) b pos) (mb.bind fun y => pIdx x y) :=
  (pe_ix ix_list (own_var L i j hN hW) hb hs).weak fun σ H Q ⟨F, O, z, at_, e, q⟩ => by
    obtain ⟨y, e1, e⟩ := bind_some' e
    obtain ⟨p, vs, xs, h1, h2, h3, h4, h5, h6, h7, h8, h9, h10⟩ := at_.own hΓ
    subst h3
    refine ⟨_, h1, F, O, y, at_, e1, fun v F1 H1 g1 r1 => ?_⟩
    cases r1 with
    | int k =>
      obtain ⟨w, e2, r2⟩ := atI_reps h6 (by simpa [pIdx] using e)
      exact ⟨p, vs, k, w, rfl, rfl, .of (g1.h _ _ h4), e2, q w F1 H1 g1 (r2.mono g1.f)⟩
    | _ => simp [pIdx] at e
theorem ex_ixO_a (L : LX X E kk N W G Sl sc) (i j : Nat) {n : Str} {ov : Option V} (hN : N[i]? = some n) (hW : W[j]? = some n) (hΓ : Γ[i]? = some (.ow .l ov x)) (hb : EX X Γ b (some y)) (hs : PlainIx b) : EX X Γ (.Subscript (.Name n p1) b pos) (pIdx x y) := ex_ixO L i j hN hW hΓ hb hs

/-! ### storing -/
/-- name = [..]: a list of one's own -/
theorem bs_newl (L : LX X E kk N W G Sl sc) (i j : Nat) {n : Str} {p' : Pos} {k : D → Option (Ctl Nt L' R')} {ml : Option D} (hN : N[i]? = some n) (hT : Sl[j]? = some n) (hz : es.length ≤ sizeLine) (ha : AX X Γ es (fun xs => some (.list xs)) ml) (hr : ∀ x, BS X (Γ.set i (.ow .l none x)) rest (k x) gN gL gR vR)
    (hs : swapsWith (.List es p) (some (.Name n p')) pos.line X.env = pure false := by rfl) : BS X Γ (.Assign [.Name n p'] (.List es p) pos :: rest) (ml.bind k) gN gL gR vR := by
  obtain ⟨h1, h2, h3⟩ := L.slot hN hT
  exact (pss_cons (ps_set L.nd h1 h2 (pe_lst ha) hs h3) (PSs.ex hr)).weak fun Dd σ H ⟨F, O, c, at_, e, q⟩ => by
    obtain ⟨x, e1, e⟩ := bind_some' e
    refine ⟨F, O, x, at_, e1, fun vs xs F1 H1 g1 r1 hl ek => ?_⟩
    cases ek
    have hz2 : vs.length ≤ sizeLine := by rw [r1.length, hl]; exact hz
    exact ⟨hz2, fun p hp => ⟨_, le_rest g1.f ((at_.grow g1).newOwn hp r1 hz2) e q⟩⟩
theorem bs_newl_a (L : LX X E kk N W G Sl sc) (i j : Nat) {n : Str} {p' : Pos} {m : Option (Ctl Nt L' R')} (hN : N[i]? = some n) (hT : Sl[j]? = some n) (hz : es.length ≤ sizeLine) (ha : AX X Γ es (fun xs => some (.list xs)) (some x)) (hr : BS X (Γ.set i (.ow .l none x)) rest m gN gL gR vR)
    (hs : swapsWith (.List es p) (some (.Name n p')) pos.line X.env = pure false := by rfl) : BS X Γ (.Assign [.Name n p'] (.List es p) pos :: rest) m gN gL gR vR := by
  obtain ⟨h1, h2, h3⟩ := L.slot hN hT
  exact (pss_cons (ps_set L.nd h1 h2 (pe_lst ha) hs h3) hr).weak fun Dd σ H ⟨F, O, c, at_, e, q⟩ => by
    refine ⟨F, O, x, at_, rfl, fun vs xs F1 H1 g1 r1 hl ek => ?_⟩
    cases ek
    have hz2 : vs.length ≤ sizeLine := by rw [r1.length, hl]; exact hz
    exact ⟨hz2, fun p hp => le_rest g1.f ((at_.grow g1).newOwn hp r1 hz2) e q⟩
theorem At.own_grow {K : PySem.W.Frag} {F O H F1 H1 : Hp} {σ : L2.St} {i : Nat} {ov : Option V} (at_ : At K F O σ H Γ) (g : Grow F H F1 H1) (hΓ : Γ[i]? = some (.ow .l ov x)) {p : Addr} (hp : σ[i]? = some (some (.ref p))) : ∃ vs xs, x = .list xs ∧ H1 p = some (.lst vs) ∧ vs.length ≤ sizeLine ∧ Reps K F1 vs xs ∧
    (∀ vs' xs', Reps K F1 vs' xs' → vs'.length ≤ sizeLine → At K F1 O σ (upd H1 p (.lst vs')) (Γ.set i (.ow .l ov (.list xs')))) := by
  obtain ⟨p', vs, xs, h1, h2, h3, h4, h5, h6, h7, h8, h9, h10⟩ := (at_.grow g).own hΓ
  rw [hp] at h1
  cases h1
  exact ⟨vs, xs, h3, h4, h5, h6, h9⟩
/-- n.append(e) -/
theorem bs_app (L : LX X E kk N W G Sl sc) (i j : Nat) {n : Str} {ov : Option V} {k : D → Option (Ctl Nt L' R')} (hN : N[i]? = some n) (hW : W[j]? = some n) (hΓ : Γ[i]? = some (.ow .l ov x)) (he : EX X Γ e me) (hr : ∀ z, BS X (Γ.set i (.ow .l ov z)) rest (k z) gN gL gR vR)
    (hs0 : swapsWith (.Call (.Attribute (.Name n p1) "append" p2) [e] [] p) none pos.line X.env = pure false := by rfl)
    (hbase : attributeBase (.Name n p1) "append" X.env (eval (.Name n p1) X.env) = eval (.Name n p1) X.env := by rfl)
    (hfew : ((backTo p (starEach [e] X.env)).all (fun x => !x.1) && (backToKw p (keywordEach [] X.env)).all (fun x => x.1.isSome) && decide ([e].length + ([] : List Keyword).length + (if ([] : List Keyword).isEmpty then 0 else 1) < 30)) = true := by rfl)
    (hline : (p2.endLine == p.line) = true := by rfl) (hs : starEach [e] X.env = (false, eval e X.env) :: starEach [] X.env := by rfl) (hplain : (backTo p (starEach [] X.env)).any (·.1) = false := by rfl) :
    BS X Γ (.Expr (.Call (.Attribute (.Name n p1) "append" p2) [e] [] p) pos :: rest) (me.bind fun y => (pApp x y).bind k) gN gL gR vR :=
  (pss_cons (ps_expr (pe_bm PySem.F.plainAttrs_list PySem.F.slot_list_append PySem.F.type_list_append mt_append (own_var L i j hN hW) (pa_cons he pa_nil hs) hbase hfew hline hs hplain) hs0) (PSs.ex hr)).weak fun Dd σ H ⟨F, O, c, at_, e, q⟩ => by
    obtain ⟨y, e1, e⟩ := bind_some' e
    obtain ⟨z, e2, e⟩ := bind_some' e
    obtain ⟨p, vs, xs, h1, h2, h3, h4, h5, h6, h7, h8, h9, h10⟩ := at_.own hΓ
    refine ⟨_, h1, .inl ⟨rfl, _, .of h4⟩, F, O, y, at_, e1, fun v F1 H1 g1 r1 => ?_⟩
    obtain ⟨vs', xs', h3', h4', h5', h6', h9'⟩ := at_.own_grow g1 hΓ h1
    subst h3'
    simp only [pApp] at e2
    split at e2
    · rename_i hz
      cases e2
      rw [← h6'.length] at hz
      exact ⟨p, vs', v, rfl, rfl, h4', hz, _, le_rest g1.f (h9' _ _ (h6'.snoc r1) (by simp; omega)) e q⟩
    · cases e2
theorem bs_app_a (L : LX X E kk N W G Sl sc) (i j : Nat) {n : Str} {ov : Option V} {k : D → Option (Ctl Nt L' R')} (hN : N[i]? = some n) (hW : W[j]? = some n) (hΓ : Γ[i]? = some (.ow .l ov x)) (he : EX X Γ e (some y)) (hr : ∀ z, BS X (Γ.set i (.ow .l ov z)) rest (k z) gN gL gR vR)
    (hs0 : swapsWith (.Call (.Attribute (.Name n p1) "append" p2) [e] [] p) none pos.line X.env = pure false := by rfl)
    (hbase : attributeBase (.Name n p1) "append" X.env (eval (.Name n p1) X.env) = eval (.Name n p1) X.env := by rfl)
    (hfew : ((backTo p (starEach [e] X.env)).all (fun x => !x.1) && (backToKw p (keywordEach [] X.env)).all (fun x => x.1.isSome) && decide ([e].length + ([] : List Keyword).length + (if ([] : List Keyword).isEmpty then 0 else 1) < 30)) = true := by rfl)
    (hline : (p2.endLine == p.line) = true := by rfl) (hs : starEach [e] X.env = (false, eval e X.env) :: starEach [] X.env := by rfl) (hplain : (backTo p (starEach [] X.env)).any (·.1) = false := by rfl) :
    BS X Γ (.Expr (.Call (.Attribute (.Name n p1) "append" p2) [e] [] p) pos :: rest) ((pApp x y).bind k) gN gL gR vR := bs_app L i j hN hW hΓ he hr hs0 hbase hfew hline hs hplain
/-- n.extend(e) -/
theorem bs_ext (L : LX X E kk N W G Sl sc) (i j : Nat) {n : Str} {ov : Option V} {k : D → Option (Ctl Nt L' R')} (hN : N[i]? = some n) (hW : W[j]? = some n) (hΓ : Γ[i]? = some (.ow .l ov x)) (he : EX X Γ e me) (hr : ∀ z, BS X (Γ.set i (.ow .l ov z)) rest (k z) gN gL gR vR)
    (hs0 : swapsWith (.Call (.Attribute (.Name n p1) "extend" p2) [e] [] p) none pos.line X.env = pure false := by rfl)
    (hbase : attributeBase (.Name n p1) "extend" X.env (eval (.Name n p1) X.env) = eval (.Name n p1) X.env := by rfl)
    (hfew : ((backTo p (starEach [e] X.env)).all (fun x => !x.1) && (backToKw p (keywordEach [] X.env)).all (fun x => x.1.isSome) && decide ([e].length + ([] : List Keyword).length + (if ([] : List Keyword).isEmpty then 0 else 1) < 30)) = true := by rfl)
    (hline : (p2.endLine == p.line) = true := by rfl) (hs : starEach [e] X.env = (false, eval e X.env) :: starEach [] X.env := by rfl) (hplain : (backTo p (starEach [] X.env)).any (·.1) = false := by rfl) :
    BS X Γ (.Expr (.Call (.Attribute (.Name n p1) "extend" p2) [e] [] p) pos :: rest) (me.bind fun y => (pExt x y).bind k) gN gL gR vR :=
  (pss_cons (ps_expr (pe_bm PySem.F.plainAttrs_list PySem.F.slot_list_extend PySem.F.type_list_extend mt_extend (own_var L i j hN hW) (pa_cons he pa_nil hs) hbase hfew hline hs hplain) hs0) (PSs.ex hr)).weak fun Dd σ H ⟨F, O, c, at_, e, q⟩ => by
    obtain ⟨y, e1, e⟩ := bind_some' e
    obtain ⟨z, e2, e⟩ := bind_some' e
    obtain ⟨p, vs, xs, h1, h2, h3, h4, h5, h6, h7, h8, h9, h10⟩ := at_.own hΓ
    refine ⟨_, h1, .inl ⟨rfl, _, .of h4⟩, F, O, y, at_, e1, fun v F1 H1 g1 r1 => ?_⟩
    obtain ⟨vs', xs', h3', h4', h5', h6', h9'⟩ := at_.own_grow g1 hΓ h1
    subst h3'
    cases r1 with
    | @lst bq ws ys hy ry =>
      simp only [pExt, id] at e2
      split at e2
      · rename_i hz
        cases e2
        rw [← h6'.length, ← ry.length] at hz
        exact ⟨p, bq, vs', ws, rfl, rfl, h4', g1.s _ _ hy.1, hz, _, le_rest g1.f (h9' _ _ (h6'.append ry) (by simp; omega)) e q⟩
      · cases e2
    | _ => simp [pExt] at e2
/-- n[b] = e, n an owned list -/
theorem bs_seti (L : LX X E kk N W G Sl sc) (i j : Nat) {n : Str} {ov : Option V} {k : D → Option (Ctl Nt L' R')} (hN : N[i]? = some n) (hW : W[j]? = some n) (hΓ : Γ[i]? = some (.ow .l ov x)) (he : EX X Γ e me) (hb : EX X Γ b mb) (hr : ∀ z, BS X (Γ.set i (.ow .l ov z)) rest (k z) gN gL gR vR)
    (ha : ∀ v, assign (.Subscript (.Name n p1) b p2) X.env v = (do
      let ov ← holding [v] (eval (.Name n p1) X.env)
      let iv ← holding [v, ov] (eval b X.env)
      standAt p2
      holding [v, ov, iv] (setItem ov iv v)
      release [v, ov, iv] []) := by intro _; rfl)
    (hs : swapsWithSole [.Subscript (.Name n p1) b p2] e pos.line X.env = pure false := by rfl) (hw : swappedStores [.Subscript (.Name n p1) b p2] e X.env = pure none := by rfl) (h1 : (assignEach [.Subscript (.Name n p1) b p2] X.env).map (·.2) = [assign (.Subscript (.Name n p1) b p2) X.env] := by rfl) :
    BS X Γ (.Assign [.Subscript (.Name n p1) b p2] e pos :: rest) (me.bind fun y => mb.bind fun z => (pSetI x z y).bind k) gN gL gR vR :=
  (pss_cons (ps_asg he (pg_sub (own_var L i j hN hW) hb set_list ha) hs hw h1) (PSs.ex hr)).weak fun Dd σ H ⟨F, O, c, at_, e, q⟩ => by
    obtain ⟨y, e1, e⟩ := bind_some' e
    obtain ⟨z, e2, e⟩ := bind_some' e
    obtain ⟨w, e3, e⟩ := bind_some' e
    obtain ⟨p, vs, xs, h1, h2, h3, h4, h5, h6, h7, h8, h9, h10⟩ := at_.own hΓ
    refine ⟨F, O, y, at_, e1, fun v F1 H1 g1 r1 => ⟨_, h1, F1, O, z, at_.grow g1, e2, fun u F2 H2 g2 r2 => ?_⟩⟩
    obtain ⟨vs', xs', h3', h4', h5', h6', h9'⟩ := at_.own_grow (g1.trans g2) hΓ h1
    subst h3'
    cases r2 with
    | int kx =>
      simp only [pSetI, id] at e3
      obtain ⟨jx, hj, hw⟩ := Option.map_eq_some_iff.mp e3
      subst hw
      rw [← h6'.length] at hj
      exact ⟨p, vs', kx, jx, rfl, rfl, h4', hj, _, le_rest (g1.f.trans g2.f) (h9' _ _ (h6'.set jx (r1.mono g2.f)) (by simpa using h5')) e q⟩
    | _ => simp [pSetI] at e3
end
end Z
namespace Z
open PySem PySem.Spec L2

/-! ## expressions that turn what is owned: S tells what the slots hold by the state t -/
def tXe {T : Type} (K : PySem.W.Frag) (S : T → List Ent) (t : T) (m : Option (D × T)) : TE := fun σ H Q => ∃ F O r, At K F O σ H (S t) ∧ m = some r ∧ ∀ v F' H', Le F F' → At K F' O σ H' (S r.2) → Rep K F' v r.1 → Q v H'
abbrev EXe {T : Type} (X : Cx) (S : T → List Ent) (t : T) (e : Expr) (m : Option (D × T)) : Prop := PE X e (tXe X.K S t m)
def tTXe {T : Type} (K : PySem.W.Frag) (S : T → List Ent) (t : T) (m : Option (Bool × T)) : TT := fun σ H Q => ∃ F O r, At K F O σ H (S t) ∧ m = some r ∧ ∀ F' H', Le F F' → At K F' O σ H' (S r.2) → Q r.1 H'
abbrev TXe {T : Type} (X : Cx) (S : T → List Ent) (t : T) (e : Expr) (m : Option (Bool × T)) : Prop := PT X e (tTXe X.K S t m)
abbrev WXe {T : Type} (X : Cx) (S : T → List Ent) (t : T) (e : Expr) (m : Option (Bool × T)) : Prop := PW X e (tTXe X.K S t m)
def tAXe {A T : Type} (K : PySem.W.Frag) (S : T → List Ent) (t : T) (n : Nat) (k : List D → T → Option A) (m : Option A) : TA := fun σ H Q => ∃ F O r, At K F O σ H (S t) ∧ m = some r ∧ ∀ vs xs t' F' H', Le F F' → At K F' O σ H' (S t') → Reps K F' vs xs → xs.length = n → k xs t' = some r → Q vs H'
abbrev AXe {A T : Type} (X : Cx) (S : T → List Ent) (t : T) (es : List Expr) (k : List D → T → Option A) (m : Option A) : Prop := PA X es (tAXe X.K S t es.length k m)

theorem RS2.le {K : PySem.W.Frag} {r : R2} {g : D → D → Option D} (h : RS2 K r g) {F O H : Hp} {σ : L2.St} {Γ : List Ent} {v u : V} {x y z : D} {Q : VK} (a : At K F O σ H Γ) (rx : Rep K F v x) (ry : Rep K F u y) (e : g x y = some z)
    (q : ∀ w F' H', Le F F' → At K F' O σ H' Γ → Rep K F' w z → Q w H') : r v u H Q := h F H v u x y z Q a.sub rx ry e fun w F' H' g' r' => q w F' H' g'.f (a.grow g') r'

section
variable {X : Cx} {E : ME} {kk k : Nat} {N W G Sl : List Str} {sc : Scope} {Γ : List Ent} {a b c e : Expr} {es : List Expr} {x y : D} {pos p p1 p2 : Pos} {rest ss : List Stmt}
variable {T : Type} {S : T → List Ent} {t : T} {ma : Option (D × T)} {mb : D × T → Option (D × T)} {me : Option D}
theorem exe_pure (h : EX X (S t) e me) : EXe X S t e (me.map fun x => (x, t)) := PE.weak h fun σ H Q ⟨F, O, r, at_, e, q⟩ => by
  obtain ⟨x, e1, e2⟩ := Option.map_eq_some_iff.mp e
  subst e2
  exact ⟨F, O, x, at_, e1, fun v F' H' g r => q v F' H' g.f (at_.grow g) r⟩
theorem exe_atom (h : EX X (S t) e (some x)) : EXe X S t e (some (x, t)) := exe_pure h
theorem txe_pure {m : Option Bool} (h : TX X (S t) e m) : TXe X S t e (m.map fun x => (x, t)) := PT.weak h fun σ H Q ⟨F, O, r, at_, e, q⟩ => by
  obtain ⟨x, e1, e2⟩ := Option.map_eq_some_iff.mp e
  subst e2
  exact ⟨F, O, x, at_, e1, fun F' H' g => q F' H' g.f (at_.grow g)⟩
/-! two places -/
theorem exe_op {op : Operator} {r : R2} {g : D → D → Option D} (ho : OpR X (binaryOp op) r) (hr : RS2 X.K r g) (ha : EXe X S t a ma) (hb : ∀ r, EXe X S r.2 b (mb r)) : EXe X S t (.BinOp a op b pos) (ma.bind fun r => (mb r).bind fun q => (g r.1 q.1).map fun z => (z, q.2)) := by
  have hB : PE X b (fun σ H Q => ∃ r, tXe X.K S r.2 (mb r) σ H Q) := ⟨fun p s σ H Q I ⟨r, q⟩ => (hb r).run p s σ H Q I q⟩
  refine (pe_op ho ha hB).weak fun σ H Q ⟨F, O, z, at_, e, q⟩ => ?_
  obtain ⟨r1, e1, e⟩ := bind_some' e
  obtain ⟨r2, e2, e⟩ := bind_some' e
  obtain ⟨z', e3, e4⟩ := Option.map_eq_some_iff.mp e
  subst e4
  exact ⟨F, O, r1, at_, e1, fun v F1 H1 f1 a1 q1 => ⟨r1, F1, O, r2, a1, e2, fun u F2 H2 f2 a2 q2 => hr.le a2 (q1.mono f2) q2 e3 fun w F3 H3 f3 a3 q3 => q w F3 H3 ((f1.trans f2).trans f3) a3 q3⟩⟩
theorem exe_cmp {op : CmpOp} {r : R2} {g : D → D → Option D} (ho : OpR X (compareOp op) r) (hr : RS2 X.K r g) (ha : EXe X S t a ma) (hb : ∀ r, EXe X S r.2 b (mb r)) (hm : behindInMarks op b = false) : EXe X S t (.Compare a [op] [b] pos) (ma.bind fun r => (mb r).bind fun q => (g r.1 q.1).map fun z => (z, q.2)) := by
  have hB : PE X b (fun σ H Q => ∃ r, tXe X.K S r.2 (mb r) σ H Q) := ⟨fun p s σ H Q I ⟨r, q⟩ => (hb r).run p s σ H Q I q⟩
  refine (pe_cmpR ho ha hB hm).weak fun σ H Q ⟨F, O, z, at_, e, q⟩ => ?_
  obtain ⟨r1, e1, e⟩ := bind_some' e
  obtain ⟨r2, e2, e⟩ := bind_some' e
  obtain ⟨z', e3, e4⟩ := Option.map_eq_some_iff.mp e
  subst e4
  exact ⟨F, O, r1, at_, e1, fun v F1 H1 f1 a1 q1 => ⟨r1, F1, O, r2, a1, e2, fun u F2 H2 f2 a2 q2 => hr.le a2 (q1.mono f2) q2 e3 fun w F3 H3 f3 a3 q3 => q w F3 H3 ((f1.trans f2).trans f3) a3 q3⟩⟩
theorem txe_cmp {op : CmpOp} {r : R2} {g : D → D → Option D} (ho : OpR X (compareOp op) r) (hr : RS2 X.K r g) (ha : EXe X S t a ma) (hb : ∀ r, EXe X S r.2 b (mb r)) (hm : behindInMarks op b = false) :
    TXe X S t (.Compare a [op] [b] pos) (ma.bind fun r => (mb r).bind fun q => ((g r.1 q.1).bind dBool).map fun z => (z, q.2)) := by
  have hB : PE X b (fun σ H Q => ∃ r, tXe X.K S r.2 (mb r) σ H Q) := ⟨fun p s σ H Q I ⟨r, q⟩ => (hb r).run p s σ H Q I q⟩
  refine (pt_cmpR ho ha hB hm).weak fun σ H Q ⟨F, O, z, at_, e, q⟩ => ?_
  obtain ⟨r1, e1, e⟩ := bind_some' e
  obtain ⟨r2, e2, e⟩ := bind_some' e
  obtain ⟨k, e3, e4⟩ := Option.map_eq_some_iff.mp e
  subst e4
  obtain ⟨z, e5, e6⟩ := bind_some' e3
  have ez : z = .bool k := by cases z <;> simp [dBool] at e6; rw [e6]
  subst ez
  exact ⟨F, O, r1, at_, e1, fun v F1 H1 f1 a1 q1 => ⟨r1, F1, O, r2, a1, e2, fun u F2 H2 f2 a2 q2 => hr.le a2 (q1.mono f2) q2 e5 fun w F3 H3 f3 a3 q3 => by
    cases q3
    exact ⟨k, rfl, q F3 H3 ((f1.trans f2).trans f3) a3⟩⟩⟩
theorem exe_ix (ha : EXe X S t a ma) (hb : ∀ r, EXe X S r.2 b (mb r)) (hs : PlainIx b) : EXe X S t (.Subscript a b pos) (ma.bind fun r => (mb r).bind fun q => (pIdx r.1 q.1).map fun z => (z, q.2)) := by
  have hB : PE X b (fun σ H Q => ∃ r, tXe X.K S r.2 (mb r) σ H Q) := ⟨fun p s σ H Q I ⟨r, q⟩ => (hb r).run p s σ H Q I q⟩
  refine (pe_ix ix_all ha hB hs).weak fun σ H Q ⟨F, O, z, at_, e, q⟩ => ?_
  obtain ⟨r1, e1, e⟩ := bind_some' e
  obtain ⟨r2, e2, e⟩ := bind_some' e
  obtain ⟨z', e3, e4⟩ := Option.map_eq_some_iff.mp e
  subst e4
  exact ⟨F, O, r1, at_, e1, fun v F1 H1 f1 a1 q1 => ⟨r1, F1, O, r2, a1, e2, fun u F2 H2 f2 a2 q2 => rs_ix.le a2 (q1.mono f2) q2 e3 fun w F3 H3 f3 a3 q3 => q w F3 H3 ((f1.trans f2).trans f3) a3 q3⟩⟩
/-! a if c else b; and, or, not as tests -/
theorem exe_if {mc : Option (Bool × T)} {m1 m2 : T → Option (D × T)} (hc : TXe X S t c mc) (ha : ∀ t, EXe X S t a (m1 t)) (hb : ∀ t, EXe X S t b (m2 t)) : EXe X S t (.IfExp c a b pos) (mc.bind fun r => if r.1 = true then m1 r.2 else m2 r.2) := by
  have hA : PE X a (fun σ H Q => ∃ t, tXe X.K S t (m1 t) σ H Q) := ⟨fun p s σ H Q I ⟨r, q⟩ => (ha r).run p s σ H Q I q⟩
  have hB : PE X b (fun σ H Q => ∃ t, tXe X.K S t (m2 t) σ H Q) := ⟨fun p s σ H Q I ⟨r, q⟩ => (hb r).run p s σ H Q I q⟩
  refine (pe_ifExp hc hA hB).weak fun σ H Q ⟨F, O, z, at_, e, q⟩ => ?_
  obtain ⟨r1, e1, e⟩ := bind_some' e
  refine ⟨F, O, r1, at_, e1, fun F1 H1 f1 a1 => ?_⟩
  cases hk : r1.1 with
  | true => rw [hk] at e; exact ⟨r1.2, F1, O, z, a1, e, fun v F2 H2 f2 a2 q2 => q v F2 H2 (f1.trans f2) a2 q2⟩
  | false => rw [hk] at e; exact ⟨r1.2, F1, O, z, a1, e, fun v F2 H2 f2 a2 q2 => q v F2 H2 (f1.trans f2) a2 q2⟩
theorem txe_not {mc : Option (Bool × T)} (h : TXe X S t a mc) : TXe X S t (.UnaryOp .Not a pos) (mc.map fun r => (!r.1, r.2)) := (pt_not h).weak fun σ H Q ⟨F, O, r, at_, e, q⟩ => by
  obtain ⟨x, e1, e2⟩ := Option.map_eq_some_iff.mp e
  subst e2
  exact ⟨F, O, x, at_, e1, fun F' H' f a => q F' H' f a⟩
theorem wxe_and1 {mc : Option (Bool × T)} (h : TXe X S t a mc) : WXe X S t (.BoolOp .And [a] pos) mc := pw_and1 h
theorem wxe_or1 {mc : Option (Bool × T)} (h : TXe X S t a mc) : WXe X S t (.BoolOp .Or [a] pos) mc := pw_or1 h
theorem wxe_and {rest : List Expr} {mc : Option (Bool × T)} {md : T → Option (Bool × T)} (ha : TXe X S t a mc) (hb : ∀ t, WXe X S t (.BoolOp .And (b :: rest) pos) (md t)) : WXe X S t (.BoolOp .And (a :: b :: rest) pos) (mc.bind fun r => if r.1 = true then md r.2 else some (false, r.2)) := by
  have hB : PW X (.BoolOp .And (b :: rest) pos) (fun σ H Q => ∃ t, tTXe X.K S t (md t) σ H Q) := ⟨fun w p s σ H Q I ⟨r, q⟩ => (hb r).run w p s σ H Q I q⟩
  refine (pw_and ha hB).weak fun σ H Q ⟨F, O, z, at_, e, q⟩ => ?_
  obtain ⟨r1, e1, e⟩ := bind_some' e
  refine ⟨F, O, r1, at_, e1, fun F1 H1 f1 a1 => ?_⟩
  cases hk : r1.1 with
  | true => rw [hk] at e; exact ⟨r1.2, F1, O, z, a1, e, fun F2 H2 f2 a2 => q F2 H2 (f1.trans f2) a2⟩
  | false => rw [hk] at e; cases e; exact q F1 H1 f1 a1
theorem wxe_or {rest : List Expr} {mc : Option (Bool × T)} {md : T → Option (Bool × T)} (ha : TXe X S t a mc) (hb : ∀ t, WXe X S t (.BoolOp .Or (b :: rest) pos) (md t)) : WXe X S t (.BoolOp .Or (a :: b :: rest) pos) (mc.bind fun r => if r.1 = true then some (true, r.2) else md r.2) := by
  have hB : PW X (.BoolOp .Or (b :: rest) pos) (fun σ H Q => ∃ t, tTXe X.K S t (md t) σ H Q) := ⟨fun w p s σ H Q I ⟨r, q⟩ => (hb r).run w p s σ H Q I q⟩
  refine (pw_or ha hB).weak fun σ H Q ⟨F, O, z, at_, e, q⟩ => ?_
  obtain ⟨r1, e1, e⟩ := bind_some' e
  refine ⟨F, O, r1, at_, e1, fun F1 H1 f1 a1 => ?_⟩
  cases hk : r1.1 with
  | true => rw [hk] at e; cases e; exact q F1 H1 f1 a1
  | false => rw [hk] at e; exact ⟨r1.2, F1, O, z, a1, e, fun F2 H2 f2 a2 => q F2 H2 (f1.trans f2) a2⟩
theorem txe_w {mc : Option (Bool × T)} (h : WXe X S t a mc) : TXe X S t a mc := PW.pt h
theorem txe_val (ha : EXe X S t a ma) (he : ∀ whole, isTrue a X.env whole = (do let v ← whole; standAt a.pos; holding [v] (truthy v))) : TXe X S t a (ma.bind fun r => (pTru r.1).map fun b => (b, r.2)) :=
  (pt_truth ha he).weak fun σ H Q ⟨F, O, k, at_, e, q⟩ => by
    obtain ⟨x, e1, e⟩ := bind_some' e
    obtain ⟨b, e2, e3⟩ := Option.map_eq_some_iff.mp e
    subst e3
    exact ⟨F, O, x, at_, e1, fun v F1 H1 f1 a1 r1 => ⟨b, tru_v a1.sub r1 e2, q F1 H1 f1 a1⟩⟩
/-! arguments -/
variable {A : Type}
theorem axe_nil {k : List D → T → Option A} : AXe X S t [] k (k [] t) := pa_nil.weak fun σ H Q ⟨F, O, r, at_, e, q⟩ => q [] [] t F H (Le.refl F) at_ .nil rfl e
theorem axe_cons {k : List D → T → Option A} {mr : D × T → Option A} (ha : EXe X S t a ma) (hr : ∀ r, AXe X S r.2 es (fun xs t' => k (r.1 :: xs) t') (mr r)) (hs : starEach (a :: es) X.env = (false, eval a X.env) :: starEach es X.env := by rfl) : AXe X S t (a :: es) k (ma.bind mr) := by
  have hB : PA X es (fun σ H Q => ∃ r, tAXe X.K S r.2 es.length (fun xs t' => k (r.1 :: xs) t') (mr r) σ H Q) := ⟨fun ps p s σ H Q I ⟨r, q⟩ => (hr r).run ps p s σ H Q I q⟩
  refine (pa_cons ha hB hs).weak fun σ H Q ⟨F, O, z, at_, e, q⟩ => ?_
  obtain ⟨r1, e1, e⟩ := bind_some' e
  exact ⟨F, O, r1, at_, e1, fun v F1 H1 f1 a1 q1 => ⟨r1, F1, O, z, a1, e, fun vs xs t' F2 H2 f2 a2 r2 el ek => q (v :: vs) (r1.1 :: xs) t' F2 H2 (f1.trans f2) a2 (.cons (q1.mono f2) r2) (congrArg (· + 1) el) ek⟩⟩
theorem axe_consA {k : List D → T → Option A} {m : Option A} (ha : EX X (S t) a (some x)) (hr : AXe X S t es (fun xs t' => k (x :: xs) t') m) (hs : starEach (a :: es) X.env = (false, eval a X.env) :: starEach es X.env := by rfl) : AXe X S t (a :: es) k m :=
  (pa_cons ha hr hs).weak fun σ H Q ⟨F, O, z, at_, e, q⟩ => ⟨F, O, x, at_, rfl, fun v F1 H1 g1 r1 => ⟨F1, O, z, at_.grow g1, e, fun vs xs t' F2 H2 f2 a2 r2 el ek => q (v :: vs) (x :: xs) t' F2 H2 (g1.f.trans f2) a2 (.cons (r1.mono f2) r2) (congrArg (· + 1) el) ek⟩⟩
theorem axe_consP {k : List D → T → Option A} {mr : D → Option A} (ha : EX X (S t) a me) (hr : ∀ x, AXe X S t es (fun xs t' => k (x :: xs) t') (mr x)) (hs : starEach (a :: es) X.env = (false, eval a X.env) :: starEach es X.env := by rfl) : AXe X S t (a :: es) k (me.bind mr) := by
  have hB : PA X es (fun σ H Q => ∃ x, tAXe X.K S t es.length (fun xs t' => k (x :: xs) t') (mr x) σ H Q) := ⟨fun ps p s σ H Q I ⟨r, q⟩ => (hr r).run ps p s σ H Q I q⟩
  refine (pa_cons ha hB hs).weak fun σ H Q ⟨F, O, z, at_, e, q⟩ => ?_
  obtain ⟨x, e1, e⟩ := bind_some' e
  exact ⟨F, O, x, at_, e1, fun v F1 H1 g1 r1 => ⟨x, F1, O, z, at_.grow g1, e, fun vs xs t' F2 H2 f2 a2 r2 el ek => q (v :: vs) (x :: xs) t' F2 H2 (g1.f.trans f2) a2 (.cons (r1.mono f2) r2) (congrArg (· + 1) el) ek⟩⟩
theorem exe_tup {m : Option (D × T)} {x1} (hz : es.length ≤ sizeLine) (h : AXe X S t es (fun xs t' => some (.tuple xs, t')) m) : EXe X S t (.Tuple es x1 pos) m :=
  (pe_tupF h).weak fun σ H Q ⟨F, O, z, at_, e, q⟩ => ⟨F, O, z, at_, e, fun vs xs t' F1 H1 f1 a1 r1 hl ek => by
    cases ek
    have hz2 : vs.length ≤ sizeLine := by rw [r1.length, hl]; exact hz
    refine ⟨hz2, fun o p ho hp => ?_⟩
    obtain ⟨g2, r2⟩ := grow_tup ho a1.sub hp hz2 r1
    exact q _ _ _ (f1.trans g2.f) (a1.grow g2) r2⟩
theorem exe_lst {m : Option (D × T)} (hz : es.length ≤ sizeLine) (h : AXe X S t es (fun xs t' => some (.list xs, t')) m) : EXe X S t (.List es pos) m :=
  (pe_lst h).weak fun σ H Q ⟨F, O, z, at_, e, q⟩ => ⟨F, O, z, at_, e, fun vs xs t' F1 H1 f1 a1 r1 hl ek => by
    cases ek
    have hz2 : vs.length ≤ sizeLine := by rw [r1.length, hl]; exact hz
    refine ⟨hz2, fun p hp => ?_⟩
    obtain ⟨g2, r2⟩ := grow_lst a1.sub hp hz2 r1
    exact q _ _ _ (f1.trans g2.f) (a1.grow g2) r2⟩
theorem exe_callB {r : List V → Hp → VK → Prop} {g : List D → Option D} {id : String} {m : Option (D × T)} (L : LX X E kk N W G Sl sc) (j : Nat) {n : Str} (hG : G[j]? = some n) (hm : Free E n) (hv : bootBuiltins n = some (.builtin id)) (hc : CallR X (.builtin id) r) (hr : RSn X.K r g) (ha : AXe X S t (a :: es) (fun xs t' => (g xs).map fun z => (z, t')) m)
    (he : starEach (a :: es) X.env = (false, eval a X.env) :: starEach es X.env := by rfl) (hpl : (backTo pos (starEach es X.env)).any (·.1) = false := by rfl) : EXe X S t (.Call (.Name n p) (a :: es) [] pos) m := by
  obtain ⟨h1, h2⟩ := L.gl (List.mem_of_getElem? hG)
  obtain ⟨d1, d2, d3⟩ := dund1 h2
  exact (pe_callB hc h1 (hm.at L) hv ha d3 d1 he hpl).weak fun σ H Q ⟨F, O, z, at_, e, q⟩ => ⟨F, O, z, at_, e, fun vs xs t' F1 H1 f1 a1 r1 _ ek => by
    obtain ⟨z', e3, e4⟩ := Option.map_eq_some_iff.mp ek
    subst e4
    exact hr F1 H1 vs xs z' Q a1.sub r1 e3 fun w F2 H2 g2 r2 => q w F2 H2 (f1.trans g2.f) (a1.grow g2) r2⟩
theorem exe_callT {r : List V → Hp → VK → Prop} {g : List D → Option D} {Ty : String} {m : Option (D × T)} (L : LX X E kk N W G Sl sc) (j : Nat) {n : Str} (hG : G[j]? = some n) (hm : Free E n) (hv : bootBuiltins n = some (.type Ty)) (hc : CallR X (.type Ty) r) (hr : RSn X.K r g) (ha : AXe X S t (a :: es) (fun xs t' => (g xs).map fun z => (z, t')) m)
    (he : starEach (a :: es) X.env = (false, eval a X.env) :: starEach es X.env := by rfl) (hpl : (backTo pos (starEach es X.env)).any (·.1) = false := by rfl) : EXe X S t (.Call (.Name n p) (a :: es) [] pos) m := by
  obtain ⟨h1, h2⟩ := L.gl (List.mem_of_getElem? hG)
  obtain ⟨d1, d2, d3⟩ := dund1 h2
  exact (pe_callTy hc h1 (hm.at L) hv ha d3 d1 he hpl).weak fun σ H Q ⟨F, O, z, at_, e, q⟩ => ⟨F, O, z, at_, e, fun vs xs t' F1 H1 f1 a1 r1 _ ek => by
    obtain ⟨z', e3, e4⟩ := Option.map_eq_some_iff.mp ek
    subst e4
    exact hr F1 H1 vs xs z' Q a1.sub r1 e3 fun w F2 H2 g2 r2 => q w F2 H2 (f1.trans g2.f) (a1.grow g2) r2⟩
/-- a def with frozen arguments -/
theorem exe_call {m : List D → Option D} {mr : Option (D × T)} (L : LX X E kk N W G Sl sc) (j : Nat) {n : Str} (hG : G[j]? = some n) (h : FnM E k n (CP m)) (hk : k ≤ kk) (ha : AXe X S t (a :: es) (fun xs t' => (m xs).map fun z => (z, t')) mr)
    (he : starEach (a :: es) X.env = (false, eval a X.env) :: starEach es X.env := by rfl) (hpl : (backTo pos (starEach es X.env)).any (·.1) = false := by rfl) : EXe X S t (.Call (.Name n p) (a :: es) [] pos) mr := by
  obtain ⟨h1, h2⟩ := L.gl (List.mem_of_getElem? hG)
  obtain ⟨d1, d2, d3⟩ := dund1 h2
  obtain ⟨E1, E2, E3, E4, E5⟩ := E
  obtain ⟨f, fd, ps, ok, hm, hki, hb⟩ := h
  have q1 := L.mx.prog; have q2 := L.mx.w; have q3 := L.mx.K; have q4 := L.mx.mg; have q5 := L.mx.base
  simp only at q1 q2 q3 q4 q5 ok hm hki hb
  subst q1 q2 q3 q4 q5
  refine (pe_call ok (L.rm.mono hk) h1 hm hki hb .nil pass0 ha d1 he hpl).weak fun σ H Q ⟨F, O, z, at_, e, q⟩ => ⟨F, O, z, at_, e, fun vs xs t' F1 H1 f1 a1 r1 _ ek => ?_⟩
  obtain ⟨z', e3, e4⟩ := Option.map_eq_some_iff.mp ek
  subst e4
  show spC X.K (CP m) (vs ++ []) H1 Q E0
  rw [List.append_nil]
  refine ⟨F1, restH F1 H1, xs.map .fz, z', xs.map fun _ => .no, at_args a1.sub r1, ⟨xs, rfl, e3, rfl⟩, fun v F' H' f a' r' => ?_⟩
  have g := grow_of_rest a1.sub f a'
  exact q v F' H' (f1.trans g.f) (a1.grow g) r'
end
/-! ## a def whose first parameter is owned -/
def CO1 (s : Sh) (m : D → List D → Option (D × D)) : Con := fun Γ0 r Γ1 => ∃ (v : V) (x : D) (xs : List D) (y : D), Γ0 = .ow s (some v) x :: xs.map .fz ∧ m x xs = some (r, y) ∧ Γ1 = .ow s (some v) y :: xs.map fun _ => .no
/-- all of H but F and some places -/
def restP (F H : Hp) (fp : List Addr) : Hp := fun a => if F a = none ∧ a ∉ fp then H a else none
section
variable {K : PySem.W.Frag} {F O H : Hp} {σ : L2.St} {Γ : List Ent} {i : Nat} {s : Sh} {ov : Option V} {x : D}
theorem At.pass1 (h : At K F O σ H Γ) (e : Γ[i]? = some (.ow s ov x)) {vs : List V} {xs : List D} (r : Reps K F vs xs) : ∃ v fp, σ[i]? = some (some v) ∧ At K F (restP F H fp) ((v :: vs).map some) H (.ow s (some v) x :: xs.map .fz) ∧
    ∀ F' H' y (Δ : List Ent), Le F F' → At K F' (restP F H fp) ((v :: vs).map some) H' (.ow s (some v) y :: Δ) → At K F' O σ H' (Γ.set i (.ow s ov y)) := by
  obtain ⟨fp, d, q⟩ := h.ents
  obtain ⟨v, h1, h2, t⟩ := q i _ e
  have hi : i < Γ.length := (List.getElem?_eq_some_iff.mp e).1
  have rle : Le (restP F H (fp i)) H := fun a o ha => by
    unfold restP at ha
    split at ha
    · exact ha
    · cases ha
  refine ⟨v, fp i, h1, ⟨h.sub, rle, fun a ha => ?_, ?_, fun j => if j = 0 then fp i else [], ⟨fun j => ?_, fun j a ha => ?_, fun j k a ha hb => ?_⟩, fun j e1 he => ?_⟩, fun F' H' y Δ lf a' => ?_⟩
  · unfold restP; rw [if_neg (fun z => ha z.1)]
  · simp [r.length]
  · by_cases hj : j = 0
    · simp only [hj, if_true]; exact d.nd i
    · simp only [hj, if_false]; exact List.nodup_nil
  · by_cases hj : j = 0
    · simp only [hj, if_true] at ha
      exact ⟨(d.f i a ha).1, by unfold restP; rw [if_neg (fun z => z.2 ha)]⟩
    · simp [hj] at ha
  · by_cases hj : j = 0
    · by_cases hk : k = 0
      · rw [hj, hk]
      · simp [hk] at hb
    · simp [hj] at ha
  · cases j with
    | zero =>
      simp at he
      subst he
      exact ⟨v, rfl, fun u hu => by cases hu; rfl, t⟩
    | succ j =>
      simp only [List.getElem?_cons_succ, List.getElem?_map] at he
      obtain ⟨x', q1, q2⟩ := Option.map_eq_some_iff.mp he
      subst q2
      obtain ⟨w, q3, q4⟩ := r.get q1
      exact ⟨w, by simp [q3], q4⟩
  · obtain ⟨fp', d', q'⟩ := a'.ents
    obtain ⟨w, z1, z2, t'⟩ := q' 0 _ rfl
    have ew := z2 v rfl
    subst ew
    -- what is neither frozen nor passed stays
    have keep : ∀ a, F a = none → a ∉ fp i → H a ≠ none → H' a = H a ∧ F' a = none ∧ a ∉ fp' 0 := fun a hF hn hh => by
      have ho : restP F H (fp i) a = H a := by unfold restP; rw [if_pos ⟨hF, hn⟩]
      refine ⟨?_, ?_, fun hm => ?_⟩
      · cases hq : H a with
        | none => exact absurd hq hh
        | some u => exact a'.out a u (by rw [ho]; exact hq)
      · cases hq : F' a with
        | none => rfl
        | some u =>
          have := a'.fo a (by rw [hq]; simp)
          rw [ho] at this
          exact absurd this hh
      · have := (d'.f 0 a hm).2
        rw [ho] at this
        exact hh this
    have keepO : ∀ a o, O a = some o → F a = none ∧ a ∉ fp i := fun a o ho => by
      refine ⟨?_, fun hm => ?_⟩
      · cases hq : F a with
        | none => rfl
        | some u =>
          have := h.fo a (by rw [hq]; simp)
          rw [ho] at this; cases this
      · have := (d.f i a hm).2
        rw [ho] at this; cases this
    refine ⟨a'.sub, fun a o ho => ?_, fun a ha => ?_, by simp [h.len], fun j => if j = i then fp' 0 else (match Γ[j]? with | some (.ow _ _ _) => fp j | _ => []), ⟨fun j => ?_, fun j a ha => ?_, fun j k a ha hb => ?_⟩, fun j e1 he => ?_⟩
    · obtain ⟨k1, k2⟩ := keepO a o ho
      have hH := h.out a o ho
      rw [(keep a k1 k2 (by rw [hH]; simp)).1]
      exact hH
    · cases hq : O a with
      | none => rfl
      | some o =>
        obtain ⟨k1, k2⟩ := keepO a o hq
        have hH := h.out a o hq
        exact absurd (keep a k1 k2 (by rw [hH]; simp)).2.1 ha
    · by_cases hj : j = i
      · simp only [hj, if_true]; exact d'.nd 0
      · simp only [hj, if_false]
        split
        · exact d.nd j
        · exact List.nodup_nil
    · by_cases hj : j = i
      · simp only [hj, if_true] at ha
        refine ⟨(d'.f 0 a ha).1, ?_⟩
        cases hq : O a with
        | none => rfl
        | some o =>
          obtain ⟨k1, k2⟩ := keepO a o hq
          have hH := h.out a o hq
          exact absurd ha (keep a k1 k2 (by rw [hH]; simp)).2.2
      · simp only [hj, if_false] at ha
        split at ha
        · rename_i s' w' x' hx
          obtain ⟨v2, y1, y2, t2⟩ := q j _ hx
          exact ⟨(keep a (d.f j a ha).1 (fun hm => hj (d.ap j i a ha hm)) (t2.there a ha)).2.1, (d.f j a ha).2⟩
        · cases ha
    · have key : ∀ j, j ≠ i → a ∈ (match Γ[j]? with | some (.ow _ _ _) => fp j | _ => []) → a ∈ fp j ∧ a ∉ fp' 0 := fun j hj ha => by
        split at ha
        · rename_i s' w' x' hx
          obtain ⟨v2, y1, y2, t2⟩ := q j _ hx
          exact ⟨ha, (keep a (d.f j a ha).1 (fun hm => hj (d.ap j i a ha hm)) (t2.there a ha)).2.2⟩
        · cases ha
      by_cases hj : j = i
      · by_cases hk : k = i
        · rw [hj, hk]
        · simp only [hj, if_true] at ha
          simp only [hk, if_false] at hb
          exact absurd ha (key k hk hb).2
      · simp only [hj, if_false] at ha
        by_cases hk : k = i
        · simp only [hk, if_true] at hb
          exact absurd hb (key j hj ha).2
        · simp only [hk, if_false] at hb
          exact d.ap j k a (key j hj ha).1 (key k hk hb).1
    · by_cases hj : j = i
      · subst hj
        rw [List.getElem?_set_self hi] at he
        cases he
        simp only [if_true]
        exact ⟨_, h1, h2, t'⟩
      · rw [List.getElem?_set_ne (Ne.symm hj)] at he
        simp only [hj, if_false]
        have qq := q j e1 he
        cases e1 with
        | no => trivial
        | fz y => obtain ⟨v2, y1, y2⟩ := qq; exact ⟨v2, y1, y2.mono lf⟩
        | sc ns => obtain ⟨v2, y1, y2⟩ := qq; exact ⟨v2, y1, le_l lf y2⟩
        | ow s' w' x' =>
          simp only [he]
          obtain ⟨v2, y1, y2, t2⟩ := qq
          exact ⟨v2, y1, y2, t2.frame lf fun a ha => (keep a (d.f j a ha).1 (fun hm => hj (d.ap j i a ha hm)) (t2.there a ha)).1⟩
end
section
variable {X : Cx} {E : ME} {kk k : Nat} {N W G Sl : List Str} {sc : Scope} {es : List Expr} {pos p pv : Pos} {T : Type} {S : T → List Ent} {t : T} {s : Sh}
/-- f(own, ..): get, put: the owned datum within the state -/
theorem exe_callO {m : D → List D → Option (D × D)} {mr : Option (D × T)} {ov : Option V} (L : LX X E kk N W G Sl sc) (j iv jv : Nat) {n nv : Str} (hG : G[j]? = some n) (hN : N[iv]? = some nv) (hW : W[jv]? = some nv) (h : FnM E k n (CO1 s m)) (hk : k ≤ kk) (get : T → D) (put : T → D → T)
    (hg : ∀ t, (S t)[iv]? = some (.ow s ov (get t))) (hp : ∀ t y, (S t).set iv (.ow s ov y) = S (put t y)) (ha : AXe X S t es (fun xs t' => (m (get t') xs).map fun q => (q.1, put t' q.2)) mr)
    (he : starEach (.Name nv pv :: es) X.env = (false, eval (.Name nv pv) X.env) :: starEach es X.env := by rfl) (hpl : (backTo pos (starEach es X.env)).any (·.1) = false := by rfl) : EXe X S t (.Call (.Name n p) (.Name nv pv :: es) [] pos) mr := by
  obtain ⟨h1, h2⟩ := L.gl (List.mem_of_getElem? hG)
  obtain ⟨d1, d2, d3⟩ := dund1 h2
  have hv := own_var (pos := pv) L iv jv hN hW
  obtain ⟨E1, E2, E3, E4, E5⟩ := E
  obtain ⟨f, fd, ps, ok, hm, hki, hb⟩ := h
  have q1 := L.mx.prog; have q2 := L.mx.w; have q3 := L.mx.K; have q4 := L.mx.mg; have q5 := L.mx.base
  simp only at q1 q2 q3 q4 q5 ok hm hki hb
  subst q1 q2 q3 q4 q5
  refine (pe_call ok (L.rm.mono hk) h1 hm hki hb .nil pass0 (pa_cons hv ha he) d1 he hpl).weak fun σ H Q ⟨F, O, z, at_, e, q⟩ => ?_
  obtain ⟨fp, d, qe⟩ := at_.ents
  obtain ⟨v0, hs0, _⟩ := qe iv _ (hg t)
  refine ⟨v0, hs0, F, O, z, at_, e, fun vs xs t' F1 H1 f1 a1 r1 _ ek => ?_⟩
  obtain ⟨qr, e3, e4⟩ := Option.map_eq_some_iff.mp ek
  subst e4
  obtain ⟨v, fp1, hs1, a2, back⟩ := a1.pass1 (hg t') r1
  rw [hs0] at hs1
  cases hs1
  show spC X.K (CO1 s m) (v0 :: vs ++ []) H1 Q E0
  rw [List.append_nil]
  refine ⟨F1, _, _, qr.1, _, a2, ⟨v0, _, xs, qr.2, rfl, e3, rfl⟩, fun v F' H' f a' r' => ?_⟩
  have a3 := back F' H' _ _ f a'
  rw [hp] at a3
  exact q v F' H' (f1.trans f) a3 r'
/-- .. where the state is the owned datum alone -/
theorem exe_callO1 {S : D → List Ent} {t : D} {m : D → List D → Option (D × D)} {mr : Option (D × D)} {ov : Option V} (L : LX X E kk N W G Sl sc) (j iv jv : Nat) {n nv : Str} (hG : G[j]? = some n) (hN : N[iv]? = some nv) (hW : W[jv]? = some nv) (h : FnM E k n (CO1 s m)) (hk : k ≤ kk)
    (hg : ∀ t, (S t)[iv]? = some (.ow s ov t)) (hp : ∀ t y, (S t).set iv (.ow s ov y) = S y) (ha : AXe X S t es (fun xs t' => m t' xs) mr)
    (he : starEach (.Name nv pv :: es) X.env = (false, eval (.Name nv pv) X.env) :: starEach es X.env := by rfl) (hpl : (backTo pos (starEach es X.env)).any (·.1) = false := by rfl) : EXe X S t (.Call (.Name n p) (.Name nv pv :: es) [] pos) mr :=
  exe_callO L j iv jv hG hN hW h hk id (fun _ y => y) hg hp (PA.weak ha fun σ H Q ⟨F, O, r, a, e, q⟩ => ⟨F, O, r, a, e, fun vs xs t' F' H' f a' r' el ek => q vs xs t' F' H' f a' r' el (by show (m t' xs).map (fun q => (q.1, q.2)) = some r; rw [show m t' xs = some r from ek]; rfl)⟩) he hpl
end
end Z
namespace Z
open PySem PySem.Spec L2

/-! ## a place kept from all -/
section
variable {K : PySem.W.Frag} {F O H : Hp} {σ : L2.St} {Γ : List Ent} {p : Addr}
theorem At.protect (h : At K F O σ H Γ) (hp : H p = none) (o : HO) : At K F (upd O p o) σ (upd H p o) Γ := by
  obtain ⟨fp, d, q⟩ := h.ents
  have fF : F p = none := h.sub.none hp
  refine ⟨fun a u ha => by rw [upd_ne (ne_of_none ha fF)]; exact h.sub a u ha, fun a u ha => ?_, fun a ha => ?_, h.len, fun j => (match Γ[j]? with | some (.ow _ _ _) => fp j | _ => []), ⟨fun j => ?_, fun j a ha => ?_, fun j k a ha hb => ?_⟩, fun j e1 he => ?_⟩
  · by_cases ea : a = p
    · subst ea; rw [upd_same] at ha ⊢; exact ha
    · rw [upd_ne ea] at ha ⊢; exact h.out a u ha
  · by_cases ea : a = p
    · subst ea; exact absurd fF ha
    · rw [upd_ne ea]; exact h.fo a ha
  · split
    · exact d.nd j
    · exact List.nodup_nil
  · split at ha
    · rename_i s w x hx
      obtain ⟨v, q1, q2, t⟩ := q j _ hx
      refine ⟨(d.f j a ha).1, ?_⟩
      rw [upd_ne (fun ea => by subst ea; exact t.there a ha hp)]
      exact (d.f j a ha).2
    · cases ha
  · split at ha
    · split at hb
      · exact d.ap j k a ha hb
      · cases hb
    · cases ha
  · have qq := q j e1 he
    cases e1 with
    | no => trivial
    | fz x => exact qq
    | sc ns => exact qq
    | ow s w x =>
      simp only [he]
      exact qq.frame (Le.refl F) fun a ha => upd_ne fun ea => by
        obtain ⟨v, q1, q2, t⟩ := qq
        subst ea
        exact t.there a ha hp
theorem At.reO {o o' : HO} (h : At K F (upd O p o) σ H Γ) : At K F (upd O p o') σ (upd H p o') Γ := by
  obtain ⟨fp, d, q⟩ := h.ents
  have fF : F p = none := by
    cases hq : F p with
    | none => rfl
    | some u => have := h.fo p (by rw [hq]; simp); rw [upd_same] at this; cases this
  have hO : ∀ a, upd O p o a = none → upd O p o' a = none := fun a ha => by
    by_cases ea : a = p
    · subst ea; rw [upd_same] at ha; cases ha
    · rw [upd_ne ea] at ha ⊢; exact ha
  refine ⟨fun a u ha => by rw [upd_ne (ne_of_none ha fF)]; exact h.sub a u ha, fun a u ha => ?_, fun a ha => hO a (h.fo a ha), h.len, fp, ⟨d.nd, fun j a ha => ⟨(d.f j a ha).1, hO a (d.f j a ha).2⟩, d.ap⟩, fun j e1 he => ?_⟩
  · by_cases ea : a = p
    · subst ea; rw [upd_same] at ha ⊢; exact ha
    · rw [upd_ne ea] at ha ⊢; exact h.out a u (by rw [upd_ne ea]; exact ha)
  · exact (q j e1 he).frame (Le.refl F) fun a ha => upd_ne fun ea => by
      subst ea
      have := (d.f j a ha).2
      rw [upd_same] at this; cases this
theorem At.prot_get {o : HO} (h : At K F (upd O p o) σ H Γ) : H p = some o ∧ F p = none := by
  refine ⟨h.out p o upd_same, ?_⟩
  cases hq : F p with
  | none => rfl
  | some u => have := h.fo p (by rw [hq]; simp); rw [upd_same] at this; cases this
theorem At.unprotect {o : HO} (h : At K F (upd O p o) σ H Γ) (hO : O p = none) : At K (upd F p o) O σ H Γ := by
  obtain ⟨fp, d, q⟩ := h.ents
  obtain ⟨hp, fF⟩ := h.prot_get
  have hO2 : ∀ a, upd O p o a = none → O a = none := fun a ha => by
    by_cases ea : a = p
    · subst ea; exact hO
    · rw [upd_ne ea] at ha; exact ha
  refine ⟨fun a u ha => ?_, fun a u ha => ?_, fun a ha => ?_, h.len, fp, ⟨d.nd, fun j a ha => ?_, d.ap⟩, fun j e1 he => (q j e1 he).frame (Le.new fF) fun a _ => rfl⟩
  · by_cases ea : a = p
    · subst ea; rw [upd_same] at ha; cases ha; exact hp
    · rw [upd_ne ea] at ha; exact h.sub a u ha
  · refine h.out a u ?_
    rw [upd_ne (ne_of_none ha hO)]; exact ha
  · by_cases ea : a = p
    · subst ea; exact hO
    · rw [upd_ne ea] at ha; exact hO2 a (h.fo a ha)
  · have ea : a ≠ p := fun ea => by
      subst ea
      have := (d.f j a ha).2
      rw [upd_same] at this; cases this
    exact ⟨by rw [upd_ne ea]; exact (d.f j a ha).1, hO2 a (d.f j a ha).2⟩
end

/-! ## comprehensions that turn what is owned -/
def lcGE {T : Type} (f : D → T → Option (Option D × T)) : List D → T → Option (List D × T)
  | [], t => some ([], t)
  | x :: r, t => (f x t).bind fun o => (lcGE f r o.2).map fun ys => match o.1 with
    | some y => (y :: ys.1, ys.2)
    | none => ys
def lcME {T : Type} (f : D → T → Option (D × T)) : List D → T → Option (List D × T)
  | [], t => some ([], t)
  | x :: r, t => (f x t).bind fun y => (lcME f r y.2).map fun ys => (y.1 :: ys.1, ys.2)
def lcIE {T : Type} (c : D → T → Option (Bool × T)) (f : D → T → Option (D × T)) : List D → T → Option (List D × T)
  | [], t => some ([], t)
  | x :: r, t => (c x t).bind fun b => if b.1 = true then (f x b.2).bind fun y => (lcIE c f r y.2).map fun ys => (y.1 :: ys.1, ys.2) else lcIE c f r b.2
def stepE {T : Type} (c : D → T → Option (Bool × T)) (f : D → T → Option (D × T)) (x : D) (t : T) : Option (Option D × T) := (c x t).bind fun b => if b.1 = true then (f x b.2).map fun y => (some y.1, y.2) else some (none, b.2)
theorem lcME_G {T : Type} (f : D → T → Option (D × T)) : ∀ xs t, lcME f xs t = lcGE (stepE (fun _ t => some (true, t)) f) xs t
  | [], _ => rfl
  | x :: r, t => by
    unfold lcME lcGE
    have ih := lcME_G f r
    unfold stepE at ih ⊢
    simp only [Option.bind_some, if_true]
    cases f x t with
    | none => rfl
    | some y => simp only [Option.bind_some, Option.map_some]; rw [ih]; rfl
theorem lcIE_G {T : Type} (c : D → T → Option (Bool × T)) (f : D → T → Option (D × T)) : ∀ xs t, lcIE c f xs t = lcGE (stepE c f) xs t
  | [], _ => rfl
  | x :: r, t => by
    unfold lcIE lcGE
    have ih := lcIE_G c f r
    unfold stepE at ih ⊢
    cases c x t with
    | none => rfl
    | some b =>
      simp only [Option.bind_some]
      cases hb : b.1 with
      | true =>
        simp only [if_true]
        cases f x b.2 with
        | none => rfl
        | some y => simp only [Option.bind_some, Option.map_some]; rw [ih]
      | false =>
        simp only [Bool.false_eq_true, if_false, Option.bind_some]
        rw [ih]
        cases lcGE _ r b.2 <;> rfl

def tXIe {T : Type} (K : PySem.W.Frag) (S : T → List Ent) (t : T) (m : Option (List D × T)) : TI := fun σ H R => ∃ F O r, At K F O σ H (S t) ∧ m = some r ∧ ∀ F' H' J, Le F F' → At K F' O σ H' (S r.2) → ItD K F' J r.1 → R J H'
abbrev XIe {T : Type} (X : Cx) (S : T → List Ent) (t : T) (tg e : Expr) (m : Option (List D × T)) : Prop := PI X tg e (tXIe X.K S t m)
section
variable {X : Cx} {E : ME} {kk k : Nat} {N W G Sl : List Str} {sc scope : Scope} {Γ : List Ent} {a b c e tg elt : Expr} {es : List Expr} {x y : D} {pos p p1 p2 : Pos} {rest ss body : List Stmt}
variable {T : Type} {S : T → List Ent} {t : T} {me : Option (D × T)} {mi : Option (List D × T)}
variable {Nt L' R' : Type} {gN : Nt → List Ent} {gL : L' → List Ent} {gR : R' → List Ent} {vR : R' → D}
theorem xie_pure {m : Option (List D)} (h : XI X (S t) tg e m) : XIe X S t tg e (m.map fun x => (x, t)) := PI.weak h fun σ H R ⟨F, O, r, at_, e, q⟩ => by
  obtain ⟨x, e1, e2⟩ := Option.map_eq_some_iff.mp e
  subst e2
  exact ⟨F, O, x, at_, e1, fun F' H' J g it => q F' H' J g.f (at_.grow g) it⟩
theorem xie_rg1 (L : LX X E kk N W G Sl sc) (j : Nat) (hG : G[j]? = some ("range" : Str)) (hm : Free E "range") (ha : EXe X S t a me) (hs : starEach [a] X.env = [(false, eval a X.env)] := by rfl) : XIe X S t tg (.Call (.Name "range" p) [a] [] pos) (me.bind fun r => (pRg1 r.1).map fun x => (x, r.2)) :=
  (pi_range1 (L.gl (List.mem_of_getElem? hG)).1 (hm.at L) (pa_cons ha pa_nil hs) hs).weak fun σ H R ⟨F, O, xs, at_, e, q⟩ => by
    obtain ⟨⟨x, t1⟩, e1, e⟩ := bind_some' e
    obtain ⟨xs', e2, e3⟩ := Option.map_eq_some_iff.mp e
    subst e3
    cases x <;> simp only [pRg1, reduceCtorEq] at e2
    split at e2
    · rename_i hz
      cases e2
      have hz2 := of_decide_eq_true hz.2
      have hz := of_decide_eq_true hz.1
      refine ⟨F, O, _, at_, e1, fun v F1 H1 f1 a1 r1 => ?_⟩
      cases r1
      exact ⟨_, rfl, hz.1, hz.2, q F1 H1 _ f1 a1 (itd_range hz2)⟩
    · cases e2
theorem xie_val (he : EXe X S t e me) : XIe X S t tg e (me.bind fun r => (pIter r.1).map fun x => (x, r.2)) := (((pi_list he).or (pi_tup he)).or (pi_str he)).weak fun σ H R ⟨F, O, xs, at_, e, q⟩ => by
  obtain ⟨⟨x, t1⟩, e1, e⟩ := bind_some' e
  obtain ⟨xs', e2, e3⟩ := Option.map_eq_some_iff.mp e
  subst e3
  cases x with
  | list ds =>
    cases e2
    refine .inl (.inl ⟨F, O, _, at_, e1, fun v F1 H1 f1 a1 r1 => ?_⟩)
    cases r1 with
    | lst h r => exact ⟨_, rfl, ⟨_, .of (a1.sub _ _ h.1)⟩, q F1 H1 _ f1 a1 (itd_list h r)⟩
  | tuple ds =>
    cases e2
    refine .inl (.inr ⟨F, O, _, at_, e1, fun v F1 H1 f1 a1 r1 => ?_⟩)
    cases r1 with
    | tup h r => exact ⟨_, rfl, ⟨_, le_t a1.sub h.1.sq⟩, q F1 H1 _ f1 a1 (itd_tup h r)⟩
  | str z =>
    simp only [pIter] at e2
    split at e2
    · rename_i hz
      cases e2
      refine .inr ⟨F, O, _, at_, e1, fun v F1 H1 f1 a1 r1 => ?_⟩
      cases r1
      exact ⟨z, rfl, q F1 H1 _ f1 a1 (itd_str z hz)⟩
    · cases e2
  | _ => cases e2

theorem exe_lcG (L : LX X E kk N W G Sl sc) {Wb Gb Sb : List Str} (i j : Nat) {n : Str} {p' : Pos} (hN : N[i]? = some n) (hT : Sb[j]? = some n) (ok : lcOk N Wb Gb Sb sc scope [(n, i)] = true) {ifs : List Expr} {cc : D → T → Option (Bool × T)} {mf : D → T → Option (D × T)}
    (hS : ∀ t, (S t).set i .no = S t)
    (hi : XIe X S t (.Name n p') e mi)
    (ht : ∀ X', LX X' E kk N Wb Gb Sb (relS scope sc) → ∀ x t, PTs X' ifs (tTXe X'.K (fun t => (S t).set i (.fz x)) t (cc x t)))
    (he : ∀ X', LX X' E kk N Wb Gb Sb (relS scope sc) → ∀ x t, EXe X' (fun t => (S t).set i (.fz x)) t elt (mf x t)) (hs : ∀ x, foldedSetIterable e X.env x = pure x := by intro _; rfl) :
    CE X (.ListComp elt [⟨.Name n p', e, ifs, 0⟩] scope pos) (tXe X.K S t (mi.bind fun r => (lcGE (stepE cc mf) r.1 r.2).map fun z => (.list z.1, z.2))) := by
  unfold lcOk at ok
  simp only [Bool.and_eq_true] at ok
  obtain ⟨⟨o1, o2⟩, o3⟩ := ok
  have o4 : BlkOk X.N X.env.scope scope [(n, i)] := by rw [L.n, L.scp]; exact blkOk_by o3
  have hG : ∀ (s : Shared) (H : Hp) (C : Addr) (cl : List (Str × Addr)) (fp : List Addr), PG (X.blk s H scope (compEnvC scope cl C X.env) fp) (.Name n p') (fun v σ H Q => ∃ t, tGY X.K (S t) [i] some (fun x => (S t).set i (.fz x)) v σ H Q) :=
    fun s H C cl fp => PG.ex fun t => gy_name (L.blk o1 o2) i j hN hT
  have hT' : ∀ (s : Shared) (H : Hp) (C : Addr) (cl : List (Str × Addr)) (fp : List Addr), PTs (X.blk s H scope (compEnvC scope cl C X.env) fp) ifs (fun σ H Q => ∃ q : D × T, tTXe X.K (fun t => (S t).set i (.fz q.1)) q.2 (cc q.1 q.2) σ H Q) :=
    fun s H C cl fp => ⟨fun p s' σ H' Q I ⟨a, q⟩ => (ht _ (L.blk o1 o2) a.1 a.2).run p s' σ H' Q I q⟩
  have hE : ∀ (s : Shared) (H : Hp) (C : Addr) (cl : List (Str × Addr)) (fp : List Addr), PE (X.blk s H scope (compEnvC scope cl C X.env) fp) elt (fun σ H Q => ∃ q : D × T, tXe X.K (fun t => (S t).set i (.fz q.1)) q.2 (mf q.1 q.2) σ H Q) :=
    fun s H C cl fp => ⟨fun p s' σ H' Q I ⟨a, q⟩ => (he _ (L.blk o1 o2) a.1 a.2).run p s' σ H' Q I q⟩
  refine (CE.mk (pe_lc L.calm L.nd hi o4 hG hT' hE hs) fun i y py spos a b c => ps_setLc L.calm L.nd a b c hi o4 hG hT' hE hs).weak fun σ H Q ⟨F, O, z, at_, e, q⟩ => ?_
  obtain ⟨⟨xs, t0⟩, e1, e⟩ := bind_some' e
  obtain ⟨⟨ys, tz⟩, e2, e3⟩ := Option.map_eq_some_iff.mp e
  subst e3
  refine ⟨F, O, (xs, t0), at_, e1, fun F1 H1 J f1 a1 it Da hD => ?_⟩
  have hOD : O Da = none := a1.out.none hD
  have ww : ∀ {F O H} {t}, At X.K F O σ H (S t) → At X.K F O (L2.wipe σ [i]) H (S t) := fun {F O H t} a => by
    have := a.wipe [i]
    show At X.K F O (L2.wipe σ [i]) H (S t)
    have e : wipeE (S t) [i] = S t := hS t
    rw [e] at this
    exact this
  refine ⟨fun i' mm H' => mm = xs.length - i' ∧ i' ≤ xs.length ∧ ∃ F' acc zs ws t', Le F1 F' ∧ At X.K F' (upd O Da (.lst acc)) σ H' (S t') ∧ acc.length ≤ i' ∧ Reps X.K F' acc zs ∧ lcGE (stepE cc mf) (xs.drop i') t' = some (ws, tz) ∧ zs ++ ws = ys,
    ⟨xs.length, by simp, Nat.zero_le _, F1, [], [], ys, t0, Le.refl _, a1.protect hD _, Nat.le_refl _, .nil, by simpa using e2, rfl⟩, ?_⟩
  rintro i' mm H' ⟨rfl, hi2, F', acc, zs, ws, t', lf, a', hl, r, ew, ey⟩
  by_cases hlt : i' < xs.length
  · refine .inr ⟨it.go i' F' H' lf a'.sub hlt, fun H2 => ∃ F2 acc2 zs2 ws2 t2, Le F1 F2 ∧ At X.K F2 (upd O Da (.lst acc2)) σ H2 (S t2) ∧ acc2.length ≤ i' + 1 ∧ Reps X.K F2 acc2 zs2 ∧ lcGE (stepE cc mf) (xs.drop (i' + 1)) t2 = some (ws2, tz) ∧ zs2 ++ ws2 = ys,
      fun H2 ⟨F2, acc2, zs2, ws2, t2, a⟩ => ⟨xs.length - (i' + 1), by omega, rfl, hlt, F2, acc2, zs2, ws2, t2, a⟩, fun v H2 hy => ?_⟩
    obtain ⟨F2, g2, r2⟩ := it.yld i' F' H' v H2 lf a'.sub hy _ (List.getElem?_eq_getElem hlt)
    rw [List.drop_eq_getElem_cons hlt] at ew
    unfold lcGE at ew
    obtain ⟨o, ef, ew⟩ := bind_some' ew
    obtain ⟨ws2, ew2, ew3⟩ := Option.map_eq_some_iff.mp ew
    unfold stepE at ef
    obtain ⟨bb, ec, ef⟩ := bind_some' ef
    have back : ∀ {F3 H3 : Hp} {σ2 : L2.St} {t3 : T}, L2.wipe σ2 [i] = L2.wipe (L2.wipe σ [i]) [i] → At X.K F3 (upd O Da (.lst acc)) σ2 H3 ((S t3).set i (.fz xs[i'])) → At X.K F3 (upd O Da (.lst acc)) σ H3 (S t3) := fun {F3 H3 σ2 t3} hw a3 => by
      have h1 := a3.wipe [i]
      have e1 : wipeE ((S t3).set i (.fz xs[i'])) [i] = S t3 := by
        show ((S t3).set i (.fz xs[i'])).set i .no = S t3
        rw [List.set_set, hS]
      rw [e1, hw] at h1
      obtain ⟨fp, d, qe⟩ := h1.ents
      refine ⟨h1.sub, h1.out, h1.fo, by rw [h1.len, wipe_length, wipe_length], fp, d, fun k x hx => ?_⟩
      have := qe k x hx
      by_cases hk : k = i
      · subst hk
        have : x = .no := by
          rw [← hS t3] at hx
          have hkl : k < (S t3).length := by
            have := (List.getElem?_eq_some_iff.mp hx).1
            simpa using this
          rw [List.getElem?_set_self hkl] at hx
          exact (Option.some.inj hx).symm
        subst this
        trivial
      · rw [wipe_get, wipe_get] at this
        simpa [hk] using this
    refine ⟨t', F2, _, xs[i'], xs[i'], ww (a'.grow g2), r2, rfl, fun σ2 at2 hw => ⟨by show L2.wipe σ2 [i] = L2.wipe σ [i]; rw [hw]; exact wipe_eq (wipe_length _ _) fun k hk => by rw [wipe_get]; simp at hk; simp [hk], (xs[i'], t'), F2, _, bb, at2, ec, fun F3 H3 f3 a3 => ?_⟩⟩
    obtain ⟨bk, tb⟩ := bb
    cases bk with
    | false =>
      simp only [Bool.false_eq_true, if_false, Option.some.injEq] at ef ⊢
      subst ef
      simp only at ew3 ew2
      subst ew3
      exact ⟨F3, acc, zs, _, tb, lf.trans (g2.f.trans f3), back hw a3, by omega, r.mono (g2.f.trans f3), ew2, ey⟩
    | true =>
      simp only [if_true] at ef ⊢
      obtain ⟨y, ey2, ef⟩ := Option.map_eq_some_iff.mp ef
      subst ef
      simp only at ew3 ew2
      obtain ⟨w1, w2⟩ := ws2
      cases ew3
      refine ⟨(xs[i'], tb), F3, _, y, a3, ey2, fun w F4 H4 f4 a4 r4 => ?_⟩
      obtain ⟨hDa, fDa⟩ := a4.prot_get
      have hs2 : xs.length ≤ sizeLine := it.len
      exact ⟨acc, hDa, by omega, F4, acc ++ [w], zs ++ [y.1], w1, y.2, lf.trans (g2.f.trans (f3.trans f4)), (back hw a4).reO, by simp; omega, (r.mono (g2.f.trans (f3.trans f4))).snoc r4, ew2, by rw [List.append_assoc]; exact ey⟩
  · have ei : i' = xs.length := by omega
    subst ei
    refine .inl ⟨it.stop F' H' lf a'.sub, ?_⟩
    rw [List.drop_length] at ew
    cases ew
    rw [List.append_nil] at ey
    subst ey
    obtain ⟨hDa, fDa⟩ := a'.prot_get
    exact q _ (upd F' Da (.lst acc)) H' (f1.trans (lf.trans (Le.new fDa))) (a'.unprotect hOD) (.lst ⟨upd_same, Nat.le_trans hl it.len⟩ (r.mono (Le.new fDa)))
theorem ptse_yes {X' : Cx} {S : T → List Ent} {t : T} : PTs X' [] (tTXe X'.K S t (some (true, t))) := ⟨fun p s σ H Q I ⟨F, O, b, at_, e, q⟩ => by cases e; exact pts_nil.run p s σ H Q I (q F H (Le.refl F) at_)⟩
theorem ptse_ifs {X' : Cx} {S : T → List Ent} {t : T} {c : Expr} {m : Option (Bool × T)} (h : TXe X' S t c m) : PTs X' [c] (tTXe X'.K S t m) := pts_one h
theorem exe_lc1 (L : LX X E kk N W G Sl sc) {Wb Gb Sb : List Str} (i j : Nat) {n : Str} {p' : Pos} (hN : N[i]? = some n) (hT : Sb[j]? = some n) (ok : lcOk N Wb Gb Sb sc scope [(n, i)] = true) {mf : D → T → Option (D × T)}
    (hS : ∀ t, (S t).set i .no = S t) (hi : XIe X S t (.Name n p') e mi)
    (he : ∀ X', LX X' E kk N Wb Gb Sb (relS scope sc) → ∀ x t, EXe X' (fun t => (S t).set i (.fz x)) t elt (mf x t)) (hs : ∀ x, foldedSetIterable e X.env x = pure x := by intro _; rfl) :
    CE X (.ListComp elt [⟨.Name n p', e, [], 0⟩] scope pos) (tXe X.K S t (mi.bind fun r => (lcME mf r.1 r.2).map fun z => (.list z.1, z.2))) := by
  have h := exe_lcG (cc := fun _ t => some (true, t)) (mf := mf) (pos := pos) L i j hN hT ok hS hi (fun X' L' x t => ptse_yes) he hs
  have e1 : lcME mf = lcGE (stepE (fun _ t => some (true, t)) mf) := by funext xs t; exact lcME_G mf xs t
  rw [e1]; exact h
theorem exe_lcI1 (L : LX X E kk N W G Sl sc) {Wb Gb Sb : List Str} (i j : Nat) {n : Str} {p' : Pos} (hN : N[i]? = some n) (hT : Sb[j]? = some n) (ok : lcOk N Wb Gb Sb sc scope [(n, i)] = true) {cc : D → T → Option (Bool × T)} {mf : D → T → Option (D × T)}
    (hS : ∀ t, (S t).set i .no = S t) (hi : XIe X S t (.Name n p') e mi)
    (ht : ∀ X', LX X' E kk N Wb Gb Sb (relS scope sc) → ∀ x t, TXe X' (fun t => (S t).set i (.fz x)) t c (cc x t))
    (he : ∀ X', LX X' E kk N Wb Gb Sb (relS scope sc) → ∀ x t, EXe X' (fun t => (S t).set i (.fz x)) t elt (mf x t)) (hs : ∀ x, foldedSetIterable e X.env x = pure x := by intro _; rfl) :
    CE X (.ListComp elt [⟨.Name n p', e, [c], 0⟩] scope pos) (tXe X.K S t (mi.bind fun r => (lcIE cc mf r.1 r.2).map fun z => (.list z.1, z.2))) := by
  have h := exe_lcG (cc := cc) (mf := mf) (pos := pos) L i j hN hT ok hS hi (fun X' L' x t => ptse_ifs (ht X' L' x t)) he hs
  have e1 : lcIE cc mf = lcGE (stepE cc mf) := by funext xs t; exact lcIE_G cc mf xs t
  rw [e1]; exact h

/-! ## statements with such expressions -/
theorem bs_setE (L : LX X E kk N W G Sl sc) (i j : Nat) {n : Str} {p' : Pos} {k : D × T → Option (Ctl Nt L' R')} (hN : N[i]? = some n) (hT : Sl[j]? = some n) (he : EXe X S t e me) (hr : ∀ r, BS X ((S r.2).set i (.fz r.1)) rest (k r) gN gL gR vR)
    (hs : swapsWith e (some (.Name n p')) pos.line X.env = pure false := by rfl) : BS X (S t) (.Assign [.Name n p'] e pos :: rest) (me.bind k) gN gL gR vR := by
  obtain ⟨h1, h2, h3⟩ := L.slot hN hT
  exact (pss_cons (ps_set L.nd h1 h2 he hs h3) (PSs.ex hr)).weak fun D σ H ⟨F, O, c, at_, e, q⟩ => by
    obtain ⟨r, e1, e⟩ := bind_some' e
    exact ⟨F, O, r, at_, e1, fun v F1 H1 f1 a1 r1 => ⟨r, le_rest f1 (a1.set r1) e q⟩⟩
/-- name = [..] -/
theorem bs_setC {mp : Option D} (L : LX X E kk N W G Sl sc) (i : Nat) {n : Str} {p' : Pos} {k : D → Option (Ctl Nt L' R')} (hN : N[i]? = some n) (hl : sc.names.lookup n = some .local) (he : CE X e (tX X.K Γ mp id)) (hr : ∀ x, BS X (Γ.set i (.fz x)) rest (k x) gN gL gR vR)
    (hs : swapsWith e (some (.Name n p')) pos.line X.env = pure true) : BS X Γ (.Assign [.Name n p'] e pos :: rest) (mp.bind k) gN gL gR vR :=
  (pss_cons (he.st i n p' pos (by rw [L.n]; exact hN) (by rw [L.scp]; exact hl) hs) (PSs.ex hr)).weak fun D σ H ⟨F, O, c, at_, e, q⟩ => by
    obtain ⟨x, e1, e⟩ := bind_some' e
    exact ⟨F, O, x, at_, e1, fun v F1 H1 g1 r1 => ⟨x, le_rest g1.f ((at_.grow g1).set r1) e q⟩⟩
theorem bs_setCE (L : LX X E kk N W G Sl sc) (i : Nat) {n : Str} {p' : Pos} {k : D × T → Option (Ctl Nt L' R')} (hN : N[i]? = some n) (hl : sc.names.lookup n = some .local) (he : CE X e (tXe X.K S t me)) (hr : ∀ r, BS X ((S r.2).set i (.fz r.1)) rest (k r) gN gL gR vR)
    (hs : swapsWith e (some (.Name n p')) pos.line X.env = pure true) : BS X (S t) (.Assign [.Name n p'] e pos :: rest) (me.bind k) gN gL gR vR :=
  (pss_cons (he.st i n p' pos (by rw [L.n]; exact hN) (by rw [L.scp]; exact hl) hs) (PSs.ex hr)).weak fun D σ H ⟨F, O, c, at_, e, q⟩ => by
    obtain ⟨r, e1, e⟩ := bind_some' e
    exact ⟨F, O, r, at_, e1, fun v F1 H1 f1 a1 r1 => ⟨r, le_rest f1 (a1.set r1) e q⟩⟩
/-- the way a comprehension is stored -/
def swC (sc scope : Scope) (y : Str) : Bool := (match sc.kind with | .function => true | _ => false) && (match sc.names.lookup y with | some .local => true | _ => false) && !(scope.names.any fun (n, k) => n == y && (k == .local || k == .cell))
theorem swT {elt : Expr} {gs : List Comprehension} {y : Str} {py : Pos} {l : Nat} (L : LX X E kk N W G Sl sc) (h : swC sc scope y = true) (hl : (py.line == pos.line) = true) : swapsWith (.ListComp elt gs scope pos) (some (.Name y py)) l X.env = pure true ∧ sc.names.lookup y = some .local := by
  unfold swC at h
  simp only [Bool.and_eq_true, Bool.not_eq_true'] at h
  obtain ⟨⟨h1, h2⟩, h3⟩ := h
  have k1 : sc.kind = .function := by revert h1; cases sc.kind <;> simp
  have k2 : sc.names.lookup y = some .local := by
    split at h2
    · assumption
    · cases h2
  exact ⟨sw_true (by rw [L.scp]; exact k1) (by rw [L.scp]; exact k2) hl h3, k2⟩
theorem swF {elt : Expr} {gs : List Comprehension} {y : Str} {py : Pos} {l : Nat} (L : LX X E kk N W G Sl sc) (h : swC sc scope y = false) (hk : (match sc.kind with | .function => true | _ => false) = true) : swapsWith (.ListComp elt gs scope pos) (some (.Name y py)) l X.env = pure false := by
  have k1 : X.env.scope.kind = .function := by rw [L.scp]; revert hk; cases sc.kind <;> simp
  have hb : X.env.blockKind = .function := by unfold Env.blockKind; rw [k1]; rfl
  have e : (X.env.kindOf y == some .local && !(scope.names.any fun (n, k) => n == y && (k == .local || k == .cell))) = false := by
    unfold swC at h
    rw [hk, Bool.true_and] at h
    have : (X.env.kindOf y == some .local) = (match sc.names.lookup y with | some .local => true | _ => false) := by
      unfold Env.kindOf
      rw [L.scp]
      cases sc.names.lookup y with
      | none => rfl
      | some k => cases k <;> rfl
    rw [this]
    exact h
  unfold swapsWith
  simp only [hb]
  show pure _ = pure false
  congr 1
  cases hq : (X.env.kindOf y == some NameKind.local)
  · simp
  · rw [hq, Bool.true_and] at e
    rw [e]
    simp
theorem bs_exprE {k : D × T → Option (Ctl Nt L' R')} (he : EXe X S t e me) (hr : ∀ r, BS X (S r.2) rest (k r) gN gL gR vR) (hs : swapsWith e none pos.line X.env = pure false := by rfl) : BS X (S t) (.Expr e pos :: rest) (me.bind k) gN gL gR vR :=
  (pss_cons (ps_expr he hs) (PSs.ex hr)).weak fun D σ H ⟨F, O, c, at_, e, q⟩ => by
    obtain ⟨r, e1, e⟩ := bind_some' e
    exact ⟨F, O, r, at_, e1, fun v F1 H1 f1 a1 r1 => ⟨r, le_rest f1 a1 e q⟩⟩
theorem bs_retE {mk : D × T → R'} (he : EXe X S t e me) (h1 : ∀ r, vR (mk r) = r.1) (h2 : ∀ r, Weak (S r.2) (gR (mk r))) : BS X (S t) (.Return (some e) pos :: rest) (me.bind fun r => some (.rt (mk r))) gN gL gR vR :=
  (pss_cons (ps_ret he) pss_never).weak fun D σ H ⟨F, O, c, at_, e, q⟩ => by
    obtain ⟨r, e1, e⟩ := bind_some' e
    cases e
    exact ⟨F, O, r, at_, e1, fun v F1 H1 f1 a1 r1 => q v σ F1 H1 f1 (a1.weak (h2 r)) (by rw [h1]; exact r1)⟩
/-- target = e, the target any -/
theorem bs_asg {A : Type} {mp : Option D} {mt : D → Option A} {gt : A → List Ent} {k : A → Option (Ctl Nt L' R')} (he : EX X Γ e mp) (hg : GX X Γ tg mt gt) (hr : ∀ a, BS X (gt a) rest (k a) gN gL gR vR)
    (hs : swapsWithSole [tg] e pos.line X.env = pure false := by rfl) (hw : swappedStores [tg] e X.env = pure none := by rfl) (h1 : (assignEach [tg] X.env).map (·.2) = [assign tg X.env] := by rfl) : BS X Γ (.Assign [tg] e pos :: rest) (mp.bind fun x => (mt x).bind k) gN gL gR vR :=
  (pss_cons (ps_asg he hg hs hw h1) (PSs.ex hr)).weak fun D σ H ⟨F, O, c, at_, e, q⟩ => by
    obtain ⟨x, e1, e⟩ := bind_some' e
    obtain ⟨a, e2, e⟩ := bind_some' e
    exact ⟨F, O, x, at_, e1, fun v F1 H1 g1 r1 => ⟨F1, O, x, a, at_.grow g1, r1, e2, fun σ' a' => ⟨a, le_rest g1.f a' e q⟩⟩⟩
theorem bs_asgE {A : Type} {mt : D → Option A} {gt : T → A → List Ent} {k : D × T → A → Option (Ctl Nt L' R')} (he : EXe X S t e me) (hg : ∀ t, GX X (S t) tg mt (gt t)) (hr : ∀ r a, BS X (gt r.2 a) rest (k r a) gN gL gR vR)
    (hs : swapsWithSole [tg] e pos.line X.env = pure false := by rfl) (hw : swappedStores [tg] e X.env = pure none := by rfl) (h1 : (assignEach [tg] X.env).map (·.2) = [assign tg X.env] := by rfl) : BS X (S t) (.Assign [tg] e pos :: rest) (me.bind fun r => (mt r.1).bind fun a => k r a) gN gL gR vR := by
  have hG : PG X tg (fun v σ H Q => ∃ t, tGX X.K (S t) mt (gt t) v σ H Q) := PG.ex hg
  have hR : PSs X rest (fun Dd σ H => ∃ q : (D × T) × A, tBS X.K (gt q.1.2 q.2) (k q.1 q.2) gN gL gR vR Dd σ H) := PSs.ex fun q => hr q.1 q.2
  exact (pss_cons (ps_asg he hG hs hw h1) hR).weak fun D σ H ⟨F, O, c, at_, e, q⟩ => by
    obtain ⟨r, e1, e⟩ := bind_some' e
    obtain ⟨a, e2, e⟩ := bind_some' e
    exact ⟨F, O, r, at_, e1, fun v F1 H1 f1 a1 r1 => ⟨r.2, F1, O, r.1, a, a1, r1, e2, fun σ' a' => ⟨(r, a), le_rest f1 a' e q⟩⟩⟩
theorem ss_ifE {mc : Option (Bool × T)} {aa bb : List Stmt} {m1 m2 : T → Option (Ctl Nt L' R')} (hc : TXe X S t c mc) (ha : ∀ t, BS X (S t) aa (m1 t) gN gL gR vR) (hb : ∀ t, BS X (S t) bb (m2 t) gN gL gR vR) : SS X (S t) (.If c aa bb pos) (mc.bind fun r => if r.1 = true then m1 r.2 else m2 r.2) gN gL gR vR :=
  (ps_if hc (PSs.ex ha) (PSs.ex hb)).weak fun D σ H ⟨F, O, c, at_, e, q⟩ => by
    obtain ⟨⟨k, tk⟩, e1, e⟩ := bind_some' e
    refine ⟨F, O, (k, tk), at_, e1, fun F1 H1 f1 a1 => ?_⟩
    cases k with
    | true => exact ⟨tk, le_rest f1 a1 e q⟩
    | false => exact ⟨tk, le_rest f1 a1 e q⟩
theorem bs_ifxE {Nt' : Type} {gN' : Nt' → List Ent} {mc : Option (Bool × T)} {aa : List Stmt} {m1 : T → Option (Ctl Nt' L' R')} {m2 : T → Option (Ctl Nt L' R')} (hc : TXe X S t c mc) (ha : ∀ t, BS X (S t) aa (m1 t) gN' gL gR vR) (hr : ∀ t, BS X (S t) rest (m2 t) gN gL gR vR) :
    BS X (S t) (.If c aa [] pos :: rest) (mc.bind fun r => if r.1 = true then Ctl.ex (m1 r.2) else m2 r.2) gN gL gR vR :=
  (pss_cons (ps_if hc (PSs.ex ha) (PSs.weak pss_nil (t' := fun D σ H => ∃ t : T, tNext D σ H) fun D σ H ⟨_, q⟩ => q)) (PSs.ex hr)).weak fun D σ H ⟨F, O, c, at_, e, q⟩ => by
    obtain ⟨⟨k, tk⟩, e1, e⟩ := bind_some' e
    refine ⟨F, O, (k, tk), at_, e1, fun F1 H1 f1 a1 => ?_⟩
    cases k with
    | true =>
      simp only [if_true] at e ⊢
      refine ⟨tk, ?_⟩
      cases hm : m1 tk with
      | none => rw [hm] at e; cases e
      | some d =>
        rw [hm] at e
        cases d with
        | nx n => cases e
        | bk l => cases e; exact le_rest (m := some _) f1 a1 rfl q
        | ct l => cases e; exact le_rest (m := some _) f1 a1 rfl q
        | rt l => cases e; exact le_rest (m := some _) f1 a1 rfl q
    | false => exact ⟨tk, tk, le_rest f1 a1 e q⟩
/-- n.append(e), e turning what is owned -/
theorem bs_appE (L : LX X E kk N W G Sl sc) (i j : Nat) {n : Str} {ov : Option V} {k : D × T → D → Option (Ctl Nt L' R')} (hN : N[i]? = some n) (hW : W[j]? = some n) (get : T → D) (hΓ : ∀ t, (S t)[i]? = some (.ow .l ov (get t))) (he : EXe X S t e me) (hr : ∀ r z, BS X ((S r.2).set i (.ow .l ov z)) rest (k r z) gN gL gR vR)
    (hs0 : swapsWith (.Call (.Attribute (.Name n p1) "append" p2) [e] [] p) none pos.line X.env = pure false := by rfl)
    (hbase : attributeBase (.Name n p1) "append" X.env (eval (.Name n p1) X.env) = eval (.Name n p1) X.env := by rfl)
    (hfew : ((backTo p (starEach [e] X.env)).all (fun x => !x.1) && (backToKw p (keywordEach [] X.env)).all (fun x => x.1.isSome) && decide ([e].length + ([] : List Keyword).length + (if ([] : List Keyword).isEmpty then 0 else 1) < 30)) = true := by rfl)
    (hline : (p2.endLine == p.line) = true := by rfl) (hs : starEach [e] X.env = (false, eval e X.env) :: starEach [] X.env := by rfl) (hplain : (backTo p (starEach [] X.env)).any (·.1) = false := by rfl) :
    BS X (S t) (.Expr (.Call (.Attribute (.Name n p1) "append" p2) [e] [] p) pos :: rest) (me.bind fun r => (pApp (get r.2) r.1).bind fun z => k r z) gN gL gR vR := by
  have hR : PSs X rest (fun Dd σ H => ∃ q : (D × T) × D, tBS X.K ((S q.1.2).set i (.ow .l ov q.2)) (k q.1 q.2) gN gL gR vR Dd σ H) := PSs.ex fun q => hr q.1 q.2
  exact (pss_cons (ps_expr (pe_bm PySem.F.plainAttrs_list PySem.F.slot_list_append PySem.F.type_list_append mt_append (own_var L i j hN hW) (pa_cons he pa_nil hs) hbase hfew hline hs hplain) hs0) hR).weak fun Dd σ H ⟨F, O, c, at_, e, q⟩ => by
    obtain ⟨r, e1, e⟩ := bind_some' e
    obtain ⟨z, e2, e⟩ := bind_some' e
    obtain ⟨p, vs, xs, h1, h2, h3, h4, h5, h6, h7, h8, h9, h10⟩ := at_.own (hΓ t)
    refine ⟨_, h1, .inl ⟨rfl, _, .of h4⟩, F, O, r, at_, e1, fun v F1 H1 f1 a1 r1 => ?_⟩
    obtain ⟨p', vs', xs', k1, k2, k3, k4, k5, k6, k7, k8, k9, k10⟩ := a1.own (hΓ r.2)
    rw [h1] at k1
    cases k1
    rw [k3] at e2
    simp only [pApp] at e2
    split at e2
    · rename_i hz
      cases e2
      rw [← k6.length] at hz
      exact ⟨p, vs', v, rfl, rfl, k4, hz, (r, _), le_rest f1 (k9 _ _ (k6.snoc r1) (by simp; omega)) e q⟩
    · cases e2
/-- for over an iterable that turns what is owned -/
theorem ss_forE (L : LX X E kk N W G Sl sc) {S' A : Type} {gS : S' → List Ent} {mt : D → Option A} {gt : S' → A → List Ent} {mb : A → S' → Option (Ctl S' S' R')} {s0 : T → S'} (w : ∀ t, Weak (S t) (gS (s0 t))) (hi : XIe X S t tg e mi) (hg : ∀ s, GX X (gS s) tg mt (gt s)) (hb : ∀ s a, BS X (gt s a) body (mb a s) gS gS gR vR)
    (hs : ∀ x, foldedSetIterable e X.env x = pure x := by intro _; rfl) : SS X (S t) (.For tg e body [] pos) (mi.bind fun r => forC (fun x s => (mt x).bind fun a => mb a s) r.1 (s0 r.2)) gS gL gR vR := by
  have hG : PG X tg (fun v σ H Q => ∃ s, tGX X.K (gS s) mt (gt s) v σ H Q) := PG.ex hg
  have hB : PSs X body (fun D σ H => ∃ sa : S' × A, tBS X.K (gt sa.1 sa.2) (mb sa.2 sa.1) gS gS gR vR D σ H) := PSs.ex fun sa => hb sa.1 sa.2
  refine (ps_for L.po L.calm hi hG hB hs).weak fun Dd σ H ⟨F, O, c, at_, e, q⟩ => ?_
  obtain ⟨⟨xs, t0⟩, e1, e⟩ := bind_some' e
  refine ⟨F, O, (xs, t0), at_, e1, fun F1 H1 J f1 a1 it => ?_⟩
  refine ⟨fun i mm σ' H' => mm = xs.length - i ∧ i ≤ xs.length ∧ ∃ F' s, Le F1 F' ∧ At X.K F' O σ' H' (gS s) ∧ forC (L := L') (fun x s => (mt x).bind fun a => mb a s) (xs.drop i) s = some c, ⟨xs.length, by simp, Nat.zero_le _, F1, s0 t0, Le.refl _, a1.weak (w t0), by simpa using e⟩, ?_⟩
  rintro i mm σ' H' ⟨rfl, hi2, F', s, lf, at', ec⟩
  by_cases hlt : i < xs.length
  · refine .inr ⟨it.go i F' H' lf at'.sub hlt, fun σ2 H2 => ∃ F2 s2, Le F1 F2 ∧ At X.K F2 O σ2 H2 (gS s2) ∧ forC (L := L') (fun x s => (mt x).bind fun a => mb a s) (xs.drop (i + 1)) s2 = some c, fun σ2 H2 ⟨F2, s2, a1, a2, a3⟩ => ⟨xs.length - (i + 1), by omega, rfl, hlt, F2, s2, a1, a2, a3⟩, fun v H2 hy => ?_⟩
    have hx : xs[i]? = some xs[i] := List.getElem?_eq_getElem hlt
    obtain ⟨F2, g2, r2⟩ := it.yld i F' H' v H2 lf at'.sub hy _ hx
    rw [List.drop_eq_getElem_cons hlt] at ec
    unfold forC at ec
    cases hm : mt xs[i] with
    | none => rw [hm] at ec; cases ec
    | some a =>
      rw [hm] at ec
      simp only [Option.bind_some] at ec
      refine ⟨s, F2, O, xs[i], a, at'.grow g2, r2, hm, fun σ3 at3 => ⟨(s, a), F2, O, ?_⟩⟩
      cases hbm : mb a s with
      | none => rw [hbm] at ec; cases ec
      | some d =>
        rw [hbm] at ec
        refine ⟨d, at3, rfl, ?_⟩
        cases d with
        | nx t => exact fun σ4 F4 H4 f4 a4 => ⟨F4, t, lf.trans (g2.f.trans f4), a4, ec⟩
        | ct t => exact fun σ4 F4 H4 f4 a4 => ⟨F4, t, lf.trans (g2.f.trans f4), a4, ec⟩
        | bk t => cases ec; exact fun σ4 F4 H4 f4 a4 => q σ4 F4 H4 (f1.trans (lf.trans (g2.f.trans f4))) a4
        | rt r => cases ec; exact fun v5 σ4 F4 H4 f4 a4 => q v5 σ4 F4 H4 (f1.trans (lf.trans (g2.f.trans f4))) a4
  · have ei : i = xs.length := by omega
    subst ei
    refine .inl ⟨it.stop F' H' lf at'.sub, ?_⟩
    rw [List.drop_length] at ec
    cases ec
    exact q σ' F' H' (f1.trans lf) at'
theorem ss_for1E (L : LX X E kk N W G Sl sc) (i j : Nat) {n : Str} {p' : Pos} {S' : Type} {gS : S' → List Ent} {mb : D → S' → Option (Ctl S' S' R')} {s0 : T → S'} (hN : N[i]? = some n) (hT : Sl[j]? = some n) (w : ∀ t, Weak (S t) (gS (s0 t))) (hi : XIe X S t (.Name n p') e mi) (hb : ∀ s x, BS X ((gS s).set i (.fz x)) body (mb x s) gS gS gR vR)
    (hs : ∀ x, foldedSetIterable e X.env x = pure x := by intro _; rfl) : SS X (S t) (.For (.Name n p') e body [] pos) (mi.bind fun r => forC mb r.1 (s0 r.2)) gS gL gR vR :=
  ss_forE (mt := some) (gt := fun s x => (gS s).set i (.fz x)) (mb := mb) L w hi (fun s => gx_name L i j hN hT) hb hs
end
end Z
namespace Z
open PySem PySem.Spec L2
section
variable {X : Cx} {E : ME} {kk k : Nat} {N W G Sl : List Str} {sc scope : Scope} {Γ : List Ent} {a b c e tg elt : Expr} {es : List Expr} {x y : D} {pos p p1 p2 : Pos} {rest ss body : List Stmt} {ma mb me : Option D} {q r : Bool}
variable {Nt Nt' L' R' : Type} {gN : Nt → List Ent} {gN' : Nt' → List Ent} {gL : L' → List Ent} {gR : R' → List Ent} {vR : R' → D}
theorem ex_negc {i : Int} {j pos'} : EX X Γ (.UnaryOp .USub (.Constant (.int i) j pos') pos) (some (.int (-i))) := ex_neg_a ex_int
theorem tx_bool (ha : EX X Γ a (some (.bool q))) (he : ∀ whole, isTrue a X.env whole = (do let v ← whole; standAt a.pos; holding [v] (truthy v))) : TX X Γ a (some q) := tx_val ha he
theorem tx_not_a (ha : TX X Γ a (some q)) : TX X Γ (.UnaryOp .Not a pos) (some (!q)) := tx_not ha
theorem ex_not_b (ha : EX X Γ a (some (.bool q))) : EX X Γ (.UnaryOp .Not a pos) (some (.bool (!q))) := ex_not ha
theorem wx_and_a {tb : Option Bool} {rest : List Expr} (ha : TX X Γ a (some q)) (hb : WX X Γ (.BoolOp .And (b :: rest) pos) tb) : WX X Γ (.BoolOp .And (a :: b :: rest) pos) (if q = true then tb else some false) := wx_and ha hb
theorem wx_or_a {tb : Option Bool} {rest : List Expr} (ha : TX X Γ a (some q)) (hb : WX X Γ (.BoolOp .Or (b :: rest) pos) tb) : WX X Γ (.BoolOp .Or (a :: b :: rest) pos) (if q = true then some true else tb) := wx_or ha hb
theorem ex_if_a (hc : TX X Γ c (some q)) (ha : EX X Γ a ma) (hb : EX X Γ b mb) : EX X Γ (.IfExp c a b pos) (if q = true then ma else mb) := ex_if hc ha hb
theorem ss_if_a {a b : List Stmt} {m1 m2 : Option (Ctl Nt L' R')} (hc : TX X Γ c (some q)) (ha : BS X Γ a m1 gN gL gR vR) (hb : BS X Γ b m2 gN gL gR vR) : SS X Γ (.If c a b pos) (if q = true then m1 else m2) gN gL gR vR := ss_if hc ha hb
theorem bs_ifx_a {a : List Stmt} {m1 : Option (Ctl Nt' L' R')} {m2 : Option (Ctl Nt L' R')} (hc : TX X Γ c (some q)) (ha : BS X Γ a m1 gN' gL gR vR) (hr : BS X Γ rest m2 gN gL gR vR) :
    BS X Γ (.If c a [] pos :: rest) (if q = true then Ctl.ex m1 else m2) gN gL gR vR := bs_ifx hc ha hr
/-- a value that is a truth value, by its data -/
theorem ex_and_a {rest : List Expr} (ha : EX X Γ a (some (.bool q))) (hb : EX X Γ (.BoolOp .And (b :: rest) pos) mb) : EX X Γ (.BoolOp .And (a :: b :: rest) pos) (if q = true then mb else some (.bool q)) := ex_and ha hb
theorem ex_or_a {rest : List Expr} (ha : EX X Γ a (some (.bool q))) (hb : EX X Γ (.BoolOp .Or (b :: rest) pos) mb) : EX X Γ (.BoolOp .Or (a :: b :: rest) pos) (if q = true then some (.bool q) else mb) := ex_or ha hb
/-- scalars, for what is read off an owned list -/
theorem scal_len : ∀ y, pLen x = some y → scal y = true := by
  intro y h
  cases x <;> simp only [pLen, reduceCtorEq, Option.some.injEq] at h
  · split at h
    · cases h; rfl
    · cases h
  · subst h; rfl
  · subst h; rfl
end

/-- a def of the module, where it stands -/
def DefAt (E : ME) (n qual : Str) (st : Stmt) (ps : List Str) : Prop := ∃ f fd, Fun E.K n qual st f fd ∧ E.mg n = some (.ref f) ∧ Binds E.K fd ps []
theorem DefAt.fn {E : ME} {k : Nat} {n qual : Str} {st : Stmt} {N W G Sl ps : List Str} {C : Con} (h : DefAt E n qual st ps) (S : FnScope N ps (defScope st)) (hst : stOk N W G (defScope st) = true)
    (hsl : locC (defScope st) Sl = true) (hlen : ∀ Γ0 r Γ1, C Γ0 r Γ1 → Γ0.length = ps.length)
    (body : ∀ X, LX X E k N W G Sl (defScope st) → ∀ Γ0 r Γ1, C Γ0 r Γ1 → BodyOk X Γ0 (Γ0 ++ List.replicate (N.length - ps.length) .no) (defBody st) r Γ1) : FnM E (k + 1) n C :=
  let ⟨_, _, F, hm, hb⟩ := h; fn_mk F hb hm S hst hsl hlen body
theorem DefAt.zero {E : ME} {n qual : Str} {st : Stmt} {ps : List Str} {C : Con} (h : DefAt E n qual st ps) (hno : ∀ Γ0 r Γ1, ¬ C Γ0 r Γ1) : FnM E 0 n C :=
  let ⟨_, _, F, hm, hb⟩ := h; fn_zero hm F.kp hb hno
theorem cp_none {m : List D → Option D} (h : ∀ xs, m xs = none) : ∀ Γ0 r Γ1, ¬ CP m Γ0 r Γ1 := fun Γ0 r Γ1 ⟨xs, _, h2, _⟩ => by rw [h] at h2; cases h2
theorem co_none {s : Sh} {m : D → List D → Option (D × D)} (h : ∀ x xs, m x xs = none) : ∀ Γ0 r Γ1, ¬ CO1 s m Γ0 r Γ1 := fun Γ0 r Γ1 ⟨v, x, xs, y, _, h2, _⟩ => by rw [h] at h2; cases h2
end Z
namespace Z
open PySem PySem.Spec L2
/-! ## the law's own tape -/
def spTape (K : PySem.W.Frag) : Sp := fun vs H Q _ => ∃ (a : Addr) (ns : List Int) (b : Int), vs = [.ref a, .int b] ∧ SqL K H a (ns.map V.int) ∧ ∀ l p, H l = none → upd H l (.lst (ns.map V.int)) p = none → Q (.ref p) (upd (upd H l (.lst (ns.map V.int))) p (.lst [.ref l, .int 0, .int 0, .int 1, .int b]))
def FnT (E : ME) (k : Nat) (n : Str) : Prop := ∃ f fd ps, FnOk E.prog E.w E.K E.mg E.base CX0 k f fd ps (spTape E.K) ∧ E.mg n = some (.ref f) ∧ PySem.W.keepIn E.K (.ref f) = true ∧ Binds E.K fd ps []
/-- the tape at the start -/
def tape0 (ns : List Int) (b : Int) : D := .list [.list (ns.map .int), .int 0, .int 0, .int 1, .int b]
theorem reps_ints {K : PySem.W.Frag} {F : Hp} : ∀ ns : List Int, Reps K F (ns.map V.int) (ns.map .int)
  | [] => .nil
  | i :: r => .cons (.int i) (reps_ints r)
section
variable {X : Cx} {E : ME} {kk k : Nat} {N W G Sl : List Str} {sc : Scope} {Γ : List Ent} {rest : List Stmt} {pos : Pos}
variable {Nt L' R' : Type} {gN : Nt → List Ent} {gL : L' → List Ent} {gR : R' → List Ent} {vR : R' → D}
theorem bs_tape (L : LX X E kk N W G Sl sc) (i j g iv jv : Nat) {n nv nf : Str} {ns : List Int} {b : Int} {jj} {m : Option (Ctl Nt L' R')} {p' p p1 p2 p3 : Pos} (hN : N[i]? = some n) (hT : Sl[j]? = some n) (hG : G[g]? = some nf) (hNv : N[iv]? = some nv) (hW : W[jv]? = some nv) (hΓ : Γ[iv]? = some (.sc ns)) (hl : ns.length ≤ 63) (h : FnT E k nf) (hk : k ≤ kk)
    (hr : BS X (Γ.set i (.ow .l none (tape0 ns b))) rest m gN gL gR vR)
    (he : starEach [.Name nv p1, .Constant (.int b) jj p2] X.env = (false, eval (.Name nv p1) X.env) :: starEach [.Constant (.int b) jj p2] X.env := by rfl) (he2 : starEach [.Constant (.int b) jj p2] X.env = (false, eval (.Constant (.int b) jj p2) X.env) :: starEach [] X.env := by rfl) (hpl : (backTo p3 (starEach [.Constant (.int b) jj p2] X.env)).any (·.1) = false := by rfl)
    (hs : swapsWith (.Call (.Name nf p) [.Name nv p1, .Constant (.int b) jj p2] [] p3) (some (.Name n p')) pos.line X.env = pure false := by rfl) :
    BS X Γ (.Assign [.Name n p'] (.Call (.Name nf p) [.Name nv p1, .Constant (.int b) jj p2] [] p3) pos :: rest) m gN gL gR vR := by
  obtain ⟨h1, h2, h3⟩ := L.slot hN hT
  obtain ⟨h4, h5⟩ := L.gl (List.mem_of_getElem? hG)
  obtain ⟨d1, d2, d3⟩ := dund1 h5
  have hv := own_var (pos := p1) L iv jv hNv hW
  obtain ⟨E1, E2, E3, E4, E5⟩ := E
  obtain ⟨f, fd, ps, ok, hm, hki, hb⟩ := h
  have q1 := L.mx.prog; have q2 := L.mx.w; have q3 := L.mx.K; have q4 := L.mx.mg; have q5 := L.mx.base
  simp only at q1 q2 q3 q4 q5 ok hm hki hb
  subst q1 q2 q3 q4 q5
  refine (pss_cons (ps_set L.nd h1 h2 (pe_call ok (L.rm.mono hk) h4 hm hki hb .nil pass0 (pa_cons hv (pa_cons pe_int pa_nil he2) he) d1 he hpl) hs h3) hr).weak fun Dd σ H ⟨F, O, c, at_, e, q⟩ => ?_
  obtain ⟨fp, d, qe⟩ := at_.ents
  obtain ⟨a, ha, hS⟩ := qe iv _ hΓ
  have hz : (ns.map V.int).length ≤ sizeLine := by rw [List.length_map]; exact Nat.le_of_lt (small1000 (by omega))
  refine ⟨_, ha, a, ns, b, rfl, le_l at_.sub hS, fun l p hl hp => ?_⟩
  obtain ⟨g1, r1⟩ := grow_lst at_.sub hl hz (reps_ints ns)
  exact le_rest g1.f ((at_.grow g1).newOwn hp (.cons r1 (.cons (.int 0) (.cons (.int 0) (.cons (.int 1) (.cons (.int b) .nil))))) (by show 5 ≤ sizeLine; decide)) e q
end
/-- what a law promises by its mirror -/
def CLw (m : List Int → Option D) : Con := fun Γ0 r Γ1 => ∃ ns : List Int, Γ0 = [.sc ns] ∧ ns.length ≤ 63 ∧ m ns = some r ∧ Γ1 = [.no]
/-- the law's def, as the end asks it -/
def spLaw (K : PySem.W.Frag) : Sp := fun vs H Q _ => ∃ (a : Addr) (ns : List Int), vs = [.ref a] ∧ SqL K H a (ns.map V.int) ∧ ns.length ≤ 63 ∧ (∀ z ∈ ns, Builtin.Int.intBits z ≤ 1048576) ∧ Only H ∧ ∀ H', Q (.bl true) H'
theorem law_end {E : ME} {k : Nat} {f : Addr} {fd : FuncData} {ps : List Str} {m : List Int → Option D} (ok : FnOk E.prog E.w E.K E.mg E.base CX0 k f fd ps (spC E.K (CLw m))) (hm : ∀ ns : List Int, ns.length ≤ 63 → (∀ z ∈ ns, Builtin.Int.intBits z ≤ 1048576) → m ns = some (.bool true)) :
    FnOk E.prog E.w E.K E.mg E.base CX0 k f fd ps (spLaw E.K) := by
  refine ok.imp fun vs H Q _ ⟨a, ns, e1, hS, hl, hbits, ho, q⟩ => ?_
  subst e1
  refine ⟨H, fun _ => none, [.sc ns], .bool true, [.no], ⟨fun _ _ h => h, fun _ _ h => (nomatch h), fun _ _ => rfl, rfl, fun _ => [], ⟨fun _ => List.nodup_nil, fun _ _ h => (nomatch h), fun _ _ _ h => (nomatch h)⟩, fun i e h => ?_⟩, ⟨ns, rfl, hl, hm ns hl hbits, rfl⟩, fun v F' H' _ _ r => by cases r; exact q H'⟩
  match i, h with
  | 0, h => cases h; exact ⟨a, rfl, hS⟩
  | i + 1, h => simp at h
end Z
namespace Z
open PySem PySem.Spec L2
theorem def_at {E : ME} {h : Heap} (X : E.K.In h) (G : h.Ns mainGlobals E.mg) {n qual : Str} {st : Stmt} {f : Addr} {oc kV dc pm cd ct : Value} {od an : Option Addr} {sl : Array (Option Value)} {ps : List Str}
    (hb : ∀ (kV doc pm : Value) (an : Option Addr) (cdv ct : Value) (us : List Value), us.length = ps.length → bindArgs (PySem.W.fnOf n qual (defArgs st) (defBody st) (defScope st) .none kV doc pm an cdv ct) ⟨us, []⟩ = pure (ps.zip us))
    (a : PySem.W.nsIn E.K mainGlobals n = some (some (.ref f))) (l : E.K.lookup f = some ⟨oc, od, .func (PySem.W.fnOf n qual (defArgs st) (defBody st) (defScope st) .none kV dc pm an cd ct), sl⟩) (c : PySem.W.codeIn E.K cd qual = true) (k : PySem.W.keepIn E.K (.ref f) = true) : DefAt E n qual st ps :=
  let F := fun_mk l c k
  ⟨f, _, F, PySem.W.mg_of X G a, F.binds hb⟩
theorem free_at {E : ME} {h : Heap} (X : E.K.In h) (G : h.Ns mainGlobals E.mg) {n : Str} (z : PySem.W.nsIn E.K mainGlobals n = some none) : Free E n := PySem.W.mg_none_of X G z
theorem gc_int {E : ME} {h : Heap} (X : E.K.In h) (G : h.Ns mainGlobals E.mg) {n : Str} {i : Int} {t} (z : PySem.W.nsIn E.K mainGlobals n = some (some (.int i t))) : GConst E n (.int i) := ⟨.int i, .int i t, PySem.W.mg_of X G z, ⟨_, rfl⟩, fun _ => .int i⟩
theorem gc_str {E : ME} {h : Heap} (X : E.K.In h) (G : h.Ns mainGlobals E.mg) {n s : Str} {t} (z : PySem.W.nsIn E.K mainGlobals n = some (some (.str s t))) : GConst E n (.str s) := ⟨.str s, .str s t, PySem.W.mg_of X G z, ⟨_, rfl⟩, fun _ => .str s⟩
end Z
namespace Z
open PySem PySem.Spec L2
/-! ## the mirrors' primitives at typed data -/
theorem dEqv_int (i j : Int) : PyData.eqv (.int i) (.int j) = decide (i = j) := by simp only [PyData.eqv]; by_cases h : i = j <;> simp [h]
theorem dEqv_bool (i j : Bool) : PyData.eqv (.bool i) (.bool j) = decide (i = j) := by cases i <;> cases j <;> simp [PyData.eqv]
theorem dEqv_str (i j : Str) : PyData.eqv (.str i) (.str j) = decide (i = j) := by simp only [PyData.eqv]; by_cases h : i = j <;> simp [h]
theorem dOk_of {x y : D} (h : x.depth ≤ 100) : dOk x y = true := decide_eq_true (by omega)
theorem dOk_of' {x y : D} (h : y.depth ≤ 100) : dOk x y = true := decide_eq_true (by omega)
theorem dep_int (i : Int) : (PyData.int i).depth ≤ 100 := by simp [PyData.depth]
theorem dep_bool (i : Bool) : (PyData.bool i).depth ≤ 100 := by simp [PyData.depth]
theorem dep_str (i : Str) : (PyData.str i).depth ≤ 100 := by simp [PyData.depth]
@[simp] theorem pEq_int (i j : Int) : pEq (.int i) (.int j) = some (.bool (decide (i = j))) := by rw [pEq, if_pos (dOk_of (dep_int i)), dEqv_int]
@[simp] theorem pEq_bool (i j : Bool) : pEq (.bool i) (.bool j) = some (.bool (decide (i = j))) := by rw [pEq, if_pos (dOk_of (dep_bool i)), dEqv_bool]
@[simp] theorem pEq_str (i j : Str) : pEq (.str i) (.str j) = some (.bool (decide (i = j))) := by rw [pEq, if_pos (dOk_of (dep_str i)), dEqv_str]
@[simp] theorem pNe_int (i j : Int) : pNe (.int i) (.int j) = some (.bool (!decide (i = j))) := by rw [pNe, if_pos (dOk_of (dep_int i)), dEqv_int]
@[simp] theorem pNe_bool (i j : Bool) : pNe (.bool i) (.bool j) = some (.bool (!decide (i = j))) := by rw [pNe, if_pos (dOk_of (dep_bool i)), dEqv_bool]
@[simp] theorem pNe_str (i j : Str) : pNe (.str i) (.str j) = some (.bool (!decide (i = j))) := by rw [pNe, if_pos (dOk_of (dep_str i)), dEqv_str]
theorem dLt_int (i j : Int) : PySem.W.dataLt (.int i) (.int j) = decide (i < j) := by
  unfold PySem.W.dataLt
  simp only [PySem.W.keyToks]
  by_cases h : i < j
  · simp [PyProof.Rows.lexLt, PyProof.Rows.itemLt, PyProof.Rows.itemOrd, h]
  · simp [PyProof.Rows.lexLt, PyProof.Rows.itemLt, PyProof.Rows.itemOrd, h]
theorem ltOk_int (i j : Int) : ltOk (.int i) (.int j) = true := by simp [ltOk, PySem.W.alike, notNone, dOk_of (dep_int i)]
@[simp] theorem pLt_int (i j : Int) : pLt (.int i) (.int j) = some (.bool (decide (i < j))) := by rw [pLt, if_pos (ltOk_int i j), dLt_int]
@[simp] theorem pGt_int (i j : Int) : pGt (.int i) (.int j) = some (.bool (decide (j < i))) := by rw [pGt, if_pos (ltOk_int i j), dLt_int]
@[simp] theorem pLe_int (i j : Int) : pLe (.int i) (.int j) = some (.bool (!decide (j < i))) := by rw [pLe, if_pos (ltOk_int i j), dLt_int]
@[simp] theorem pGe_int (i j : Int) : pGe (.int i) (.int j) = some (.bool (!decide (i < j))) := by rw [pGe, if_pos (ltOk_int i j), dLt_int]
@[simp] theorem dBool_bool (b : Bool) : dBool (.bool b) = some b := rfl
@[simp] theorem pTru_bool (b : Bool) : pTru (.bool b) = some b := rfl
@[simp] theorem pAdd_int (i j : Int) : pAdd (.int i) (.int j) = some (.int (i + j)) := rfl
@[simp] theorem pSub_int (i j : Int) : pSub (.int i) (.int j) = some (.int (i - j)) := rfl
@[simp] theorem pInt_int (i : Int) : pInt (.int i) = some (.int i) := rfl
@[simp] theorem pIsNot_b (x c : Bool) : pIsNot (.bool x) (.bool c) = some (.bool (!(c == x))) := rfl
@[simp] theorem pIs_b (x c : Bool) : pIs (.bool x) (.bool c) = some (.bool (c == x)) := rfl
@[simp] theorem pNot_b (x : Bool) : pNot (.bool x) = some (.bool (!x)) := rfl
@[simp] theorem pLen_t (xs : List D) : pLen (.tuple xs) = some (.int xs.length) := rfl
@[simp] theorem pLen_l (xs : List D) : pLen (.list xs) = some (.int xs.length) := rfl
theorem atI_nn {A : Type} {xs : List A} {i : Int} {x : A} (h0 : 0 ≤ i) (h : xs[i.toNat]? = some x) : atI xs i = some x := by
  have := (List.getElem?_eq_some_iff.mp h).1
  unfold atI ixN
  rw [if_pos h0, if_pos (by omega)]
  exact h
theorem pIdx_l {xs : List D} {i : Int} {x : D} (h0 : 0 ≤ i) (h : xs[i.toNat]? = some x) : pIdx (.list xs) (.int i) = some x := atI_nn h0 h
theorem pIdx_t {xs : List D} {i : Int} {x : D} (h0 : 0 ≤ i) (h : xs[i.toNat]? = some x) : pIdx (.tuple xs) (.int i) = some x := atI_nn h0 h
theorem pMul_ok {i j : Int} {a b : Nat} (ha : i.natAbs < 2 ^ a) (hb : j.natAbs < 2 ^ b) (h : a + b ≤ 134217728) : pMul (.int i) (.int j) = some (.int (i * j)) := by rw [pMul, if_pos (mulx_ok ha hb h)]
theorem pFdiv_ok {i j : Int} (h : 0 < j) (hb : j.natAbs.log2 < 9000) : pFdiv (.int i) (.int j) = some (.int (i / j)) := by rw [pFdiv, if_pos ⟨h, hb⟩]
theorem pMod_ok {i j : Int} (h : 0 < j) : pMod (.int i) (.int j) = some (.int (i % j)) := by rw [pMod, if_pos h]
theorem bits_lt {z : Int} {b : Nat} (h : Builtin.Int.intBits z ≤ b) : z.natAbs < 2 ^ b := by
  unfold Builtin.Int.intBits at h
  split at h
  · rename_i hz
    have : z.natAbs = 0 := by simpa using hz
    rw [this]; exact Nat.two_pow_pos b
  · exact Nat.lt_of_lt_of_le (Nat.lt_log2_self) (Nat.pow_le_pow_right (by decide) h)
end Z
namespace Z
open PySem PySem.Spec L2
/-! ## slices at places that are there -/
theorem pSl_take {xs : List D} {k : Nat} (h : k ≤ xs.length) : pSl (.list xs) none (some (k : Int)) = some (.list (xs.take k)) := by
  simp only [pSl, cutD, HT.sIx_none, HT.sIx_nat, Nat.sub_zero, List.drop_zero, Nat.min_eq_left h]
theorem pSl_drop {xs : List D} {k : Nat} (h : k ≤ xs.length) : pSl (.list xs) (some (k : Int)) none = some (.list (xs.drop k)) := by
  simp only [pSl, cutD, HT.sIx_none, HT.sIx_nat, Nat.min_eq_left h]
  rw [List.take_of_length_le (by simp)]
/-! ## diagrams -/
inductive Dg where
  | leaf (b : Bool)
  | node (i : Nat) (l h : Dg)
  deriving DecidableEq
namespace Dg
def d : Dg → D
  | leaf b => .bool b
  | node i l h => .tuple [.int i, l.d, h.d]
def ht : Dg → Nat
  | leaf _ => 0
  | node _ l h => max l.ht h.ht + 1
theorem eqv : ∀ x y : Dg, PyData.eqv x.d y.d = decide (x = y)
  | leaf a, leaf b => by
    rw [d, d, dEqv_bool]
    by_cases h : a = b
    · subst h; simp
    · rw [decide_eq_false h, decide_eq_false (by simpa using h)]
  | leaf a, node i l h => by simp [d, PyData.eqv]
  | node i l h, leaf a => by simp [d, PyData.eqv]
  | node i l h, node j m k => by
    simp only [d, PyData.eqv, PyData.eqvAll, eqv l m, eqv h k, Bool.and_true]
    by_cases e1 : i = j
    · subst e1
      by_cases e2 : l = m
      · subst e2
        by_cases e3 : h = k
        · subst e3; simp
        · simp [e3]
      · simp [e2]
    · simp only [node.injEq, e1, false_and, decide_false, Bool.and_eq_false_iff]
      left
      simp only [beq_eq_false_iff_ne, ne_eq]
      omega
theorem depth : ∀ x : Dg, x.d.depth ≤ x.ht + 2
  | leaf a => by simp [d, PyData.depth]
  | node i l h => by
    have a := depth l
    have b := depth h
    simp only [d, PyData.depth, PyData.depthAll, ht]
    omega
theorem dok {x y : Dg} (h : x.ht ≤ 90) : dOk x.d y.d = true := dOk_of (by have := x.depth; omega)
theorem isT : ∀ x : Dg, x.d.isTuple = (match x with | leaf _ => false | node _ _ _ => true)
  | leaf _ => rfl
  | node _ _ _ => rfl
theorem isB : ∀ x : Dg, x.d.isBool = (match x with | leaf _ => true | node _ _ _ => false)
  | leaf _ => rfl
  | node _ _ _ => rfl
/-- a node, unless both sides are alike -/
def mk (i : Nat) (l h : Dg) : Dg := if l = h then l else node i l h
/-- the diagram of 2 ^ c truths, from switch i on -/
def dia : Nat → List Bool → Nat → Dg
  | 0, bs, _ => leaf (bs.headD false)
  | c + 1, bs, i => mk i (dia c (bs.take (2 ^ c)) (i + 1)) (dia c (bs.drop (2 ^ c)) (i + 1))
theorem dia_ht : ∀ c bs i, (dia c bs i).ht ≤ c
  | 0, _, _ => by simp [dia, ht]
  | c + 1, bs, i => by
    have a := dia_ht c (bs.take (2 ^ c)) (i + 1)
    have b := dia_ht c (bs.drop (2 ^ c)) (i + 1)
    unfold dia mk
    split
    · omega
    · simp only [ht]; omega
/-- of the form: switches ascend, from lo, below n; no node with both sides alike -/
def wf (lo n : Int) : Dg → Bool
  | leaf _ => true
  | node i l h => decide (lo ≤ i) && decide ((i : Int) < n) && wf (i + 1) n l && wf (i + 1) n h && !decide (l = h)
theorem wf_lo {n : Int} : ∀ {x : Dg} {lo lo' : Int}, lo' ≤ lo → wf lo n x = true → wf lo' n x = true
  | leaf _, _, _, _, _ => rfl
  | node i l h, lo, lo', hl, e => by
    simp only [wf, Bool.and_eq_true, decide_eq_true_eq] at e ⊢
    exact ⟨⟨⟨⟨by omega, e.1.1.1.2⟩, e.1.1.2⟩, e.1.2⟩, e.2⟩
theorem wf_hi {n m : Int} (hn : n ≤ m) : ∀ {x : Dg} {lo : Int}, wf lo n x = true → wf lo m x = true
  | leaf _, _, _ => rfl
  | node i l h, lo, e => by
    simp only [wf, Bool.and_eq_true, decide_eq_true_eq] at e ⊢
    exact ⟨⟨⟨⟨e.1.1.1.1, by omega⟩, wf_hi hn e.1.1.2⟩, wf_hi hn e.1.2⟩, e.2⟩
theorem dia_wf : ∀ c bs (i : Nat), wf i ((i + c : Nat) : Int) (dia c bs i) = true
  | 0, _, _ => rfl
  | c + 1, bs, i => by
    have a := dia_wf c (bs.take (2 ^ c)) (i + 1)
    have b := dia_wf c (bs.drop (2 ^ c)) (i + 1)
    have e : i + 1 + c = i + (c + 1) := by omega
    rw [e] at a b
    unfold dia mk
    split
    · exact wf_lo (by omega) a
    · rename_i hne
      simp only [wf, Bool.and_eq_true, decide_eq_true_eq]
      refine ⟨⟨⟨⟨Int.le_refl _, by omega⟩, ?_⟩, ?_⟩, by simp [hne]⟩
      · exact_mod_cast a
      · exact_mod_cast b
end Dg
end Z
namespace Z
open PySem PySem.Spec L2
/-! ## comprehensions over a tape that is kept well -/
theorem pickE {T : Type} {I : T → Prop} {f : D → T → Option (Bool × T)} (hf : ∀ x t, I t → ∃ b t', f x t = some (b, t') ∧ I t') : ∀ (xs : List D) (t : T), I t → ∃ ys t', lcIE f (fun x t => some (x, t)) xs t = some (ys, t') ∧ ys.Sublist xs ∧ I t'
  | [], t, h => ⟨[], t, rfl, List.Sublist.slnil, h⟩
  | x :: r, t, h => by
    obtain ⟨b, t1, e, h1⟩ := hf x t h
    obtain ⟨ys, t2, e2, s2, h2⟩ := pickE hf r t1 h1
    unfold lcIE
    rw [e]
    cases b with
    | true => exact ⟨x :: ys, t2, by simp [e2], s2.cons₂ x, h2⟩
    | false => exact ⟨ys, t2, by simp [e2], s2.cons x, h2⟩
theorem mapE {T A : Type} {I : T → Prop} {P : A → Prop} {g : A → D} {f : D → T → Option (D × T)} (hf : ∀ x t, I t → ∃ a t', f x t = some (g a, t') ∧ P a ∧ I t') : ∀ (xs : List D) (t : T), I t → ∃ (ys : List A) (t' : T), lcME f xs t = some (ys.map g, t') ∧ ys.length = xs.length ∧ (∀ a ∈ ys, P a) ∧ I t'
  | [], t, h => ⟨[], t, rfl, rfl, by simp, h⟩
  | x :: r, t, h => by
    obtain ⟨a, t1, e, p1, h1⟩ := hf x t h
    obtain ⟨ys, t2, e2, s2, p2, h2⟩ := mapE hf r t1 h1
    unfold lcME
    rw [e]
    exact ⟨a :: ys, t2, by simp [e2], by simp [s2], by simpa using ⟨p1, p2⟩, h2⟩
end Z
namespace Z
open PySem PySem.Spec L2
/-! ## methods of data -/
def tyW (K : PySem.W.Frag) (T : String) (x : V) (H : Hp) : Prop := tyV K T x H ∨ (T = "tuple" ∧ ∃ p xs o, x = .ref p ∧ o.dict = none ∧ H p = some (.frz o (.tup xs)))
theorem tyW_is {X : Cx} {pns : List (Addr × Obj)} {σ : L2.St} {H : Hp} {s : Shared} {T : String} {x : V} {v : Value} (I : Inv X pns σ H s) (r : RelV x v) (ty : tyW X.K T x H) : s.TypeIs v T ∧ ∀ a, v = .ref a → ∃ ob, s.heap.get? a = some ob ∧ ob.dict = none := by
  rcases ty with ty | ⟨rfl, p, xs, o, rfl, hd, hp⟩
  · exact tyV_is I r ty
  · cases r
    obtain ⟨h1, h2, tv, h3, o', h4, h5, h6⟩ := I.hok p _ hp
    exact ⟨⟨o', h4, h5⟩, fun a e => by cases e; exact ⟨o, h1, hd⟩⟩
def tMt (K : PySem.W.Frag) (T : String) (r : V → List V → Hp → VK → Prop) (to : TE) (t : TA) : TE := fun σ H Q => to σ H fun x H1 => tyW K T x H1 ∧ t σ H1 fun xs H2 => r x xs H2 Q
section
variable {X : Cx} {E : ME} {kk : Nat} {N W G Sl : List Str} {sc : Scope} {Γ : List Ent} {o a e : Expr} {es : List Expr} {to : TE} {t : TA} {name : Str} {apos cpos : Pos} {T id : String} {r : V → List V → Hp → VK → Prop} {mo m : Option D} {x : D}
theorem pe_mt (pa : PlainAttrs T) (slot : Slot T name id) (hty : typeOf (.builtin id) = pure (.type "method_descriptor")) (hm : MtR X id r) (ho : PE X o to) (ha : PA X (e :: es) t)
    (hb : attributeBase o name X.env (eval o X.env) = eval o X.env)
    (hf : ((backTo cpos (starEach (e :: es) X.env)).all (fun x => !x.1) && (backToKw cpos (keywordEach [] X.env)).all (fun x => x.1.isSome) && decide ((e :: es).length + ([] : List Keyword).length + (if ([] : List Keyword).isEmpty then 0 else 1) < 30)) = true)
    (hl : (apos.endLine == cpos.line) = true) (hst : starEach (e :: es) X.env = (false, eval e X.env) :: starEach es X.env) (hpn : (backTo cpos (starEach es X.env)).any (·.1) = false) :
    PE X (.Call (.Attribute o name apos) (e :: es) [] cpos) (tMt X.K T r to t) := by
  refine ⟨fun pns s σ H Qv I h => ?_⟩
  refine wpAny_Call_method_late hb hf hl rfl (thn (ho.run pns s σ H _ I h) fun v s1 ⟨y, H1, I1, r1, ty, q1⟩ => ?_)
  obtain ⟨t1, t2⟩ := tyW_is I1 r1 ty
  refine ⟨T, id, pa, slot, hty, t1, t2, ?_⟩
  have hArg := ha.run cpos pns s1 σ H1 _ I1 q1
  rw [hst] at hArg ⊢
  refine Calls.callWith_builtin (by show (false || (backTo cpos (starEach es X.env)).any (·.1)) = false; rw [hpn]; rfl) (Calls.evalArgs_plain ?_)
  exact thn hArg fun uv s2 ⟨vs, H2, I2, r2, q2⟩ => hm pns s2 σ H2 y vs v uv Qv I2 r1 r2 q2
/-- a method's reading serves g -/
def RSm (K : PySem.W.Frag) (r : V → List V → Hp → VK → Prop) (g : D → List D → Option D) : Prop := ∀ (F H F0 : Hp) (v : V) (vs : List V) (x : D) (xs : List D) (z : D) (Q : VK), Le F H → Rep K F v x → Reps K F vs xs → g x xs = some z →
  (∀ w F' H', Grow F H F' H' → Rep K F' w z → Q w H') → r v vs H Q
/-- what the object must be, whatever the arguments are -/
def Knd (K : PySem.W.Frag) (T : String) (P : D → Bool) : Prop := ∀ (F H : Hp) (v : V) (x : D), Le F H → Rep K F v x → P x = true → tyW K T v H
theorem ex_mt {g : D → List D → Option D} {P : D → Bool} {mr : D → Option D} (pa : PlainAttrs T) (slot : Slot T name id) (hty : typeOf (.builtin id) = pure (.type "method_descriptor")) (hm : MtR X id r) (hr : RSm X.K r g) (hP : Knd X.K T P) (ho : EX X Γ o mo) (ha : ∀ x, AX X Γ (e :: es) (g x) (mr x))
    (hb : attributeBase o name X.env (eval o X.env) = eval o X.env := by rfl)
    (hf : ((backTo cpos (starEach (e :: es) X.env)).all (fun x => !x.1) && (backToKw cpos (keywordEach [] X.env)).all (fun x => x.1.isSome) && decide ((e :: es).length + ([] : List Keyword).length + (if ([] : List Keyword).isEmpty then 0 else 1) < 30)) = true := by rfl)
    (hl : (apos.endLine == cpos.line) = true := by rfl) (hst : starEach (e :: es) X.env = (false, eval e X.env) :: starEach es X.env := by rfl) (hpn : (backTo cpos (starEach es X.env)).any (·.1) = false := by rfl) :
    EX X Γ (.Call (.Attribute o name apos) (e :: es) [] cpos) (mo.bind fun x => if P x = true then mr x else none) := by
  have hB : PA X (e :: es) (fun σ H Q => ∃ x, tAX X.K Γ (e :: es).length (g x) (mr x) σ H Q) := ⟨fun ps p s σ H Q I ⟨y, q⟩ => (ha y).run ps p s σ H Q I q⟩
  refine (pe_mt pa slot hty hm ho hB hb hf hl hst hpn).weak fun σ H Q ⟨F, O, z, at_, e, q⟩ => ?_
  obtain ⟨x, e1, e2⟩ := bind_some' e
  split at e2
  · rename_i hx
    refine ⟨F, O, x, at_, e1, fun v F1 H1 g1 r1 => ⟨hP F1 H1 v x g1.s r1 hx, x, F1, O, z, at_.grow g1, e2, fun vs xs F2 H2 g2 r2 _ ek => ?_⟩⟩
    exact hr F2 H2 F v vs x xs z Q g2.s (r1.mono g2.f) r2 ek fun w F' H' g3 r3 => q w F' H' ((g1.trans g2).trans g3) r3
  · cases e2
theorem ex_mt_a {g : D → List D → Option D} {P : D → Bool} {mr : Option D} (pa : PlainAttrs T) (slot : Slot T name id) (hty : typeOf (.builtin id) = pure (.type "method_descriptor")) (hm : MtR X id r) (hr : RSm X.K r g) (hP : Knd X.K T P) (ho : EX X Γ o (some x)) (ha : AX X Γ (e :: es) (g x) mr)
    (hb : attributeBase o name X.env (eval o X.env) = eval o X.env := by rfl)
    (hf : ((backTo cpos (starEach (e :: es) X.env)).all (fun x => !x.1) && (backToKw cpos (keywordEach [] X.env)).all (fun x => x.1.isSome) && decide ((e :: es).length + ([] : List Keyword).length + (if ([] : List Keyword).isEmpty then 0 else 1) < 30)) = true := by rfl)
    (hl : (apos.endLine == cpos.line) = true := by rfl) (hst : starEach (e :: es) X.env = (false, eval e X.env) :: starEach es X.env := by rfl) (hpn : (backTo cpos (starEach es X.env)).any (·.1) = false := by rfl) :
    EX X Γ (.Call (.Attribute o name apos) (e :: es) [] cpos) (if P x = true then mr else none) := by
  refine (pe_mt pa slot hty hm ho ha hb hf hl hst hpn).weak fun σ H Q ⟨F, O, z, at_, e, q⟩ => ?_
  split at e
  · rename_i hx
    refine ⟨F, O, x, at_, rfl, fun v F1 H1 g1 r1 => ⟨hP F1 H1 v x g1.s r1 hx, F1, O, z, at_.grow g1, e, fun vs xs F2 H2 g2 r2 _ ek => ?_⟩⟩
    exact hr F2 H2 F v vs x xs z Q g2.s (r1.mono g2.f) r2 ek fun w F' H' g3 r3 => q w F' H' ((g1.trans g2).trans g3) r3
  · cases e
end
/-! ### index of a text in a tuple of texts -/
def strsOf : List D → Option (List Str)
  | [] => some []
  | .str y :: r => (strsOf r).map (y :: ·)
  | _ :: _ => none
def idxS : List Str → Str → Option Nat
  | [], _ => none
  | y :: r, z => if y = z then some 0 else (idxS r z).map (· + 1)
theorem idxS_ok : ∀ {ys : List Str} {z : Str} {j : Nat}, idxS ys z = some j → ys[j]? = some z ∧ ∀ m, m < j → ys[m]? ≠ some z
  | [], _, _, h => by cases h
  | y :: r, z, j, h => by
    unfold idxS at h
    split at h
    · rename_i e
      cases h
      subst e
      exact ⟨rfl, fun m hm => absurd hm (Nat.not_lt_zero _)⟩
    · rename_i e
      obtain ⟨k, h1, h2⟩ := Option.map_eq_some_iff.mp h
      subst h2
      obtain ⟨h3, h4⟩ := idxS_ok h1
      refine ⟨by simpa using h3, fun m hm => ?_⟩
      match m with
      | 0 => simp [e]
      | m + 1 => simpa using h4 m (by omega)
def strT : D → Bool
  | .tuple xs => (strsOf xs).isSome
  | _ => false
def pIndexT : D → List D → Option D
  | .tuple xs, [.str z] => (strsOf xs).bind fun ys => (idxS ys z).map fun j => .int (j : Nat)
  | _, _ => none
theorem strs_reps {K : PySem.W.Frag} {F : Hp} : ∀ {vs : List V} {xs : List D} {ys : List Str}, Reps K F vs xs → strsOf xs = some ys → vs = ys.map V.str
  | _, _, _, .nil, h => by cases h; rfl
  | _, _, _, .cons r t, h => by
    cases r with
    | str y =>
      obtain ⟨zs, h1, h2⟩ := Option.map_eq_some_iff.mp (show (strsOf _).map (y :: ·) = _ from h)
      subst h2
      rw [strs_reps t h1]
      rfl
    | _ => cases h
theorem knd_strT {K : PySem.W.Frag} : Knd K "tuple" strT := fun F H v x s r h => by
  cases r with
  | @tup a vs xs ht r =>
    obtain ⟨ys, hy⟩ := Option.isSome_iff_exists.mp (show (strsOf xs).isSome = true from h)
    have e := strs_reps r hy
    rcases ht.1 with ⟨o, h1, h2⟩ | ⟨h1, h2⟩ | ⟨o, tv, n, h1, h2, h3, h4, h5, h6⟩
    · exact .inr ⟨rfl, a, vs, o, rfl, h1, s _ _ h2⟩
    · rw [e] at h2
      unfold tupMix at h2
      rw [List.any_map] at h2
      simp at h2
    · exact .inl (.inr (.inl ⟨rfl, o, h1, h2, h3⟩))
  | _ => cases h
theorem rs_indexT {K : PySem.W.Frag} : RSm K (fun x xs H Q => ∃ p, ∃ ys : List Str, ∃ z j, x = .ref p ∧ xs = [.str z] ∧ SqT K H p (ys.map V.str) ∧ ys[j]? = some z ∧ (∀ m, m < j → ys[m]? ≠ some z) ∧ Q (.int (j : Nat)) H) pIndexT := by
  intro F H F0 v vs x xs z Q s r rs e q
  cases r with
  | @tup a ws ds ht r =>
    cases rs with
    | nil => cases e
    | cons r1 r2 =>
      cases r2 with
      | cons _ _ => cases r1 <;> cases e
      | nil =>
        cases r1 with
        | str y =>
          obtain ⟨ys, e1, e2⟩ := bind_some' (show (strsOf ds).bind _ = _ from e)
          obtain ⟨j, e3, e4⟩ := Option.map_eq_some_iff.mp e2
          subst e4
          obtain ⟨h1, h2⟩ := idxS_ok e3
          have hv := strs_reps r e1
          subst hv
          exact ⟨a, ys, y, j, rfl, rfl, le_t s ht.1.sq, h1, h2, q _ F H (Grow.refl s) (.int _)⟩
        | _ => cases e
  | _ => cases rs <;> cases e
end Z
namespace Z
open PySem PySem.Spec L2
/-! ## comprehensions whose target is a tuple -/
def lcTM {A : Type} (mt : D → Option A) (mf : A → Option D) : List D → Option (List D) := lcM fun x => (mt x).bind mf
def lcTI {A : Type} (mt : D → Option A) (cc : A → Option Bool) (mf : A → Option D) : List D → Option (List D) := lcI (fun x => (mt x).bind cc) (fun x => (mt x).bind mf)
section
variable {X : Cx} {E : ME} {kk : Nat} {N W G Sl : List Str} {sc scope : Scope} {Γ : List Ent} {tg e c elt : Expr} {pos : Pos} {mi : Option (List D)} {A : Type}
theorem ex_lcT (L : LX X E kk N W G Sl sc) {Wb Gb Sb : List Str} (own : List (Str × Nat)) (ok : lcOk N Wb Gb Sb sc scope own = true) {mt : D → Option A} {gt : A → List Ent} {mf : A → Option D}
    (hi : XI X Γ tg e mi)
    (hg : ∀ X', LX X' E kk N Wb Gb Sb (relS scope sc) → GY X' (wipeE Γ (own.map (·.2))) (own.map (·.2)) tg mt gt)
    (he : ∀ X', LX X' E kk N Wb Gb Sb (relS scope sc) → ∀ a, EX X' (gt a) elt (mf a)) (hs : ∀ x, foldedSetIterable e X.env x = pure x := by intro _; rfl) :
    CE X (.ListComp elt [⟨tg, e, [], 0⟩] scope pos) (tX X.K Γ (mi.bind fun xs => (lcTM mt mf xs).map .list) id) := by
  have h := ex_lcG (mt := mt) (gt := gt) (cc := fun _ => some true) (mf := mf) (pos := pos) L own ok hi hg (fun X' L' a => pts_yes) he hs
  have e1 : lcTM mt mf = lcG (fun x => (mt x).bind fun a => (some true).bind fun b => if b = true then (mf a).map some else some none) := by
    funext xs
    unfold lcTM
    rw [lcM_G]
    congr 1
    funext x
    cases mt x <;> rfl
  rw [e1]
  exact h
theorem ex_lcTI (L : LX X E kk N W G Sl sc) {Wb Gb Sb : List Str} (own : List (Str × Nat)) (ok : lcOk N Wb Gb Sb sc scope own = true) {mt : D → Option A} {gt : A → List Ent} {cc : A → Option Bool} {mf : A → Option D}
    (hi : XI X Γ tg e mi)
    (hg : ∀ X', LX X' E kk N Wb Gb Sb (relS scope sc) → GY X' (wipeE Γ (own.map (·.2))) (own.map (·.2)) tg mt gt)
    (ht : ∀ X', LX X' E kk N Wb Gb Sb (relS scope sc) → ∀ a, TX X' (gt a) c (cc a))
    (he : ∀ X', LX X' E kk N Wb Gb Sb (relS scope sc) → ∀ a, EX X' (gt a) elt (mf a)) (hs : ∀ x, foldedSetIterable e X.env x = pure x := by intro _; rfl) :
    CE X (.ListComp elt [⟨tg, e, [c], 0⟩] scope pos) (tX X.K Γ (mi.bind fun xs => (lcTI mt cc mf xs).map .list) id) := by
  have h := ex_lcG (mt := mt) (gt := gt) (cc := cc) (mf := mf) (pos := pos) L own ok hi hg (fun X' L' a => pts_ifs (ht X' L' a)) he hs
  have e1 : lcTI mt cc mf = lcG (fun x => (mt x).bind fun a => (cc a).bind fun b => if b = true then (mf a).map some else some none) := by
    funext xs
    unfold lcTI
    rw [lcI_G]
    congr 1
    funext x
    cases mt x <;> rfl
  rw [e1]
  exact h
end
end Z
namespace Z
open PySem PySem.Spec L2
namespace Dg
/-! ## what a diagram says -/
def ev (g : Nat → Bool) : Dg → Bool
  | leaf b => b
  | node i l h => if g i = true then ev g h else ev g l
/-- the configuration r, from switch i on -/
def pt (i : Nat) (r : List Bool) : Nat → Bool := fun j => r.getD (j - i) false
theorem ev_congr {g g' : Nat → Bool} {n : Int} : ∀ {x : Dg} {lo : Int}, wf lo n x = true → (∀ j : Nat, lo ≤ j → g j = g' j) → ev g x = ev g' x
  | leaf _, _, _, _ => rfl
  | node i l h, lo, e, hg => by
    simp only [wf, Bool.and_eq_true, decide_eq_true_eq] at e
    have h1 := ev_congr (g := g) (g' := g') e.1.1.2 (fun j hj => hg j (by omega))
    have h2 := ev_congr (g := g) (g' := g') e.1.2 (fun j hj => hg j (by omega))
    simp only [ev, h1, h2, hg i e.1.1.1.1]
/-- all configurations of c switches, ascending -/
def allc : Nat → List (List Bool)
  | 0 => [[]]
  | c + 1 => (allc c).map (false :: ·) ++ (allc c).map (true :: ·)
theorem allc_len : ∀ c, (allc c).length = 2 ^ c
  | 0 => rfl
  | c + 1 => by simp only [allc, List.length_append, List.length_map, allc_len c, Nat.pow_succ]; omega
theorem allc_mem : ∀ {c : Nat} {r : List Bool}, r ∈ allc c → r.length = c
  | 0, r, h => by simp [allc] at h; simp [h]
  | c + 1, r, h => by
    simp only [allc, List.mem_append, List.mem_map] at h
    rcases h with ⟨q, hq, rfl⟩ | ⟨q, hq, rfl⟩ <;> simp [allc_mem hq]
/-- longer by one at the end: the same rows -/
def grow1 (rs : List (List Bool)) : List (List Bool) := rs.flatMap fun r => [r ++ [false], r ++ [true]]
theorem grow1_cons (b : Bool) (rs : List (List Bool)) : grow1 (rs.map (b :: ·)) = (grow1 rs).map (b :: ·) := by
  induction rs with
  | nil => rfl
  | cons r rs ih => simp only [grow1, List.map_cons, List.flatMap_cons, List.map_append] at ih ⊢; rw [ih]; rfl
theorem grow1_append (rs qs : List (List Bool)) : grow1 (rs ++ qs) = grow1 rs ++ grow1 qs := by simp [grow1]
theorem allc_grow : ∀ c, grow1 (allc c) = allc (c + 1)
  | 0 => rfl
  | c + 1 => by
    have ih := allc_grow c
    show grow1 ((allc c).map (false :: ·) ++ (allc c).map (true :: ·)) = (allc (c + 1)).map (false :: ·) ++ (allc (c + 1)).map (true :: ·)
    rw [grow1_append, grow1_cons, grow1_cons, ih]
/-- by a function of the configuration -/
def diaF : Nat → Nat → (List Bool → Bool) → Dg
  | 0, _, f => leaf (f [])
  | c + 1, i, f => mk i (diaF c (i + 1) fun r => f (false :: r)) (diaF c (i + 1) fun r => f (true :: r))
theorem dia_F : ∀ (c i : Nat) (f : List Bool → Bool), dia c ((allc c).map f) i = diaF c i f
  | 0, _, _ => rfl
  | c + 1, i, f => by
    have h1 := dia_F c (i + 1) fun r => f (false :: r)
    have h2 := dia_F c (i + 1) fun r => f (true :: r)
    have hl := allc_len c
    unfold dia diaF
    rw [← h1, ← h2]
    simp only [allc, List.map_append, List.map_map]
    have e1 : ((allc c).map (f ∘ (false :: ·))).length = 2 ^ c := by simp [hl]
    rw [List.take_left' e1, List.drop_left' e1]
    rfl
/-- THE ONE DIAGRAM of a set of configurations -/
theorem canon : ∀ (c i : Nat) (x : Dg), wf i ((i + c : Nat) : Int) x = true → diaF c i (fun r => ev (pt i r) x) = x
  | 0, i, leaf b, _ => rfl
  | 0, i, node j l h, e => by
    simp only [wf, Bool.and_eq_true, decide_eq_true_eq] at e
    omega
  | c + 1, i, leaf b, _ => by
    have h := canon c (i + 1) (leaf b) rfl
    simp only [diaF, ev] at h ⊢
    rw [h]
    simp [mk]
  | c + 1, i, node j l h, e => by
    have e0 := e
    simp only [wf, Bool.and_eq_true, decide_eq_true_eq] at e
    have ec : i + 1 + c = i + (c + 1) := by omega
    by_cases hj : j = i
    · subst hj
      have h1 := canon c (j + 1) l (by rw [ec]; exact_mod_cast e.1.1.2)
      have h2 := canon c (j + 1) h (by rw [ec]; exact_mod_cast e.1.2)
      have g1 : ∀ b r, ∀ k : Nat, ((j : Int) + 1) ≤ k → pt j (b :: r) k = pt (j + 1) r k := fun b r k hk => by
        unfold pt
        have : k - j = (k - (j + 1)) + 1 := by omega
        rw [this]
        simp
      have f1 : (fun r => ev (pt j (false :: r)) (node j l h)) = fun r => ev (pt (j + 1) r) l := by
        funext r
        have : pt j (false :: r) j = false := by simp [pt]
        simp only [ev, this, Bool.false_eq_true, if_false]
        exact ev_congr e.1.1.2 (g1 false r)
      have f2 : (fun r => ev (pt j (true :: r)) (node j l h)) = fun r => ev (pt (j + 1) r) h := by
        funext r
        have : pt j (true :: r) j = true := by simp [pt]
        simp only [ev, this, if_true]
        exact ev_congr e.1.2 (g1 true r)
      unfold diaF
      rw [f1, f2, h1, h2, mk, if_neg (by simpa using e.2)]
    · have hw : wf ((i + 1 : Nat) : Int) ((i + 1 + c : Nat) : Int) (node j l h) = true := by
        rw [ec]
        simp only [wf, Bool.and_eq_true, decide_eq_true_eq]
        exact ⟨⟨⟨⟨by omega, e.1.1.1.2⟩, e.1.1.2⟩, e.1.2⟩, e.2⟩
      have h1 := canon c (i + 1) (node j l h) hw
      have f1 : ∀ b, (fun r => ev (pt i (b :: r)) (node j l h)) = fun r => ev (pt (i + 1) r) (node j l h) := fun b => by
        funext r
        refine ev_congr hw fun k hk => ?_
        unfold pt
        have : k - i = (k - (i + 1)) + 1 := by omega
        rw [this]
        simp
      unfold diaF
      rw [f1, f1, h1]
      simp [mk]
/-- equal truths, equal diagrams -/
theorem one {n : Nat} {x : Dg} (h : wf 0 n x = true) : dia n ((allc n).map fun r => ev (pt 0 r) x) 0 = x := by
  rw [dia_F]
  exact canon n 0 x (by simpa using h)
theorem wf_ht {n : Int} : ∀ {x : Dg} {lo : Int}, wf lo n x = true → lo ≤ n → (x.ht : Int) ≤ n - lo
  | leaf _, _, _, h => by simp only [ht]; omega
  | node i l h, lo, e, _ => by
    simp only [wf, Bool.and_eq_true, decide_eq_true_eq] at e
    have h1 := wf_ht e.1.1.2 (by omega)
    have h2 := wf_ht e.1.2 (by omega)
    simp only [ht]
    omega
/-! ## operations -/
def neg : Dg → Dg
  | leaf b => leaf (!b)
  | node i l h => node i (neg l) (neg h)
theorem neg_neg : ∀ x, neg (neg x) = x
  | leaf b => by simp [neg]
  | node i l h => by simp [neg, neg_neg l, neg_neg h]
theorem neg_inj {x y : Dg} (h : neg x = neg y) : x = y := by rw [← neg_neg x, h, neg_neg]
theorem neg_wf {n : Int} : ∀ {x : Dg} {lo : Int}, wf lo n x = true → wf lo n (neg x) = true
  | leaf _, _, _ => rfl
  | node i l h, lo, e => by
    simp only [wf, neg, Bool.and_eq_true, decide_eq_true_eq] at e ⊢
    refine ⟨⟨⟨e.1.1.1, neg_wf e.1.1.2⟩, neg_wf e.1.2⟩, ?_⟩
    by_cases hh : neg l = neg h
    · have := neg_inj hh
      simp [this] at e
    · simp [hh]
theorem neg_ev (g : Nat → Bool) : ∀ x, ev g (neg x) = !ev g x
  | leaf b => rfl
  | node i l h => by
    simp only [neg, ev, neg_ev g l, neg_ev g h]
    split <;> rfl
theorem neg_ht : ∀ x, (neg x).ht = x.ht
  | leaf b => rfl
  | node i l h => by simp [neg, ht, neg_ht l, neg_ht h]
theorem mk_ev (g : Nat → Bool) (i : Nat) (l h : Dg) : ev g (mk i l h) = if g i = true then ev g h else ev g l := by
  unfold mk
  split
  · rename_i e; subst e; split <;> rfl
  · rfl
theorem mk_wf {n lo : Int} {i : Nat} {l h : Dg} (h1 : lo ≤ i) (h2 : (i : Int) < n) (wl : wf (i + 1) n l = true) (wh : wf (i + 1) n h = true) : wf lo n (mk i l h) = true := by
  unfold mk
  split
  · exact wf_lo (by omega) wl
  · rename_i e
    simp [wf, h1, h2, wl, wh, e]
def both : Nat → Dg → Dg → Dg
  | 0, _, _ => leaf false
  | _ + 1, leaf a, y => if a = true then y else leaf false
  | _ + 1, node i l h, leaf b => if b = true then node i l h else leaf false
  | n + 1, node i l h, node j m k => if i < j then mk i (both n l (node j m k)) (both n h (node j m k)) else if j < i then mk j (both n (node i l h) m) (both n (node i l h) k) else mk i (both n l m) (both n h k)
theorem both_ev (g : Nat → Bool) : ∀ (n : Nat) (x y : Dg), x.ht + y.ht < n → ev g (both n x y) = (ev g x && ev g y)
  | 0, _, _, h => by omega
  | n + 1, leaf a, y, _ => by cases a <;> simp [both, ev]
  | n + 1, node i l h, leaf b, _ => by cases b <;> simp [both, ev]
  | n + 1, node i l h, node j m k, hh => by
    simp only [ht] at hh
    unfold both
    split
    · rw [mk_ev, both_ev g n l _ (by simp only [ht]; omega), both_ev g n h _ (by simp only [ht]; omega)]
      simp only [ev]
      cases g i <;> simp
    · split
      · rw [mk_ev, both_ev g n _ m (by simp only [ht]; omega), both_ev g n _ k (by simp only [ht]; omega)]
        simp only [ev]
        cases g j <;> simp
      · have e : i = j := by omega
        subst e
        rw [mk_ev, both_ev g n l m (by omega), both_ev g n h k (by omega)]
        simp only [ev]
        cases g i <;> simp
theorem mk_ht {i : Nat} {l h : Dg} : (mk i l h).ht ≤ max l.ht h.ht + 1 := by
  unfold mk
  split
  · omega
  · simp [ht]
/-! ## configurations chosen, step by step -/
def step (i : Nat) (b : Bool) : Dg → Dg
  | leaf c => leaf c
  | node j l h => if j = i then (if b = true then h else l) else node j l h
theorem step_wf {i : Nat} {n : Int} {b : Bool} : ∀ {x : Dg}, wf i n x = true → wf ((i + 1 : Nat) : Int) n (step i b x) = true
  | leaf _, _ => rfl
  | node j l h, e => by
    have e0 := e
    simp only [wf, Bool.and_eq_true, decide_eq_true_eq] at e
    simp only [step]
    split
    · rename_i q
      subst q
      split
      · exact_mod_cast e.1.2
      · exact_mod_cast e.1.1.2
    · simp only [wf, Bool.and_eq_true, decide_eq_true_eq]
      exact ⟨⟨⟨⟨by omega, e.1.1.1.2⟩, e.1.1.2⟩, e.1.2⟩, e.2⟩
theorem step_ev {i : Nat} {n : Int} {b : Bool} {r : List Bool} : ∀ {x : Dg}, wf i n x = true → ev (pt i (b :: r)) x = ev (pt (i + 1) r) (step i b x)
  | leaf _, _ => rfl
  | node j l h, e => by
    have e0 := e
    simp only [wf, Bool.and_eq_true, decide_eq_true_eq] at e
    have g1 : ∀ k : Nat, ((i : Int) + 1) ≤ k → pt i (b :: r) k = pt (i + 1) r k := fun k hk => by
      unfold pt
      have : k - i = (k - (i + 1)) + 1 := by omega
      rw [this]
      simp
    simp only [step]
    split
    · rename_i q
      subst q
      have h0 : pt j (b :: r) j = b := by simp [pt]
      simp only [ev, h0]
      split
      · exact ev_congr e.1.2 g1
      · exact ev_congr e.1.1.2 g1
    · have w : wf ((i : Int) + 1) n (node j l h) = true := by
        simp only [wf, Bool.and_eq_true, decide_eq_true_eq]
        exact ⟨⟨⟨⟨by omega, e.1.1.1.2⟩, e.1.1.2⟩, e.1.2⟩, e.2⟩
      exact ev_congr w g1
/-- one switch more -/
def longer (i : Nat) (fs : List (List Bool × Dg)) : List (List Bool × Dg) := fs.flatMap fun p => [false, true].filterMap fun b => if step i b p.2 = leaf false then none else some (p.1 ++ [b], step i b p.2)
def found : Nat → Nat → List (List Bool × Dg) → List (List Bool × Dg)
  | 0, _, fs => fs
  | k + 1, i, fs => found k (i + 1) (longer i fs)
theorem fm_congr {A B : Type} {f g : A → List B} : ∀ (xs : List A), (∀ x ∈ xs, f x = g x) → xs.flatMap f = xs.flatMap g
  | [], _ => rfl
  | x :: xs, h => by rw [List.flatMap_cons, List.flatMap_cons, h x List.mem_cons_self, fm_congr xs fun y hy => h y (List.mem_cons_of_mem _ hy)]
theorem found_ok : ∀ (k i : Nat) (fs : List (List Bool × Dg)), (∀ p ∈ fs, wf i ((i + k : Nat) : Int) p.2 = true) →
    ((found k i fs).filter fun p => decide (p.2 = leaf true)).map (·.1) = fs.flatMap fun p => ((allc k).filter fun r => ev (pt i r) p.2).map (p.1 ++ ·)
  | 0, i, fs, hw => by
    simp only [found]
    induction fs with
    | nil => rfl
    | cons p fs ih =>
      have ih := ih fun q hq => hw q (List.mem_cons_of_mem _ hq)
      have hp := hw p List.mem_cons_self
      obtain ⟨c, x⟩ := p
      cases x with
      | node j l h => simp only [wf, Bool.and_eq_true, decide_eq_true_eq] at hp; omega
      | leaf b =>
        rw [List.flatMap_cons, ← ih]
        cases b <;> simp [allc, ev]
  | k + 1, i, fs, hw => by
    have ec : i + 1 + k = i + (k + 1) := by omega
    have hw1 : ∀ p ∈ longer i fs, wf ((i + 1 : Nat) : Int) ((i + 1 + k : Nat) : Int) p.2 = true := fun p hp => by
      simp only [longer, List.mem_flatMap, List.mem_filterMap] at hp
      obtain ⟨q, hq, b, _, hb⟩ := hp
      split at hb
      · cases hb
      · cases hb
        rw [ec]
        exact step_wf (hw q hq)
    simp only [found]
    rw [found_ok k (i + 1) (longer i fs) hw1]
    unfold longer
    rw [List.flatMap_assoc]
    refine fm_congr fs fun p hp => ?_
    have hp := hw p hp
    have one : ∀ b, (if step i b p.2 = leaf false then [] else ((allc k).filter fun r => ev (pt (i + 1) r) (step i b p.2)).map ((p.1 ++ [b]) ++ ·)) = (((allc k).map (b :: ·)).filter fun r => ev (pt i r) p.2).map (p.1 ++ ·) := fun b => by
      rw [List.filter_map, List.map_map]
      have e1 : ((fun r => ev (pt i r) p.2) ∘ (b :: ·)) = fun r => ev (pt (i + 1) r) (step i b p.2) := by
        funext r
        exact step_ev hp
      rw [e1]
      split
      · rename_i e
        rw [e]
        simp [ev]
      · refine List.map_congr_left fun r _ => ?_
        simp
    simp only [allc, List.filter_append, List.map_append, ← one]
    by_cases e1 : step i false p.2 = leaf false <;> by_cases e2 : step i true p.2 = leaf false <;> simp [e1, e2]
theorem both_wf {c : Int} : ∀ (n : Nat) (x y : Dg) (lo : Int), wf lo c x = true → wf lo c y = true → wf lo c (both n x y) = true
  | 0, _, _, _, _, _ => rfl
  | n + 1, leaf a, y, lo, _, hy => by cases a <;> simp [both, hy, wf]
  | n + 1, node i l h, leaf b, lo, hx, _ => by cases b <;> simp [both, hx, wf]
  | n + 1, node i l h, node j m k, lo, hx, hy => by
    have hx0 := hx
    have hy0 := hy
    simp only [wf, Bool.and_eq_true, decide_eq_true_eq] at hx hy
    unfold both
    split
    · have hy1 : wf ((i : Int) + 1) c (node j m k) = true := by
        simp only [wf, Bool.and_eq_true, decide_eq_true_eq]
        exact ⟨⟨⟨⟨by omega, hy.1.1.1.2⟩, hy.1.1.2⟩, hy.1.2⟩, hy.2⟩
      exact mk_wf hx.1.1.1.1 hx.1.1.1.2 (both_wf n _ _ _ hx.1.1.2 hy1) (both_wf n _ _ _ hx.1.2 hy1)
    · split
      · have hx1 : wf ((j : Int) + 1) c (node i l h) = true := by
          simp only [wf, Bool.and_eq_true, decide_eq_true_eq]
          exact ⟨⟨⟨⟨by omega, hx.1.1.1.2⟩, hx.1.1.2⟩, hx.1.2⟩, hx.2⟩
        exact mk_wf hy.1.1.1.1 hy.1.1.1.2 (both_wf n _ _ _ hx1 hy.1.1.2) (both_wf n _ _ _ hx1 hy.1.2)
      · have e : i = j := by omega
        subst e
        exact mk_wf hx.1.1.1.1 hx.1.1.1.2 (both_wf n _ _ _ hx.1.1.2 hy.1.1.2) (both_wf n _ _ _ hx.1.2 hy.1.2)
end Dg
end Z
namespace Z
open PySem PySem.Spec L2
/-! ## loops over known lists -/
section
variable {S L R : Type} {F : D → S → Option (Ctl S S R)}
/-- item by item -/
theorem forC_go {A : Type} {enc : A → D} {st : List A → S} {P : A → Prop} : ∀ (xs done : List A), (∀ a ∈ xs, P a) → (∀ a done, P a → F (enc a) (st done) = some (.nx (st (done ++ [a])))) → (forC F (xs.map enc) (st done) : Option (Ctl S L R)) = some (.nx (st (done ++ xs)))
  | [], done, _, _ => by simp [forC]
  | a :: xs, done, hP, h => by
    have ih := forC_go xs (done ++ [a]) (fun b hb => hP b (List.mem_cons_of_mem _ hb)) h
    simp only [List.map_cons, forC, h a done (hP a List.mem_cons_self)]
    rw [ih]
    simp
/-- the same, where the list of what is done is known to be a start of all -/
theorem forC_pre {A : Type} {enc : A → D} {st : List A → S} : ∀ (xs done : List A), (∀ d1 a d2, done ++ xs = d1 ++ a :: d2 → F (enc a) (st d1) = some (.nx (st (d1 ++ [a])))) → (forC F (xs.map enc) (st done) : Option (Ctl S L R)) = some (.nx (st (done ++ xs)))
  | [], done, _ => by simp [forC]
  | a :: xs, done, h => by
    have ih := forC_pre xs (done ++ [a]) (fun d1 b d2 e => h d1 b d2 (by rw [← e]; simp))
    simp only [List.map_cons, forC, h done a xs rfl]
    rw [ih]
    simp
theorem forC_range {lo : Int} {n : Nat} {st : Nat → S} (h : ∀ i, i < n → F (.int (lo + (i : Nat))) (st i) = some (.nx (st (i + 1)))) : (forC F (rgU lo n) (st 0) : Option (Ctl S L R)) = some (.nx (st n)) := by
  have h2 := forC_pre (F := F) (L := L) (enc := fun i : Nat => .int (lo + (i : Nat))) (st := fun d => st d.length) (List.range n) [] (fun d1 a d2 e => by
    simp only [List.nil_append] at e
    have hl : d1.length < n := by
      have := congrArg List.length e
      simp at this
      omega
    have ha : a = d1.length := by
      have h3 : (List.range n)[d1.length]? = some a := by rw [e]; simp
      rw [List.getElem?_range hl] at h3
      exact (Option.some.inj h3).symm
    subst ha
    simpa using h d1.length hl)
  simpa [rgU] using h2
end
theorem lcM_map {A : Type} {enc : A → D} {f : D → Option D} {g : A → D} : ∀ {xs : List A}, (∀ a ∈ xs, f (enc a) = some (g a)) → lcM f (xs.map enc) = some (xs.map g)
  | [], _ => rfl
  | a :: xs, h => by
    simp only [List.map_cons, lcM, h a List.mem_cons_self, Option.bind_some, lcM_map fun b hb => h b (List.mem_cons_of_mem _ hb), Option.map_some]
theorem lcI_map {A : Type} {enc : A → D} {c : D → Option Bool} {f : D → Option D} {p : A → Bool} {g : A → D} : ∀ {xs : List A}, (∀ a ∈ xs, c (enc a) = some (p a)) → (∀ a ∈ xs, f (enc a) = some (g a)) → lcI c f (xs.map enc) = some ((xs.filter p).map g)
  | [], _, _ => rfl
  | a :: xs, h, k => by
    have ih := lcI_map (fun b hb => h b (List.mem_cons_of_mem _ hb)) (fun b hb => k b (List.mem_cons_of_mem _ hb))
    simp only [List.map_cons, lcI, h a List.mem_cons_self, Option.bind_some]
    cases hp : p a
    · simp [ih, hp]
    · simp [ih, hp, k a List.mem_cons_self]
theorem rgU_map {n : Nat} : rgU 0 n = (List.range n).map fun i : Nat => (PyData.int (i : Int)) := by unfold rgU; simp
theorem pEq_refl {x : D} (h : x.depth ≤ 100) (p : x.plain = true) : pEq x x = some (.bool true) := by rw [pEq, if_pos (dOk_of h), PySem.SeqAt.eqv_refl_plain x p]
theorem pNe_refl {x : D} (h : x.depth ≤ 100) (p : x.plain = true) : pNe x x = some (.bool false) := by rw [pNe, if_pos (dOk_of h), PySem.SeqAt.eqv_refl_plain x p]; rfl
theorem pRg1_ok {n : Nat} (h : n ≤ 100000) : pRg1 (.int (n : Int)) = some (rgU 0 n) := by
  show (if rgOk (n : Int) = true ∧ rgLe (n : Int).toNat = true then some (rgU 0 (n : Int).toNat) else none) = _
  rw [if_pos ?_]
  · simp
  · have b : 100000 ≤ sizeLine := by decide
    exact ⟨decide_eq_true (by omega), decide_eq_true (by rw [Int.toNat_natCast]; omega)⟩
end Z
namespace Z
open PySem PySem.Spec L2
theorem forC_rangeE {S L R : Type} {F : D → S → Option (Ctl S S R)} {enc : Nat → D} {n : Nat} {st : Nat → S} (h : ∀ i, i < n → F (enc i) (st i) = some (.nx (st (i + 1)))) : (forC F ((List.range n).map enc) (st 0) : Option (Ctl S L R)) = some (.nx (st n)) := by
  have h2 := forC_pre (F := F) (L := L) (enc := enc) (st := fun d => st d.length) (List.range n) [] (fun d1 a d2 e => by
    simp only [List.nil_append] at e
    have hl : d1.length < n := by
      have := congrArg List.length e
      simp at this
      omega
    have ha : a = d1.length := by
      have h3 : (List.range n)[d1.length]? = some a := by rw [e]; simp
      rw [List.getElem?_range hl] at h3
      exact (Option.some.inj h3).symm
    subst ha
    simpa using h d1.length hl)
  simpa using h2
/-- with what is known of the state alone -/
theorem forC_inv {S L R : Type} {F : D → S → Option (Ctl S S R)} {A : Type} {enc : A → D} {I : List A → S → Prop} : ∀ (xs done : List A) (s : S), I done s → (∀ d1 a d2 s, done ++ xs = d1 ++ a :: d2 → I d1 s → ∃ s', F (enc a) s = some (.nx s') ∧ I (d1 ++ [a]) s') → ∃ s', (forC F (xs.map enc) s : Option (Ctl S L R)) = some (.nx s') ∧ I (done ++ xs) s'
  | [], done, s, hi, _ => ⟨s, rfl, by simpa using hi⟩
  | a :: xs, done, s, hi, h => by
    obtain ⟨s1, e1, h1⟩ := h done a xs s rfl hi
    obtain ⟨s2, e2, h2⟩ := forC_inv xs (done ++ [a]) s1 h1 (fun d1 b d2 s e => h d1 b d2 s (by rw [← e]; simp))
    refine ⟨s2, ?_, by simpa using h2⟩
    simp only [List.map_cons, forC, e1]
    exact e2
theorem forC_rinv {S L R : Type} {F : D → S → Option (Ctl S S R)} {enc : Nat → D} {n : Nat} {I : Nat → S → Prop} {s : S} (h0 : I 0 s) (h : ∀ i s, i < n → I i s → ∃ s', F (enc i) s = some (.nx s') ∧ I (i + 1) s') : ∃ s', (forC F ((List.range n).map enc) s : Option (Ctl S L R)) = some (.nx s') ∧ I n s' := by
  obtain ⟨s', e, hi⟩ := forC_inv (F := F) (L := L) (enc := enc) (I := fun d => I d.length) (List.range n) [] s h0 (fun d1 a d2 s e hi => by
    simp only [List.nil_append] at e
    have hl : d1.length < n := by
      have := congrArg List.length e
      simp at this
      omega
    have ha : a = d1.length := by
      have h3 : (List.range n)[d1.length]? = some a := by rw [e]; simp
      rw [List.getElem?_range hl] at h3
      exact (Option.some.inj h3).symm
    subst ha
    simpa using h d1.length s hl hi)
  exact ⟨s', e, by simpa using hi⟩
end Z
namespace Z
open PySem PySem.Spec L2
/-! ## new lists, taken as one's own -/
theorem At.claim {K : PySem.W.Frag} {F O H F' H' : Hp} {σ : L2.St} {Γ : List Ent} {i : Nat} {p : Addr} {vs : List V} {xs : List D} (h : At K F O σ H Γ) (g : Grow F H F' H') (hp : H p = none) (fp : F' p = none) (hq : H' p = some (.lst vs)) (hz : vs.length ≤ sizeLine) (r : Reps K F' vs xs) :
    At K F' O (σ.set i (some (.ref p))) H' (Γ.set i (.ow .l none (.list xs))) := by
  have e : upd (lessP H' p) p (.lst vs) = H' := by
    funext a
    by_cases ea : a = p
    · subst ea; rw [upd_same, hq]
    · rw [upd_ne ea, lessP_ne ea]
  have l0 : lessP H' p p = none := by unfold lessP; rw [if_pos rfl]
  have g2 : Grow F H F' (lessP H' p) := ⟨g.f, fun a u ha => by rw [lessP_ne (ne_of_none ha hp)]; exact g.h a u ha, fun a u ha => by rw [lessP_ne (ne_of_none ha fp)]; exact g.s a u ha, g.n⟩
  have a2 := (h.grow g2).newOwn (i := i) l0 r hz
  rw [e] at a2
  exact a2
section
variable {X : Cx} {E : ME} {kk k : Nat} {N W G Sl : List Str} {sc scope : Scope} {Γ : List Ent} {a b c e tg elt : Expr} {es : List Expr} {x y : D} {pos p p1 p2 : Pos} {rest : List Stmt} {ma mb me : Option D}
variable {Nt L' R' : Type} {gN : Nt → List Ent} {gL : L' → List Ent} {gR : R' → List Ent} {vR : R' → D}
/-- name = e, e a new list -/
theorem bs_setF (L : LX X E kk N W G Sl sc) (i j : Nat) {n : Str} {p' : Pos} {k : D → Option (Ctl Nt L' R')} (hN : N[i]? = some n) (hT : Sl[j]? = some n) (he : EXF X Γ e me) (hr : ∀ x, BS X (Γ.set i (.ow .l none x)) rest (k x) gN gL gR vR)
    (hs : swapsWith e (some (.Name n p')) pos.line X.env = pure false := by rfl) : BS X Γ (.Assign [.Name n p'] e pos :: rest) (me.bind k) gN gL gR vR := by
  obtain ⟨h1, h2, h3⟩ := L.slot hN hT
  exact (pss_cons (ps_set L.nd h1 h2 he hs h3) (PSs.ex hr)).weak fun Dd σ H ⟨F, O, c, at_, e, q⟩ => by
    obtain ⟨x, e1, e⟩ := bind_some' e
    exact ⟨F, O, x, at_, e1, fun p vs xs F1 H1 ex g hp fp hq hz r => ⟨x, by subst ex; exact le_rest g.f (at_.claim g hp fp hq hz r) e q⟩⟩
theorem grow_put {F H F' H' : Hp} {p : Addr} {o : HO} (g : Grow F H F' H') (h : H' p = none) : Grow F H F' (upd H' p o) :=
  ⟨g.f, fun a u e => by rw [upd_ne (ne_of_none (g.h a u e) h)]; exact g.h a u e, fun a u e => by rw [upd_ne (ne_of_none e (g.s.none h))]; exact g.s a u e, g.n⟩
/-- two lists, one behind the other -/
def pCat : D → D → Option D
  | .list xs, .list ys => if xs.length + ys.length ≤ sizeLine then some (.list (xs ++ ys)) else none
  | _, _ => none
theorem pCat_some {x y z : D} (h : pCat x y = some z) : ∃ xs ys, x = .list xs ∧ y = .list ys ∧ xs.length + ys.length ≤ sizeLine ∧ z = .list (xs ++ ys) := by
  unfold pCat at h
  split at h
  · split at h
    · rename_i hz
      cases h
      exact ⟨_, _, rfl, rfl, hz, rfl⟩
    · cases h
  · cases h
theorem exf_cat (ha : EX X Γ a ma) (hb : EX X Γ b mb) : EXF X Γ (.BinOp a .Add b pos) (ma.bind fun x => mb.bind fun y => pCat x y) := by
  refine (pe_op op_cat ha hb).weak fun σ H Q ⟨F, O, z, at_, e, q⟩ => ?_
  obtain ⟨x, e1, e⟩ := bind_some' e
  obtain ⟨y, e2, e⟩ := bind_some' e
  obtain ⟨xs, ys, rfl, rfl, hz, rfl⟩ := pCat_some e
  refine ⟨F, O, _, at_, e1, fun v F1 H1 g1 r1 => ⟨F1, O, _, at_.grow g1, e2, fun w F2 H2 g2 r2 => ?_⟩⟩
  have r1 := r1.mono g2.f
  cases r1 with
  | @lst av vs _ hv r1 =>
    cases r2 with
    | @lst aw ws _ hw r2 =>
      refine ⟨av, aw, vs, ws, rfl, rfl, g2.s _ _ hv.1, g2.s _ _ hw.1, by rw [r1.length, r2.length]; exact hz, fun p hp => ?_⟩
      have g := g1.trans g2
      exact q p (vs ++ ws) _ F2 _ rfl (grow_put g hp) (g.h.none hp) (g.s.none hp) upd_same (by rw [List.length_append, r1.length, r2.length]; exact hz) (r1.append r2)
/-- list(e) -/
theorem exf_list (L : LX X E kk N W G Sl sc) (j : Nat) {n : Str} (hG : G[j]? = some n) (hm : Free E n) (hv : bootBuiltins n = some (.type "list")) (ha : AX X Γ (a :: es) (g1 pList) me)
    (he : starEach (a :: es) X.env = (false, eval a X.env) :: starEach es X.env := by rfl) (hpl : (backTo pos (starEach es X.env)).any (·.1) = false := by rfl) : EXF X Γ (.Call (.Name n p) (a :: es) [] pos) me := by
  obtain ⟨h1, h2⟩ := L.gl (List.mem_of_getElem? hG)
  obtain ⟨d1, d2, d3⟩ := dund1 h2
  refine (pe_callTy call_list_of h1 (hm.at L) hv ha d3 d1 he hpl).weak fun σ H Q ⟨F, O, z, at_, e, q⟩ => ⟨F, O, z, at_, e, fun vs xs F2 H2 g2 r2 _ ek => ?_⟩
  cases r2 with
  | nil => cases ek
  | cons r1 rr =>
    cases rr with
    | cons _ _ => cases ek
    | nil =>
      cases r1 with
      | lst h r =>
        cases ek
        exact ⟨_, _, rfl, .inl (.of (g2.s _ _ h.1)), fun l hl => q l _ _ F2 _ rfl (grow_put g2 hl) (g2.h.none hl) (g2.s.none hl) upd_same h.2 r⟩
      | tup h r =>
        cases ek
        exact ⟨_, _, rfl, .inr (le_t g2.s h.1.sq), fun l hl => q l _ _ F2 _ rfl (grow_put g2 hl) (g2.h.none hl) (g2.s.none hl) upd_same h.2 r⟩
      | _ => simp [g1, pList] at ek
end
end Z
namespace Z
open PySem PySem.Spec L2
section
variable {X : Cx} {E : ME} {kk k : Nat} {N W G Sl : List Str} {sc scope : Scope} {Γ : List Ent} {a b c e tg elt : Expr} {es : List Expr} {x y : D} {pos p p1 p2 pr : Pos} {rest : List Stmt} {ma mb me : Option D}
variable {Nt L' R' : Type} {gN : Nt → List Ent} {gL : L' → List Ent} {gR : R' → List Ent} {vR : R' → D} {T : Type} {S : T → List Ent} {t : T}
/-- with effects -/
def tXFe (K : PySem.W.Frag) (S : T → List Ent) (t : T) (m : Option (D × T)) : TE := fun σ H Q => ∃ F O r, At K F O σ H (S t) ∧ m = some r ∧ ∀ q vs xs F' H', r.1 = .list xs → Le F F' → At K F' O σ H' (S r.2) → H' q = none → vs.length ≤ sizeLine → Reps K F' vs xs → Q (.ref q) (upd H' q (.lst vs))
abbrev EXFe (X : Cx) (S : T → List Ent) (t : T) (e : Expr) (m : Option (D × T)) : Prop := PE X e (tXFe X.K S t m)
theorem bs_setFE {me : Option (D × T)} (L : LX X E kk N W G Sl sc) (i j : Nat) {n : Str} {p' : Pos} {k : D × T → Option (Ctl Nt L' R')} (hN : N[i]? = some n) (hT : Sl[j]? = some n) (he : EXFe X S t e me) (hr : ∀ r, BS X ((S r.2).set i (.ow .l none r.1)) rest (k r) gN gL gR vR)
    (hs : swapsWith e (some (.Name n p')) pos.line X.env = pure false := by rfl) : BS X (S t) (.Assign [.Name n p'] e pos :: rest) (me.bind k) gN gL gR vR := by
  obtain ⟨h1, h2, h3⟩ := L.slot hN hT
  exact (pss_cons (ps_set L.nd h1 h2 he hs h3) (PSs.ex hr)).weak fun Dd σ H ⟨F, O, c, at_, e, q⟩ => by
    obtain ⟨r, e1, e⟩ := bind_some' e
    exact ⟨F, O, r, at_, e1, fun p vs xs F1 H1 ex f1 a1 hp hz rr => ⟨r, by rw [ex]; exact le_rest f1 (a1.newOwn hp rr hz) e q⟩⟩
theorem exfe_cat {ma : Option (D × T)} {mb : D × T → Option (D × T)} (ha : EXe X S t a ma) (hb : ∀ r, EXe X S r.2 b (mb r)) : EXFe X S t (.BinOp a .Add b pos) (ma.bind fun r => (mb r).bind fun q => (pCat r.1 q.1).map fun z => (z, q.2)) := by
  have hB : PE X b (fun σ H Q => ∃ r, tXe X.K S r.2 (mb r) σ H Q) := ⟨fun p s σ H Q I ⟨r, q⟩ => (hb r).run p s σ H Q I q⟩
  refine (pe_op op_cat ha hB).weak fun σ H Q ⟨F, O, z, at_, e, q⟩ => ?_
  obtain ⟨r1, e1, e⟩ := bind_some' e
  obtain ⟨r2, e2, e⟩ := bind_some' e
  obtain ⟨z', e3, e4⟩ := Option.map_eq_some_iff.mp e
  subst e4
  obtain ⟨xs, ys, h1, h2, hz, rfl⟩ := pCat_some e3
  refine ⟨F, O, r1, at_, e1, fun v F1 H1 f1 a1 q1 => ⟨r1, F1, O, r2, a1, e2, fun w F2 H2 f2 a2 q2 => ?_⟩⟩
  rw [h1] at q1
  rw [h2] at q2
  have q1 := q1.mono f2
  cases q1 with
  | @lst av vs _ hv q1 =>
    cases q2 with
    | @lst aw ws _ hw q2 =>
      exact ⟨av, aw, vs, ws, rfl, rfl, a2.sub _ _ hv.1, a2.sub _ _ hw.1, by rw [q1.length, q2.length]; exact hz, fun p hp => q p (vs ++ ws) _ F2 H2 rfl (f1.trans f2) a2 hp (by rw [List.length_append, q1.length, q2.length]; exact hz) (q1.append q2)⟩
/-- list(range(n)), list(range(n, m)) -/
def rgOkB (a b : Int) : Bool := decide (-(2 ^ 62) ≤ a ∧ a < 2 ^ 62 ∧ -(2 ^ 62) ≤ b ∧ b < 2 ^ 62 ∧ (b - a).toNat ≤ 2 ^ 24)
def pLRg2 : D → D → Option D
  | .int a, .int b => if rgOkB a b = true then some (.list (rgU a (b - a).toNat)) else none
  | _, _ => none
def pLRg1 (x : D) : Option D := pLRg2 (.int 0) x
theorem reps_rg {K : PySem.W.Frag} {F : Hp} {a b : Int} : Reps K F (rgV a b) (rgU a (b - a).toNat) := by
  unfold rgV rgU
  induction List.range (b - a).toNat with
  | nil => exact .nil
  | cons i r ih => exact .cons (.int _) ih
theorem exf_lrg1 (L : LX X E kk N W G Sl sc) (j j' : Nat) (hG : G[j]? = some ("list" : Str)) (hm : Free E "list") (hG' : G[j']? = some ("range" : Str)) (hm' : Free E "range") (ha : EX X Γ a ma)
    (na : starEach [a] X.env = (false, eval a X.env) :: starEach [] X.env := by rfl) (nr : starEach [.Call (.Name "range" p) [a] [] pr] X.env = (false, eval (.Call (.Name "range" p) [a] [] pr) X.env) :: starEach [] X.env := by rfl) : EXF X Γ (.Call (.Name "list" p1) [.Call (.Name "range" p) [a] [] pr] [] pos) (ma.bind pLRg1) := by
  refine (pe_listRg L.calm (L.gl (List.mem_of_getElem? hG)).1 (hm.at L) (prg_1 (L.gl (List.mem_of_getElem? hG')).1 (hm'.at L) ha na) nr).weak fun σ H Q ⟨F, O, z, at_, e, q⟩ => ?_
  obtain ⟨x, e1, e⟩ := bind_some' e
  refine ⟨F, O, x, at_, e1, fun v F1 H1 g1 r1 => ?_⟩
  cases x <;> simp only [pLRg1, pLRg2, reduceCtorEq] at e
  rename_i n
  split at e
  · rename_i hz
    cases e
    cases r1
    have hz := of_decide_eq_true hz
    exact ⟨_, rfl, hz, fun l hl => q l _ _ F1 _ rfl (grow_put g1 hl) (g1.h.none hl) (g1.s.none hl) upd_same (by rw [rgV_length]; exact Nat.le_trans hz.2.2.2.2 (by decide)) reps_rg⟩
  · cases e
theorem exf_lrg2 (L : LX X E kk N W G Sl sc) (j j' : Nat) (hG : G[j]? = some ("list" : Str)) (hm : Free E "list") (hG' : G[j']? = some ("range" : Str)) (hm' : Free E "range") (ha : EX X Γ a ma) (hb : EX X Γ b mb)
    (na : starEach [a, b] X.env = (false, eval a X.env) :: starEach [b] X.env := by rfl) (nb : starEach [b] X.env = (false, eval b X.env) :: starEach [] X.env := by rfl) (hp : (backTo pr (starEach [b] X.env)).any (·.1) = false := by rfl) (nr : starEach [.Call (.Name "range" p) [a, b] [] pr] X.env = (false, eval (.Call (.Name "range" p) [a, b] [] pr) X.env) :: starEach [] X.env := by rfl) : EXF X Γ (.Call (.Name "list" p1) [.Call (.Name "range" p) [a, b] [] pr] [] pos) (ma.bind fun x => mb.bind fun y => pLRg2 x y) := by
  refine (pe_listRg L.calm (L.gl (List.mem_of_getElem? hG)).1 (hm.at L) (prg_2 (L.gl (List.mem_of_getElem? hG')).1 (hm'.at L) ha hb na nb hp) nr).weak fun σ H Q ⟨F, O, z, at_, e, q⟩ => ?_
  obtain ⟨x, e1, e⟩ := bind_some' e
  obtain ⟨y, e2, e⟩ := bind_some' e
  refine ⟨F, O, x, at_, e1, fun v F1 H1 g1 r1 => ⟨F1, O, y, at_.grow g1, e2, fun w F2 H2 g2 r2 => ?_⟩⟩
  cases x <;> cases y <;> simp only [pLRg2, reduceCtorEq] at e
  rename_i n m
  split at e
  · rename_i hz
    cases e
    cases r1
    cases r2
    have hz := of_decide_eq_true hz
    have g := g1.trans g2
    exact ⟨_, _, rfl, rfl, hz, fun l hl => q l _ _ F2 _ rfl (grow_put g hl) (g.h.none hl) (g.s.none hl) upd_same (by rw [rgV_length]; exact Nat.le_trans hz.2.2.2.2 (by decide)) reps_rg⟩
  · cases e
end
end Z
namespace Z
open PySem PySem.Spec L2
/-! ## max, min of two numbers -/
def pMax2 : D → D → Option D
  | .int i, .int j => some (.int (if j > i then j else i))
  | _, _ => none
def pMin2 : D → D → Option D
  | .int i, .int j => some (.int (if j < i then j else i))
  | _, _ => none
theorem rs_max2 {K : PySem.W.Frag} : RSn K (fun xs H Q => ∃ i j, xs = [.int i, .int j] ∧ Q (.int (if j > i then j else i)) H) (g2 pMax2) := by
  intro F H vs xs z Q s r e q
  match xs, r, e with
  | [x, y], .cons r1 (.cons r2 .nil), e =>
    cases r1 <;> cases r2 <;> simp only [g2, pMax2, reduceCtorEq, Option.some.injEq] at e
    subst e
    exact ⟨_, _, rfl, q _ F H (Grow.refl s) (.int _)⟩
theorem rs_min2 {K : PySem.W.Frag} : RSn K (fun xs H Q => ∃ i j, xs = [.int i, .int j] ∧ Q (.int (if j < i then j else i)) H) (g2 pMin2) := by
  intro F H vs xs z Q s r e q
  match xs, r, e with
  | [x, y], .cons r1 (.cons r2 .nil), e =>
    cases r1 <;> cases r2 <;> simp only [g2, pMin2, reduceCtorEq, Option.some.injEq] at e
    subst e
    exact ⟨_, _, rfl, q _ F H (Grow.refl s) (.int _)⟩
/-! ## pop at a place -/
theorem Reps.eraseIdx {K : PySem.W.Frag} {F : Hp} : ∀ {vs : List V} {ds : List D} (n : Nat), Reps K F vs ds → Reps K F (vs.eraseIdx n) (ds.eraseIdx n)
  | _, _, _, .nil => .nil
  | _, _, 0, .cons _ t => t
  | _, _, n + 1, .cons r t => .cons r (Reps.eraseIdx n t)
section
variable {X : Cx} {E : ME} {kk k : Nat} {N W G Sl : List Str} {sc scope : Scope} {Γ : List Ent} {a b c e tg elt : Expr} {es : List Expr} {x y : D} {pos p p1 p2 pr : Pos} {T : Type} {S : T → List Ent} {t : T}
theorem exe_popAt {mr : Option (D × T)} {ov : Option V} (L : LX X E kk N W G Sl sc) (iv jv : Nat) {nv : Str} (hN : N[iv]? = some nv) (hW : W[jv]? = some nv) (get : T → D) (put : T → D → T) (hg : ∀ t, (S t)[iv]? = some (.ow .l ov (get t))) (hp : ∀ t y, (S t).set iv (.ow .l ov y) = S (put t y))
    (ha : AXe X S t [e] (fun xs t' => (g1 (pPopAt (get t')) xs).map fun q => (q.1, put t' q.2)) mr)
    (hb : attributeBase (.Name nv p1) "pop" X.env (eval (.Name nv p1) X.env) = eval (.Name nv p1) X.env := by rfl)
    (hf : ((backTo p (starEach [e] X.env)).all (fun x => !x.1) && (backToKw p (keywordEach [] X.env)).all (fun x => x.1.isSome) && decide ([e].length + ([] : List Keyword).length + (if ([] : List Keyword).isEmpty then 0 else 1) < 30)) = true := by rfl)
    (hl : (p2.endLine == p.line) = true := by rfl) (hst : starEach [e] X.env = (false, eval e X.env) :: starEach [] X.env := by rfl) (hpn : (backTo p (starEach [] X.env)).any (·.1) = false := by rfl) :
    EXe X S t (.Call (.Attribute (.Name nv p1) "pop" p2) [e] [] p) mr := by
  refine (pe_bm PySem.F.plainAttrs_list PySem.F.slot_list_pop PySem.F.type_list_pop mt_popAt (own_var L iv jv hN hW) ha hb hf hl hst hpn).weak fun σ H Q ⟨F, O, z, at_, e, q⟩ => ?_
  obtain ⟨q0, vs, xs, h1, h2, h3, h4, h5, h6, h7, h8, h9, h10⟩ := at_.own (hg t)
  refine ⟨_, h1, .inl ⟨rfl, _, .of h4⟩, F, O, z, at_, e, fun us ys t' F1 H1 f1 a1 r1 _ ek => ?_⟩
  obtain ⟨q1, vs', xs', k1, k2, k3, k4, k5, k6, k7, k8, k9, k10⟩ := a1.own (hg t')
  rw [h1] at k1
  cases k1
  obtain ⟨qr, e3, e4⟩ := Option.map_eq_some_iff.mp ek
  subst e4
  rw [k3] at e3
  match ys, r1, e3 with
  | [yi], .cons ri .nil, e3 =>
    obtain ⟨i, hyi⟩ : ∃ i, yi = .int i := by cases yi <;> first | exact ⟨_, rfl⟩ | simp [g1, pPopAt] at e3
    subst hyi
    cases ri
    simp only [g1, pPopAt] at e3
    split at e3
    · rename_i hi
      obtain ⟨j, j1, j2⟩ := bind_some' e3
      obtain ⟨w, w1, w2⟩ := Option.map_eq_some_iff.mp j2
      subst w2
      obtain ⟨v, v1, v2⟩ := k6.get w1
      have a3 := k9 _ _ (k6.eraseIdx j) (Nat.le_trans (by rw [List.length_eraseIdx]; split <;> omega) k5)
      rw [hp] at a3
      exact ⟨_, vs', i, j, v, rfl, rfl, k4, hi.1, hi.2, by rw [k6.length]; exact j1, v1, q v F1 _ f1 a3 v2⟩
    · cases e3
end
end Z
namespace Z
open PySem PySem.Spec L2
/-! ## branches behind a test with effects: by the test's whole answer -/
section
variable {X : Cx} {a b c : Expr} {pos : Pos} {rest aa bb : List Stmt} {T : Type} {S : T → List Ent} {t : T}
variable {Nt L' R' : Type} {gN : Nt → List Ent} {gL : L' → List Ent} {gR : R' → List Ent} {vR : R' → D}
theorem ss_ifR {mc : Option (Bool × T)} {m1 m2 : Bool × T → Option (Ctl Nt L' R')} (hc : TXe X S t c mc) (ha : ∀ r, BS X (S r.2) aa (m1 r) gN gL gR vR) (hb : ∀ r, BS X (S r.2) bb (m2 r) gN gL gR vR) : SS X (S t) (.If c aa bb pos) (mc.bind fun r => if r.1 = true then m1 r else m2 r) gN gL gR vR := by
  have e : (fun r : Bool × T => if r.1 = true then m1 r else m2 r) = fun r => if r.1 = true then (fun t => m1 (true, t)) r.2 else (fun t => m2 (false, t)) r.2 := by funext ⟨k, u⟩; cases k <;> rfl
  rw [e]
  exact ss_ifE hc (fun t => ha (true, t)) (fun t => hb (false, t))
theorem bs_ifxR {Nt' : Type} {gN' : Nt' → List Ent} {mc : Option (Bool × T)} {m1 : Bool × T → Option (Ctl Nt' L' R')} {m2 : Bool × T → Option (Ctl Nt L' R')} (hc : TXe X S t c mc) (ha : ∀ r, BS X (S r.2) aa (m1 r) gN' gL gR vR) (hr : ∀ r, BS X (S r.2) rest (m2 r) gN gL gR vR) :
    BS X (S t) (.If c aa [] pos :: rest) (mc.bind fun r => if r.1 = true then Ctl.ex (m1 r) else m2 r) gN gL gR vR := by
  have e : (fun r : Bool × T => if r.1 = true then (Ctl.ex (m1 r) : Option (Ctl Nt L' R')) else m2 r) = fun r => if r.1 = true then Ctl.ex ((fun t => m1 (true, t)) r.2) else (fun t => m2 (false, t)) r.2 := by funext ⟨k, u⟩; cases k <;> rfl
  rw [e]
  exact bs_ifxE hc (fun t => ha (true, t)) (fun t => hr (false, t))
theorem exe_ifR {mc : Option (Bool × T)} {m1 m2 : Bool × T → Option (D × T)} (hc : TXe X S t c mc) (ha : ∀ r, EXe X S r.2 a (m1 r)) (hb : ∀ r, EXe X S r.2 b (m2 r)) : EXe X S t (.IfExp c a b pos) (mc.bind fun r => if r.1 = true then m1 r else m2 r) := by
  have e : (fun r : Bool × T => if r.1 = true then m1 r else m2 r) = fun r => if r.1 = true then (fun t => m1 (true, t)) r.2 else (fun t => m2 (false, t)) r.2 := by funext ⟨k, u⟩; cases k <;> rfl
  rw [e]
  exact exe_if hc (fun t => ha (true, t)) (fun t => hb (false, t))
theorem wxe_andR {rest : List Expr} {mc : Option (Bool × T)} {md : Bool × T → Option (Bool × T)} (ha : TXe X S t a mc) (hb : ∀ r, WXe X S r.2 (.BoolOp .And (b :: rest) pos) (md r)) : WXe X S t (.BoolOp .And (a :: b :: rest) pos) (mc.bind fun r => if r.1 = true then md r else some (false, r.2)) := by
  have e : (fun r : Bool × T => if r.1 = true then md r else some (false, r.2)) = fun r => if r.1 = true then (fun t => md (true, t)) r.2 else some (false, r.2) := by funext ⟨k, u⟩; cases k <;> rfl
  rw [e]
  exact wxe_and ha (fun t => hb (true, t))
theorem wxe_orR {rest : List Expr} {mc : Option (Bool × T)} {md : Bool × T → Option (Bool × T)} (ha : TXe X S t a mc) (hb : ∀ r, WXe X S r.2 (.BoolOp .Or (b :: rest) pos) (md r)) : WXe X S t (.BoolOp .Or (a :: b :: rest) pos) (mc.bind fun r => if r.1 = true then some (true, r.2) else md r) := by
  have e : (fun r : Bool × T => if r.1 = true then some (true, r.2) else md r) = fun r => if r.1 = true then some (true, r.2) else (fun t => md (false, t)) r.2 := by funext ⟨k, u⟩; cases k <;> rfl
  rw [e]
  exact wxe_or ha (fun t => hb (false, t))
end
end Z
namespace Z
open PySem PySem.Spec L2
section
variable {X : Cx} {E : ME} {kk : Nat} {N W G Sl : List Str} {sc : Scope} {Γ : List Ent} {pos p : Pos}
theorem gx_tup4 (L : LX X E kk N W G Sl sc) (i j i2 j2 i3 j3 i4 j4 : Nat) {n n2 n3 n4 : Str} {p2 p3 p4 : Pos} {k : Nat} (hN : N[i]? = some n) (hT : Sl[j]? = some n) (hN2 : N[i2]? = some n2) (hT2 : Sl[j2]? = some n2) (hN3 : N[i3]? = some n3) (hT3 : Sl[j3]? = some n3) (hN4 : N[i4]? = some n4) (hT4 : Sl[j4]? = some n4)
    (h1 : (assignEach [.Name n pos, .Name n2 p2, .Name n3 p3, .Name n4 p4] X.env).map (·.2) = assign (.Name n pos) X.env :: (assignEach [.Name n2 p2, .Name n3 p3, .Name n4 p4] X.env).map (·.2) := by rfl)
    (h2 : (assignEach [.Name n2 p2, .Name n3 p3, .Name n4 p4] X.env).map (·.2) = assign (.Name n2 p2) X.env :: (assignEach [.Name n3 p3, .Name n4 p4] X.env).map (·.2) := by rfl)
    (h3 : (assignEach [.Name n3 p3, .Name n4 p4] X.env).map (·.2) = assign (.Name n3 p3) X.env :: (assignEach [.Name n4 p4] X.env).map (·.2) := by rfl)
    (h4 : (assignEach [.Name n4 p4] X.env).map (·.2) = assign (.Name n4 p4) X.env :: (assignEach [] X.env).map (·.2) := by rfl)
    (h5 : (assignEach [.Name n pos, .Name n2 p2, .Name n3 p3, .Name n4 p4] X.env).length = 4 := by rfl) (h6 : (assignEach [.Name n pos, .Name n2 p2, .Name n3 p3, .Name n4 p4] X.env).findIdx? (·.1) = none := by rfl) :
    GX X Γ (.Tuple [.Name n pos, .Name n2 p2, .Name n3 p3, .Name n4 p4] k p) pUn4 (fun a => (((Γ.set i (.fz a.1)).set i2 (.fz a.2.1)).set i3 (.fz a.2.2.1)).set i4 (.fz a.2.2.2)) := by
  obtain ⟨a1, a2, a3⟩ := L.slot hN hT
  obtain ⟨b1, b2, b3⟩ := L.slot hN2 hT2
  obtain ⟨c1, c2, c3⟩ := L.slot hN3 hT3
  obtain ⟨d1, d2, d3⟩ := L.slot hN4 hT4
  refine (pg_tup L.calm (pgs_cons (pg_name L.nd a1 a2 a3) (pgs_cons (pg_name L.nd b1 b2 b3) (pgs_cons (pg_name L.nd c1 c2 c3) (pgs_cons (pg_name L.nd d1 d2 d3) pgs_nil h4) h3) h2) h1) h5 h6).weak fun v σ H Q ⟨F, O, x, a, at_, r, e, q⟩ => ?_
  have := pUn4_some e
  subst this
  cases r with
  | tup h r =>
    cases r with
    | cons r1 r => cases r with
      | cons r2 r => cases r with
        | cons r3 r => cases r with
          | cons r4 r => cases r; exact ⟨_, _, rfl, le_t at_.sub h.1.sq, rfl, _, _, rfl, _, _, rfl, _, _, rfl, _, _, rfl, rfl, q _ ((((at_.set r1).set r2).set r3).set r4)⟩
end
end Z
namespace Z
open PySem PySem.Spec L2 PyProof.Rows
/-! ## tuple * number -/
def rRepF (K : PySem.W.Frag) : R2 := fun x y H Q => ∃ l k xs, x = .ref l ∧ y = .int k ∧ SqT K H l xs ∧ xs ≠ [] ∧ 2 ≤ k ∧ k ≤ 1000 ∧ xs.length ≤ 1000 ∧ ∀ (o : Obj) p, o.dict = none → H p = none → Q (.ref p) (upd H p (.frz o (.tup (List.replicate k.toNat xs).flatten)))
section
variable {X : Cx}
theorem op_repF : OpR X (binaryOp .Mult) (rRepF X.K) := by
  intro pns s σ H x y v u Qv I rx ry h
  obtain ⟨l, k, xs, rfl, rfl, hT, hne, k1, k2, hxz, qf⟩ := h
  cases rx
  obtain ⟨tk, rfl⟩ := ry
  obtain ⟨tv, rv, ⟨⟨cl, dd, dat, slt⟩, ho, hcl, nn, hda⟩, hsx⟩ := I.tuple hT
  simp only at hcl hda
  subst hcl hda
  have e0 : tv.length = xs.length := rv.length.symm
  have n0 : tv ≠ [] := fun e => hne (by rw [e] at e0; exact List.eq_nil_of_length_eq_zero e0.symm)
  have i0 : tv.toArray.isEmpty = false := by cases tv with | nil => exact absurd rfl n0 | cons a b => rfl
  have s0 : tv.toArray.size = xs.length := by rw [List.size_toArray, e0]
  have m0 : ((tv.toArray.size : Nat) : Int) * k ≤ 1000000 := by
    rw [s0]
    have b1 : ((xs.length : Nat) : Int) * k ≤ 1000 * k := Int.mul_le_mul_of_nonneg_right (by omega) (by omega)
    omega
  have a1 : k.toNat * xs.length ≤ 1000 * 1000 := Nat.mul_le_mul (by omega) hxz
  have fl : (List.replicate k.toNat tv).flatten.length ≤ sizeLine := by rw [PyProof.Rows.lm_len_rep_flat, e0, sizeLine_eq]; omega
  have w0 : (decide (k < -(2 ^ 63)) || decide (k ≥ 2 ^ 63)) = false := by rw [decide_eq_false (by omega), decide_eq_false (by omega)]; rfl
  have w1 : (tv.toArray.isEmpty || k == 1) = false := by rw [i0, Bool.false_or]; exact beq_eq_false_iff_ne.mpr (by omega)
  have w2 : (decide (k ≤ 0) || tv.toArray.isEmpty) = false := by rw [i0, Bool.or_false]; exact decide_eq_false (by omega)
  have w4 : Builtin.Tuple.tupleTooMany (((tv.toArray.size : Nat) : Int) * k) = false := by unfold Builtin.Tuple.tupleTooMany; rw [sizeLine_eq]; exact decide_eq_false (by omega)
  refine wpAny_binaryOp_repeat_ref (T := "tuple") (U := "int") (by decide) ⟨_, ho, rfl⟩ (fun s' => typeIs_int s' k tk) noFill_tuple_mul F.fills_int_mul F.slot_int_rmul repeat_tuple F.slot_int_index.lookup (call_meets F.slot_int_rmul (typeIs_int s k tk) F.entry_int_rmul (F.args_int_rmul_2 _ _) (int_rmul_tuple k tk l tv.toArray nn dd slt) ⟨ho, rfl, ⟨_, ho, rfl⟩, call_meets F.slot_tuple_mul ⟨_, ho, rfl⟩ F.entry_tuple_mul (F.args_tuple_mul_2 _ _) (tuple_mulW l tv.toArray nn dd slt k tk w0 w1 w2 (by omega) w4 (by rw [size_rep, List.size_toArray]; exact fl)) ⟨ho, ?_⟩⟩)
  rw [size_rep]
  exact ⟨.ref s.heap.objs.size, _, I.laid (t' := s.toks) (fun b ob q => Heap.get?_push_of_some _ q) (Nat.le_refl _) (tupF_ok (by rw [PyProof.Rows.lm_len_rep_flat, sizeLine_eq]; omega) (rv.rep k.toNat)), rfl, qf _ _ rfl (I.hok.fresh (Nat.le_refl _))⟩
end
def pMulD : D → D → Option D
  | .int i, .int j => pMul (.int i) (.int j)
  | .tuple xs, .int k => if xs ≠ [] ∧ 2 ≤ k ∧ k ≤ 1000 ∧ xs.length ≤ 1000 then some (.tuple (List.replicate k.toNat xs).flatten) else none
  | _, _ => none
theorem Reps.rep {K : PySem.W.Frag} {F : Hp} {vs : List V} {ds : List D} (r : Reps K F vs ds) : ∀ n : Nat, Reps K F (List.replicate n vs).flatten (List.replicate n ds).flatten
  | 0 => .nil
  | n + 1 => by
    rw [List.replicate_succ, List.replicate_succ, List.flatten_cons, List.flatten_cons]
    exact r.append (Reps.rep r n)
theorem op_mulD {X : Cx} : OpR X (binaryOp .Mult) (fun x y H Q => (rI CMulX fun i j => .int (i * j)) x y H Q ∨ rRepF X.K x y H Q) := opr_or op_mulX op_repF
theorem rs_mulD {K : PySem.W.Frag} : RS2 K (fun x y H Q => (rI CMulX fun i j => .int (i * j)) x y H Q ∨ rRepF K x y H Q) pMulD := by
  intro F H v u x y z Q s rx ry e q
  cases ry with
  | int k =>
    cases rx with
    | int i => exact .inl (rs_mul F H _ _ (.int i) (.int k) z Q s (.int i) (.int k) e q)
    | @tup a vs ds h r =>
      simp only [pMulD] at e
      split at e
      · rename_i hk
        cases e
        have hl := r.length
        refine .inr ⟨a, k, vs, rfl, rfl, le_t s h.1.sq, fun e => hk.1 (by rw [e] at hl; exact List.eq_nil_of_length_eq_zero hl.symm), hk.2.1, hk.2.2.1, by omega, fun o p ho hp => ?_⟩
        obtain ⟨g, r'⟩ := grow_tup ho s hp (by rw [PyProof.Rows.lm_len_rep_flat]; have a1 : k.toNat * vs.length ≤ 1000 * 1000 := Nat.mul_le_mul (by omega) (by omega); exact Nat.le_trans a1 (by decide)) (r.rep k.toNat)
        exact q _ _ _ g r'
      · cases e
    | _ => simp [pMulD] at e
  | _ => cases x <;> simp [pMulD] at e
end Z
namespace Z
open PySem PySem.Spec L2 PyProof.Rows
/-! ## enumerate(tuple) -/
set_option maxHeartbeats 1000000 in
theorem meets_enumT (a : Addr) (tv : Array Value) :
    Meets (Builtin.«enumerate.__new__» ⟨[.type "enumerate", .ref a], []⟩) (fun _ R s => s.heap.IsTuple a tv ∧
      R (.ok (.ret (.ref (s.heap.push { cls := .type "tuple_iterator", data := .fields #[.ref a, .int 0 0] }).objs.size))) { s with heap := (s.heap.push { cls := .type "tuple_iterator", data := .fields #[.ref a, .int 0 0] }).push { cls := .type "enumerate", data := .fields #[.none, .bool false, .ref s.heap.objs.size, rawInt 0, .none, .none] } }) :=
  .of_wp fun prg wd A R s h => by
    obtain ⟨hp, g, d, tk, os⟩ := s
    obtain ⟨h1, h⟩ := h
    have hsb := sub_enumerate
    have qt : ∀ {A' : Around} {Ex : Value → Shared → Prop} {Qv : Value → Shared → Prop}, Qv (.ref hp.objs.size) ⟨hp.push { cls := .type "tuple_iterator", data := .fields #[.ref a, .int 0 0] }, g, d, tk, os⟩ → wpAny (model prg wd) A' (pyIter (.ref a)) Qv Ex ⟨hp, g, d, tk, os⟩ := fun q => (begins_tuple a tv).iter prg wd _ _ ⟨hp, g, d, tk, os⟩ _ h1 q
    wp_walk using qt
    refine wpAny_stack_any fun st => wpAny_pure ?_
    split
    · rename_i c _ _ _ _ _
      cases (c == Value.type "enumerate")
      · wp_walk using qt
        exact ⟨_, rfl, h⟩
      · wp_walk using qt
        exact ⟨_, rfl, h⟩
    · wp_walk using qt
      exact ⟨_, rfl, h⟩
end Z
namespace Z
open PySem PySem.Spec L2 PyProof.Rows
section
variable {prg : Program} {wd : World} {A : Around} {Ex : Value → Shared → Prop} {s : Shared}
theorem call_enumT {a : Addr} {tv : Array Value} {Qv : Value → Shared → Prop} (hT : s.heap.IsTuple a tv)
    (h : ∀ h', IsEnum h' (s.heap.objs.size + 1) s.heap.objs.size 0 .none → h'.IsTupleIter s.heap.objs.size a 0 → h'.objs.size = s.heap.objs.size + 2 → (∀ b o, s.heap.get? b = some o → h'.get? b = some o) → Qv (.ref (s.heap.objs.size + 1)) { s with heap := h' }) :
    wpAny (model prg wd) A (call (.type "enumerate") [.ref a]) Qv Ex s := by
  refine callType_new F.called_enumerate (by decide) (F.typeCall_enumerate_1 _) (F.newCall_enumerate_1 _) (fun obj => F.args_object_init_2 obj _) F.entry_enumerate_new (meets_enumT a tv) ⟨hT, ?_⟩
  have z1 : (s.heap.push { cls := .type "tuple_iterator", data := .fields #[.ref a, .int 0 0] }).objs.size = s.heap.objs.size + 1 := Heap.size_push ..
  show _ ∧ _
  rw [z1]
  have z2 : IsEnum ((s.heap.push { cls := .type "tuple_iterator", data := .fields #[.ref a, .int 0 0] }).push { cls := .type "enumerate", data := .fields #[.none, .bool false, .ref s.heap.objs.size, rawInt 0, .none, .none] }) (s.heap.objs.size + 1) s.heap.objs.size 0 .none := by
    have y := Heap.get?_push_size (s.heap.push { cls := .type "tuple_iterator", data := .fields #[.ref a, .int 0 0] }) (o := { cls := .type "enumerate", data := .fields #[.none, .bool false, .ref s.heap.objs.size, rawInt 0, .none, .none] }) rfl
    rw [z1] at y; exact y
  exact ⟨⟨_, z2, rfl⟩, h _ z2 ⟨_, Heap.get?_push_of_some _ (Heap.get?_push_size _ rfl), rfl, rfl⟩ (by rw [Heap.size_push, z1]) fun b o x => Heap.get?_push_of_some _ (Heap.get?_push_of_some _ x)⟩
end
/-- a tuple gone through, each item in a new pair with its number -/
def IteT (K : PySem.W.Frag) (a : Addr) : It :=
  ⟨fun i H => ∃ (xs : List V) (x : V), SqT K H a xs ∧ xs[i]? = some x, fun i H v H' => ∃ T x, v = .ref T ∧ H T = none ∧ H' = upd H T (.tup [.int (i : Nat), x]) ∧ ∀ xs, SqT K H a xs → xs[i]? = some x, fun i H => ∃ xs : List V, SqT K H a xs ∧ xs.length = i⟩
end Z
namespace Z
open PySem PySem.Spec L2 PyProof.Rows
theorem turn_enumT {P : Program} {w : World} {K : PySem.W.Frag} {elts : List Expr} {kk : Nat} {tpos : Pos} (a e it : Addr) :
    Turn P w K (.Tuple elts kk tpos) (IteT K a) [e, it] e (fun i h => (∃ old, IsEnum h e it ((i : Nat) : Int) old) ∧ h.IsTupleIter it a i ∧ e ≠ it ∧ e ≠ a ∧ a ≠ it) where
  mem := by simp
  obj := fun i h st b hb => by
    obtain ⟨⟨ol, h1⟩, ⟨ob, h2, h3, h4⟩, _⟩ := st
    rcases (show b = e ∨ b = it by simpa using hb) with z | z
    · rw [z]; exact ⟨_, h1, fun v q => nomatch q⟩
    · rw [z]; exact ⟨ob, h2, fun v q => by rw [h4] at q; cases q⟩
  keep := fun i h h' st k => let ⟨⟨ol, h1⟩, h2, h3⟩ := st; ⟨⟨ol, k e (by simp) _ h1⟩, h2.at fun o q => k it (by simp) o q, h3⟩
  item := by
    intro X hP hw hK hc i pns s σ H Ex I hf st hg
    subst hP hw hK
    obtain ⟨⟨ol, h1⟩, h2, n1, n2, n3⟩ := st
    obtain ⟨xs, x, h3, h4⟩ := hg
    obtain ⟨tv, rv, pt, hz⟩ := I.tuple h3
    have le : e < s.heap.objs.size := Heap.lt_size h1
    have li : it < s.heap.objs.size := by obtain ⟨_, q, _⟩ := h2; exact Heap.lt_size q
    have hl := rv.length
    have hix : i < xs.length := (List.getElem?_eq_some_iff.mp h4).1
    refine wpAny_pyNext_enum_itemD (Draws.tuple (A := X.A.in1) (I.ok.hd hc) it a n3 tv.toArray) h1 ⟨h2, pt⟩ (by simp; omega) n1 (by simp; exact ⟨n1, n2⟩) fun u h' tk hu ho hst hT hsz hk => ?_
    refine ⟨_, rfl, wpAny_letOwnedTupleGo_enum (s := { s with heap := h', toks := tk + 1 }) ho fun h2' he' sb => ?_⟩
    obtain ⟨u', hu', ru⟩ := rv.get h4
    have euu : u = u' := by
      have : tv.toArray[i]? = some u := hu
      rw [List.getElem?_toArray] at this
      rw [this] at hu'
      exact Option.some.inj hu'
    subst euu
    have hT2 : h2'.get? s.heap.objs.size = some { cls := .type "tuple", data := .seq #[.int i tk, u] } := (sb.2 _ (Nat.ne_of_gt le)).trans hT
    have nw : ObjOk X.prog X.w (upd H s.heap.objs.size (.tup [.int (i : Nat), x])) h2' s.heap.objs.size (.tup [.int (i : Nat), x]) := ⟨by show 2 ≤ sizeLine; decide, [.int i tk, u], .cons ⟨_, rfl⟩ (.cons ru .nil), ⟨_, hT2, rfl, _, rfl⟩⟩
    have I1 : Inv X pns σ (upd H s.heap.objs.size (.tup [.int (i : Nat), x])) { s with heap := h2', toks := tk + 1 } :=
      I.turnedNew (ch := [e, it]) (fun b ob hb q => (sb.2 b (fun z => hb (by simp [z]))).trans (hk b ob (fun z => hb (by simp [z])) (fun z => hb (by simp [z])) q)) hf (Nat.le_refl _) nw
    refine ⟨.ref s.heap.objs.size, _, I1, rfl, ⟨_, x, rfl, I.hok.fresh (Nat.le_refl _), rfl, fun ys hy => by rw [I.tuple_inj hy h3]; exact h4⟩, ⟨⟨u, ?_⟩, hst.1.at fun o q => (sb.2 it (Ne.symm n1)).trans q, n1, n2, n3⟩, fun b hb => ?_⟩
    · have e1 : ((i + 1 : Nat) : Int) = (i : Int) + 1 := by omega
      rw [e1]; exact he'
    · have hb' : b < s.heap.objs.size := by
        rcases (show b = e ∨ b = it by simpa using hb) with z | z
        · rw [z]; exact le
        · rw [z]; exact li
      rw [upd_ne (Nat.ne_of_lt hb')]
      exact (hf b hb).1
  done := by
    intro X hP hw hK hc i pns s σ H Ex I hf st hg
    subst hP hw hK
    obtain ⟨⟨ol, h1⟩, h2, n1, n2, n3⟩ := st
    obtain ⟨xs, h3, h4⟩ := hg
    obtain ⟨tv, rv, pt, hz⟩ := I.tuple h3
    have hl := rv.length
    obtain ⟨f0, f1, f2, f3, f4, f5⟩ := hf it (by simp)
    have ei : i = tv.toArray.size := by rw [List.size_toArray]; omega
    subst ei
    exact wpAny_pyNext_enum_endD (Draws.tuple (A := X.A.in1) (I.ok.hd hc) it a n3 tv.toArray) h1 ⟨h2, pt⟩ fun h' eb => ⟨rfl, I.turned (t' := s.toks) (fun b o hb q => eb b o hb q) f0 f1 f3 f4 f5⟩
  self := fun A i s Q Ex st h => let ⟨⟨_, h1⟩, _⟩ := st; wpAny_pyIter_enum h1 h
end Z
namespace Z
open PySem PySem.Spec L2 PyProof.Rows
def iEnumT (K : PySem.W.Frag) (ta : TA) : TI := fun σ H R => ta σ H fun vs H1 => ∃ a xs, vs = [.ref a] ∧ SqT K H1 a xs ∧ R (IteT K a) H1
theorem pi_enumT {X : Cx} {e : Expr} {ta : TA} {p pos tpos : Pos} {elts : List Expr} {kk : Nat} (hg : Gl X "enumerate") (hm : X.mg "enumerate" = none) (ha : PA X [e] ta) (hs : starEach [e] X.env = [(false, eval e X.env)]) :
    PI X (.Tuple elts kk tpos) (.Call (.Name "enumerate" p) [e] [] pos) (iEnumT X.K ta) := by
  refine ⟨fun pns s σ H R I h => ?_⟩
  refine Call_ (ld_blt I hg hm boot_enumerate (PyProof.Rows.callWith_type1 (thn (ha.run pos pns s σ H _ I h) fun uv s1 ⟨vs, H1, I1, r1, q1⟩ => ?_) hs rfl))
  obtain ⟨a, xs, ex, hsq, q⟩ := q1
  subst ex
  cases r1 with
  | cons r rr =>
    cases rr
    cases r
    obtain ⟨tv, rv, pt, hz⟩ := I1.tuple hsq
    have la : a < s1.heap.objs.size := by obtain ⟨_, q, _⟩ := pt; exact Heap.lt_size q
    refine call_enumT pt fun h' he hit hsz hk => wpAny_pyIter_enum he ?_
    have I2 : Inv X pns σ H1 { s1 with heap := h' } := I1.kept (t' := s1.toks) hk
    refine ⟨s1.heap.objs.size + 1, [s1.heap.objs.size + 1, s1.heap.objs.size], _, _, H1, rfl, I2, turn_enumT a (s1.heap.objs.size + 1) s1.heap.objs.size, ⟨⟨.none, he⟩, hit, Nat.succ_ne_self _, Nat.ne_of_gt (Nat.lt_succ_of_lt la), Nat.ne_of_lt la⟩, fun b hb => ?_, q⟩
    have le : s1.heap.objs.size ≤ b := by
      rcases (show b = s1.heap.objs.size + 1 ∨ b = s1.heap.objs.size by simpa using hb) with z | z
      · rw [z]; exact Nat.le_add_right _ _
      · rw [z]; exact Nat.le_refl _
    exact I1.fpOk le (I1.hok.fresh le)
def enumD (xs : List D) : List D := xs.mapIdx fun i x => .tuple [.int (i : Nat), x]
def pEnum : D → Option (List D)
  | .tuple xs => some (enumD xs)
  | _ => none
theorem itd_enumT {K : PySem.W.Frag} {F : Hp} {q : Addr} {vs : List V} {xs : List D} (h : Tp K F q vs ∧ vs.length ≤ sizeLine) (r : Reps K F vs xs) : ItD K F (IteT K q) (enumD xs) where
  go := fun i F' H f s hi => by
    have hi : i < vs.length := by rw [r.length]; simpa [enumD] using hi
    exact ⟨vs, vs[i], le_t s (le_t f h.1.sq), by simp [hi]⟩
  yld := fun i F' H v H' f s hy x hx => by
    obtain ⟨T, w, rfl, hT, rfl, hall⟩ := hy
    have h3 := hall vs (le_t s (le_t f h.1.sq))
    obtain ⟨d, hd, rd⟩ := (r.mono f).getV h3
    have hx' : x = .tuple [.int (i : Nat), d] := by
      simp only [enumD, List.getElem?_mapIdx, hd, Option.map_some, Option.some.injEq] at hx
      exact hx.symm
    subst hx'
    refine ⟨upd F' T (.tup [.int (i : Nat), w]), Grow.new s hT, .tup ⟨.inr (.inl ⟨upd_same, rfl⟩), by show 2 ≤ sizeLine; decide⟩ (.cons (.int _) (.cons (rd.mono (Le.new (s.none hT))) .nil))⟩
  stop := fun F' H f s => ⟨vs, le_t s (le_t f h.1.sq), by rw [r.length]; simp [enumD]⟩
  len := by simpa [enumD, ← r.length] using h.2
section
variable {X : Cx} {E : ME} {kk k : Nat} {N W G Sl : List Str} {sc : Scope} {Γ : List Ent} {a : Expr} {elts : List Expr} {pos p tpos : Pos} {ma : Option D}
theorem xi_enum (L : LX X E kk N W G Sl sc) (j : Nat) (hG : G[j]? = some ("enumerate" : Str)) (hm : Free E "enumerate") (ha : EX X Γ a ma) (hs : starEach [a] X.env = [(false, eval a X.env)] := by rfl) (he : starEach [a] X.env = (false, eval a X.env) :: starEach [] X.env := by rfl) : XI X Γ (.Tuple elts k tpos) (.Call (.Name "enumerate" p) [a] [] pos) (ma.bind pEnum) :=
  (pi_enumT (L.gl (List.mem_of_getElem? hG)).1 (hm.at L) (pa_cons ha pa_nil he) hs).weak fun σ H R ⟨F, O, xs, at_, e, q⟩ => by
    obtain ⟨x, e1, e⟩ := bind_some' e
    refine ⟨F, O, x, at_, e1, fun v F1 H1 g1 r1 => ?_⟩
    cases r1 with
    | tup h r =>
      cases e
      exact ⟨_, _, rfl, le_t g1.s h.1.sq, q F1 H1 _ g1 (itd_enumT h r)⟩
    | _ => cases e
end
end Z
namespace Z
open PySem PySem.Spec L2 PySem.W PyProof.Rows
/-! ## sorted, of alike data -/
theorem zip_snd {vs : List V} {ds : List D} (h : vs.length = ds.length) : (vs.zip ds).map Prod.snd = ds := List.map_snd_zip (by omega)
theorem each_rel : ∀ {vs : List V} {tv : List Value} {ds : List D}, Vals vs tv → vs.length = ds.length → EachIs (fun v (b : V × D) => RelV b.1 v) tv (vs.zip ds)
  | _, _, [], .nil, _ => .nil
  | _, _, d :: ds, .cons r t, h => .cons r (each_rel t (by simpa using h))
  | _, _, _ :: _, .nil, h => by simp at h
  | _, _, [], .cons _ _, h => by simp at h
theorem each_reads {X : Cx} {pns : List (Addr × Obj)} {σ : L2.St} {H : Hp} {s : Shared} (I : Inv X pns σ H s) : ∀ {vs : List V} {tv : List Value} {ds : List D}, Vals vs tv → DpAll X.K H vs ds → EachIs (fun v (b : V × D) => ∃ as, Reads s.heap v b.2 as) tv (vs.zip ds)
  | _, _, _, .nil, .nil => .nil
  | _, _, _, .cons r t, .cons d e => .cons (Dp.reads I _ _ _ d r) (each_reads I t e)
theorem dpAll_len {K : PySem.W.Frag} {H : Hp} : ∀ {vs : List V} {ds : List D}, DpAll K H vs ds → vs.length = ds.length
  | _, _, .nil => rfl
  | _, _, .cons _ t => congrArg (· + 1) (dpAll_len t)
theorem vals_of_each : ∀ {tv : List Value} {bs : List (V × D)}, EachIs (fun v (b : V × D) => RelV b.1 v) tv bs → Vals (bs.map (·.1)) tv
  | _, _, .nil => .nil
  | _, _, .cons r t => .cons r (vals_of_each t)
def srt (vs : List V) (ds : List D) : List (V × D) := (vs.zip ds).mergeSort (dataLe false Prod.snd)
theorem cr_sortedD {X : Cx} (hu : X.A.units + 200 < cLine) : CallR X (.builtin "sorted") (fun xs H Q => ∃ a vs ds, xs = [.ref a] ∧ SqL X.K H a vs ∧ DpAll X.K H vs ds ∧ AllAlike ds ∧ Sortable ds ∧ (∀ d ∈ ds, d.depth ≤ 100) ∧ ∀ p, H p = none → Q (.ref p) (upd H p (.lst ((srt vs ds).map (·.1))))) := by
  intro pns s σ H us uv Qv I r h
  obtain ⟨a, vs, ds, rfl, hsq, hd, hal, hso, hdp, q⟩ := h
  obtain ⟨tv, rv, hl, hz⟩ := I.list hsq
  rw [Vals.ref1 r]
  have hlen := dpAll_len hd
  have hzs := zip_snd hlen
  refine sorted_data (enc := Prod.snd) (bs := vs.zip ds) hl.isList (each_rel rv hlen) (each_reads I rv hd) (by rw [hzs]; exact hal) (by rw [hzs]; exact hso) (by rw [List.length_zip, ← hlen, Nat.min_self]; exact hz) (fun b hb => ?_) fun out ho eo => ?_
  · have := hdp b.2 (by rw [← hzs]; exact List.mem_map_of_mem hb)
    omega
  · obtain ⟨ep, he'⟩ := PyProof.Rows.sortedAll_at s.heap tv out.toArray
    have hv : Vals ((srt vs ds).map (·.1)) out := vals_of_each eo
    have hsz : ((srt vs ds).map (·.1)).length ≤ sizeLine := by
      rw [hv.length, ho, List.length_zip, ← hlen, Nat.min_self]; exact hz
    exact ⟨.ref _, upd H (s.heap.objs.size + 1) (.lst ((srt vs ds).map (·.1))), I.laid (t' := s.toks) (fun _ _ => PyProof.Rows.sortedAll_old) (Nat.le_succ _) ⟨hsz, out, ep, hv, he'⟩, rfl, q _ (I.hok.fresh (Nat.le_succ _))⟩
theorem reps_zip {K : PySem.W.Frag} {F : Hp} : ∀ {vs : List V} {ds : List D}, Reps K F vs ds → ∀ b ∈ vs.zip ds, Rep K F b.1 b.2
  | _, _, .nil, b, h => by simp at h
  | _, _, .cons r t, b, h => by
    rcases List.mem_cons.mp (show b ∈ (_, _) :: List.zip _ _ from h) with h | h
    · rw [h]; exact r
    · exact reps_zip t b h
theorem reps_of {K : PySem.W.Frag} {F : Hp} : ∀ (bs : List (V × D)), (∀ b ∈ bs, Rep K F b.1 b.2) → Reps K F (bs.map (·.1)) (bs.map (·.2))
  | [], _ => .nil
  | b :: bs, h => .cons (h b List.mem_cons_self) (reps_of bs fun c hc => h c (List.mem_cons_of_mem _ hc))
def alikeB (ds : List D) : Bool := ds.all fun d => ds.all fun e => alike d e
def sortB (ds : List D) : Bool := (ds.all fun d => match d with | .tuple (_ :: _) => true | _ => false) || ds.all fun d => match d with | .none => false | .tuple _ => false | _ => true
def pSorted : D → Option D
  | .list ds => if alikeB ds = true ∧ sortB ds = true ∧ (ds.all fun d => decide (d.depth ≤ 100)) = true then some (.list (ds.mergeSort (dataLe false id))) else none
  | _ => none
theorem alikeB_ok {ds : List D} (h : alikeB ds = true) : AllAlike ds := fun d hd e he => List.all_eq_true.mp (List.all_eq_true.mp h d hd) e he
theorem sortB_ok {ds : List D} (h : sortB ds = true) : Sortable ds := by
  unfold sortB at h
  rcases Bool.or_eq_true_iff.mp h with h | h
  · refine .inl fun d hd => ?_
    have := List.all_eq_true.mp h d hd
    split at this
    · exact ⟨_, _, rfl⟩
    · cases this
  · refine .inr fun d hd => ?_
    have := List.all_eq_true.mp h d hd
    split at this
    · cases this
    · cases this
    · rename_i h1 h2
      exact ⟨h1, fun xs e => h2 xs e⟩
theorem srt_snd {vs : List V} {ds : List D} (h : vs.length = ds.length) : (srt vs ds).map (·.2) = ds.mergeSort (dataLe false id) := by
  unfold srt
  have := List.map_mergeSort (r := dataLe false (Prod.snd : V × D → D)) (s := dataLe false (id : D → D)) (f := Prod.snd) (l := vs.zip ds) (fun a _ b _ => rfl)
  rw [zip_snd h] at this
  exact this
theorem rs_sorted {K : PySem.W.Frag} : RSn K (fun xs H Q => ∃ a vs ds, xs = [.ref a] ∧ SqL K H a vs ∧ DpAll K H vs ds ∧ AllAlike ds ∧ Sortable ds ∧ (∀ d ∈ ds, d.depth ≤ 100) ∧ ∀ p, H p = none → Q (.ref p) (upd H p (.lst ((srt vs ds).map (·.1))))) (g1 pSorted) := by
  intro F H vs xs z Q s r e q
  match xs, r, e with
  | [x], .cons r1 .nil, e =>
    cases r1 with
    | @lst a ws ds h r =>
      simp only [g1, pSorted] at e
      split at e
      · rename_i hc
        cases e
        refine ⟨a, ws, ds, rfl, .inl (.inl (s _ _ h.1)), Reps.dp (r.mono s), alikeB_ok hc.1, sortB_ok hc.2.1, fun d hd => of_decide_eq_true (List.all_eq_true.mp hc.2.2 d hd), fun p hp => ?_⟩
        have r2 := reps_of (srt ws ds) fun b hb => reps_zip r b ((List.mergeSort_perm _ _).mem_iff.mp hb)
        rw [srt_snd r.length] at r2
        obtain ⟨g, r3⟩ := grow_lst s hp (by rw [r2.length, List.length_mergeSort, ← r.length]; exact h.2) r2
        exact q _ _ _ g r3
      · cases e
    | _ => simp [g1, pSorted] at e
end Z
namespace Z
open PySem PySem.Spec L2
/-! ## what the end shows of a def, in one -/
def DF (K : PySem.W.Frag) (n qual : Str) (st : Stmt) : Prop := ∃ (f : Addr) (oc kV dc pm cd ct : Value) (od an : Option Addr) (sl : Array (Option Value)), PySem.W.nsIn K mainGlobals n = some (some (.ref f)) ∧ K.lookup f = some ⟨oc, od, .func (PySem.W.fnOf n qual (defArgs st) (defBody st) (defScope st) .none kV dc pm an cd ct), sl⟩ ∧ PySem.W.codeIn K cd qual = true ∧ PySem.W.keepIn K (.ref f) = true
theorem df_mk {K : PySem.W.Frag} {n qual : Str} {st : Stmt} {f : Addr} {oc kV dc pm cd ct : Value} {od an : Option Addr} {sl : Array (Option Value)} (a : PySem.W.nsIn K mainGlobals n = some (some (.ref f))) (l : K.lookup f = some ⟨oc, od, .func (PySem.W.fnOf n qual (defArgs st) (defBody st) (defScope st) .none kV dc pm an cd ct), sl⟩) (c : PySem.W.codeIn K cd qual = true) (k : PySem.W.keepIn K (.ref f) = true) : DF K n qual st := ⟨f, oc, kV, dc, pm, cd, ct, od, an, sl, a, l, c, k⟩
theorem df_at {E : ME} {h : Heap} (X : E.K.In h) (G : h.Ns mainGlobals E.mg) {n qual : Str} {st : Stmt} {ps : List Str}
    (hb : ∀ (kV doc pm : Value) (an : Option Addr) (cdv ct : Value) (us : List Value), us.length = ps.length → bindArgs (PySem.W.fnOf n qual (defArgs st) (defBody st) (defScope st) .none kV doc pm an cdv ct) ⟨us, []⟩ = pure (ps.zip us))
    (d : DF E.K n qual st) : DefAt E n qual st ps := by
  obtain ⟨f, oc, kV, dc, pm, cd, ct, od, an, sl, a, l, c, k⟩ := d
  exact def_at X G hb a l c k
def GI (K : PySem.W.Frag) (n : Str) (i : Int) : Prop := ∃ t, PySem.W.nsIn K mainGlobals n = some (some (.int i t))
def GS (K : PySem.W.Frag) (n s : Str) : Prop := ∃ t, PySem.W.nsIn K mainGlobals n = some (some (.str s t))
theorem gi_mk {K : PySem.W.Frag} {n : Str} {i : Int} {t} (h : PySem.W.nsIn K mainGlobals n = some (some (.int i t))) : GI K n i := ⟨t, h⟩
theorem gs_mk {K : PySem.W.Frag} {n s : Str} {t} (h : PySem.W.nsIn K mainGlobals n = some (some (.str s t))) : GS K n s := ⟨t, h⟩
theorem gi_at {E : ME} {h : Heap} (X : E.K.In h) (G : h.Ns mainGlobals E.mg) {n : Str} {i : Int} (d : GI E.K n i) : GConst E n (.int i) := by
  obtain ⟨t, z⟩ := d
  exact gc_int X G z
theorem gs_at {E : ME} {h : Heap} (X : E.K.In h) (G : h.Ns mainGlobals E.mg) {n s : Str} (d : GS E.K n s) : GConst E n (.str s) := by
  obtain ⟨t, z⟩ := d
  exact gc_str X G z
end Z
namespace Z
open PySem PySem.Spec L2
/-! ## texts, by their signs -/
def st (l : List Nat) : Str := ⟨l.toArray⟩
theorem st_cps (l : List Nat) : (st l).cps.toList = l := rfl
theorem st_len (l : List Nat) : (st l).length = l.length := rfl
theorem st_eta (s : Str) : st s.cps.toList = s := rfl
theorem st_inj {a b : List Nat} : st a = st b ↔ a = b := ⟨fun h => by have := congrArg (fun s : Str => s.cps.toList) h; exact this, fun h => by rw [h]⟩
theorem st_app (a b : List Nat) : st a ++ st b = st (a ++ b) := by
  show (⟨a.toArray ++ b.toArray⟩ : Str) = ⟨(a ++ b).toArray⟩
  simp
theorem small_size {n : Nat} (h : n ≤ 100000) : n ≤ sizeLine := Nat.le_trans h (by decide)
theorem pAdd_st {a b : List Nat} (h : a.length + b.length ≤ 100000) : pAdd (.str (st a)) (.str (st b)) = some (.str (st (a ++ b))) := by
  rw [pAdd, if_pos (show (st a).length + (st b).length ≤ sizeLine from small_size h), st_app]
theorem pIdx_s {s : Str} {k c : Nat} (hl : s.length ≤ 100000) (h : s.cps.toList[k]? = some c) : pIdx (.str s) (.int (k : Int)) = some (.str (st [c])) := by
  rw [pIdx, if_pos (small_size hl), atI_nn (Int.natCast_nonneg k) (by simpa using h)]
  rfl
theorem inStr_one (c : Nat) (j : Str) : inStr (st [c]) j = decide (c ∈ j.cps.toList) := StrLaws.found_one j c
theorem pIn_one (c : Nat) (j : Str) : pIn (.str (st [c])) (.str j) = some (.bool (decide (c ∈ j.cps.toList))) := by
  rw [← inStr_one]; rfl
theorem pNotIn_one (c : Nat) (j : Str) : pNotIn (.str (st [c])) (.str j) = some (.bool (!decide (c ∈ j.cps.toList))) := by
  rw [← inStr_one]; rfl
theorem pLen_s (s : Str) : pLen (.str s) = if s.length ≤ sizeLine then some (.int s.length) else none := rfl
theorem pLen_st {l : List Nat} (h : l.length ≤ 100000) : pLen (.str (st l)) = some (.int l.length) := by
  rw [pLen_s, if_pos (show (st l).length ≤ sizeLine from small_size h)]; rfl
theorem pSl_st {l : List Nat} {k : Nat} (h : l.length ≤ 100000) : pSl (.str (st l)) none (some (k : Int)) = some (.str (st (l.take k))) := by
  show (if (st l).length ≤ sizeLine then some (PyData.str (cutS (st l) none (some (k : Int)))) else none) = _
  rw [if_pos (show (st l).length ≤ sizeLine from small_size h)]
  refine congrArg (fun s => some (PyData.str s)) ?_
  show st _ = st _
  refine st_inj.mpr ?_
  simp only [HT.sIx_none, HT.sIx_nat, Nat.sub_zero, List.drop_zero, st_cps, st_len]
  by_cases q : k ≤ l.length
  · rw [Nat.min_eq_left q]
  · rw [Nat.min_eq_right (by omega), List.take_length, List.take_of_length_le (by omega)]
theorem pIter_st {l : List Nat} (h : l.length ≤ 100000) : pIter (.str (st l)) = some (l.map fun c => .str (st [c])) := by
  show (if (st l).length ≤ sizeLine then _ else _) = _
  rw [if_pos (show (st l).length ≤ sizeLine from small_size h)]
  rfl
/-! ## encodings that equality tells apart -/
class Enc (A : Type) where
  d : A → D
  inj : ∀ a b, PyData.eqv (d a) (d b) = true ↔ a = b
instance : Enc Str := ⟨.str, fun a b => by rw [dEqv_str, decide_eq_true_eq]⟩
instance : Enc Int := ⟨.int, fun a b => by rw [dEqv_int, decide_eq_true_eq]⟩
instance : Enc Nat := ⟨fun n => .int (n : Int), fun a b => by rw [dEqv_int, decide_eq_true_eq]; omega⟩
instance : Enc Bool := ⟨.bool, fun a b => by rw [dEqv_bool, decide_eq_true_eq]⟩
section
variable {A B C : Type} [Enc A] [Enc B] [Enc C]
theorem Enc.eqv [DecidableEq A] (a b : A) : PyData.eqv (Enc.d a) (Enc.d b) = decide (a = b) := by
  rw [Bool.eq_iff_iff, Enc.inj, decide_eq_true_eq]
theorem eqvAll_enc : ∀ (xs ys : List A), PyData.eqvAll (xs.map Enc.d) (ys.map Enc.d) = true ↔ xs = ys
  | [], [] => by simp [PyData.eqvAll]
  | [], y :: ys => by simp [PyData.eqvAll]
  | x :: xs, [] => by simp [PyData.eqvAll]
  | x :: xs, y :: ys => by
    simp only [List.map_cons, PyData.eqvAll, Bool.and_eq_true, Enc.inj, eqvAll_enc xs ys, List.cons.injEq]
theorem depthAll_enc {n : Nat} : ∀ (xs : List A), (∀ a ∈ xs, (Enc.d a).depth ≤ n) → PyData.depthAll (xs.map Enc.d) ≤ n
  | [], _ => by simp [PyData.depthAll]
  | x :: xs, h => by
    simp only [List.map_cons, PyData.depthAll]
    have h1 := h x List.mem_cons_self
    have h2 := depthAll_enc xs fun a ha => h a (List.mem_cons_of_mem _ ha)
    omega
instance : Enc (A × B) := ⟨fun p => .tuple [Enc.d p.1, Enc.d p.2], fun a b => by
  simp only [PyData.eqv, PyData.eqvAll, Bool.and_true, Bool.and_eq_true, Enc.inj, Prod.ext_iff]⟩
theorem pEq_enc [DecidableEq A] {a b : A} (h : (Enc.d a).depth ≤ 100) : pEq (Enc.d a) (Enc.d b) = some (.bool (decide (a = b))) := by
  rw [pEq, if_pos (dOk_of h), Enc.eqv]
theorem pNe_enc [DecidableEq A] {a b : A} (h : (Enc.d a).depth ≤ 100) : pNe (Enc.d a) (Enc.d b) = some (.bool (!decide (a = b))) := by
  rw [pNe, if_pos (dOk_of h), Enc.eqv]
theorem any_enc [DecidableEq A] (a : A) : ∀ xs : List A, ((xs.map Enc.d).any fun z => PyData.eqv z (Enc.d a)) = decide (a ∈ xs)
  | [] => by simp
  | x :: xs => by
    rw [List.map_cons, List.any_cons, any_enc a xs, Enc.eqv]
    by_cases h : x = a
    · subst h; simp
    · have : ¬ a = x := fun e => h e.symm
      simp [h, this]
theorem pIn_l [DecidableEq A] {a : A} {xs : List A} (h : (Enc.d a).depth ≤ 100) : pIn (Enc.d a) (.list (xs.map Enc.d)) = some (.bool (decide (a ∈ xs))) := by
  rw [← any_enc]
  generalize Enc.d a = x at h ⊢
  cases x <;> rw [pIn, if_pos (dOk_of h)]
theorem pNotIn_l [DecidableEq A] {a : A} {xs : List A} (h : (Enc.d a).depth ≤ 100) : pNotIn (Enc.d a) (.list (xs.map Enc.d)) = some (.bool (!decide (a ∈ xs))) := by
  rw [← any_enc]
  generalize Enc.d a = x at h ⊢
  cases x <;> rw [pNotIn, if_pos (dOk_of h)]
theorem pIn_t [DecidableEq A] {a : A} {xs : List A} (h : (Enc.d a).depth ≤ 100) : pIn (Enc.d a) (.tuple (xs.map Enc.d)) = some (.bool (decide (a ∈ xs))) := by
  rw [← any_enc]
  generalize Enc.d a = x at h ⊢
  cases x <;> rw [pIn, if_pos (dOk_of h)]
theorem pNotIn_t [DecidableEq A] {a : A} {xs : List A} (h : (Enc.d a).depth ≤ 100) : pNotIn (Enc.d a) (.tuple (xs.map Enc.d)) = some (.bool (!decide (a ∈ xs))) := by
  rw [← any_enc]
  generalize Enc.d a = x at h ⊢
  cases x <;> rw [pNotIn, if_pos (dOk_of h)]
end
/-! ## lists that are walked -/
theorem pIter_l (xs : List D) : pIter (.list xs) = some xs := rfl
theorem pIter_t (xs : List D) : pIter (.tuple xs) = some xs := rfl
theorem pApp_l {xs : List D} {x : D} (h : xs.length ≤ 100000) : pApp (.list xs) x = some (.list (xs ++ [x])) := by
  have b : 100001 ≤ sizeLine := by decide
  show (if xs.length < sizeLine then some (PyData.list (xs ++ [x])) else none) = _
  rw [if_pos (by omega)]
theorem dBools_map : ∀ bs : List Bool, dBools (bs.map .bool) = some bs
  | [] => rfl
  | b :: bs => by simp only [List.map_cons, dBools, dBools_map bs, Option.map_some]
theorem pAll_bools (bs : List Bool) : pAll (.list (bs.map .bool)) = some (.bool (bs.all id)) := by simp only [pAll, dBools_map, Option.map_some]
theorem pAny_bools (bs : List Bool) : pAny (.list (bs.map .bool)) = some (.bool (bs.any id)) := by simp only [pAny, dBools_map, Option.map_some]
/-- all(..) of a comprehension -/
theorem all_lc {A : Type} {enc : A → D} {f : D → Option D} {g : A → Bool} {xs : List A} (h : ∀ a ∈ xs, f (enc a) = some (.bool (g a))) : ((lcM f (xs.map enc)).map PyData.list).bind pAll = some (.bool (xs.all g)) := by
  rw [lcM_map (g := fun a => .bool (g a)) h, Option.map_some, Option.bind_some]
  have : xs.map (fun a => PyData.bool (g a)) = (xs.map g).map .bool := by rw [List.map_map]; rfl
  rw [this, pAll_bools, List.all_map]
  rfl
theorem any_lc {A : Type} {enc : A → D} {f : D → Option D} {g : A → Bool} {xs : List A} (h : ∀ a ∈ xs, f (enc a) = some (.bool (g a))) : ((lcM f (xs.map enc)).map PyData.list).bind pAny = some (.bool (xs.any g)) := by
  rw [lcM_map (g := fun a => .bool (g a)) h, Option.map_some, Option.bind_some]
  have : xs.map (fun a => PyData.bool (g a)) = (xs.map g).map .bool := by rw [List.map_map]; rfl
  rw [this, pAny_bools, List.any_map]
  rfl
theorem pRg_nat {n : Nat} (h : n ≤ 100000) : pRg1 (.int (n : Int)) = some ((List.range n).map fun i : Nat => PyData.int (i : Int)) := by rw [pRg1_ok h, rgU_map]
/-! ## places -/
theorem pIdx_ln {xs : List D} {k : Nat} {x : D} (h : xs[k]? = some x) : pIdx (.list xs) (.int (k : Int)) = some x := pIdx_l (Int.natCast_nonneg k) (by simpa using h)
theorem pIdx_tn {xs : List D} {k : Nat} {x : D} (h : xs[k]? = some x) : pIdx (.tuple xs) (.int (k : Int)) = some x := pIdx_t (Int.natCast_nonneg k) (by simpa using h)
section
variable (a b c d e : D)
theorem t10 : pIdx (.tuple [a]) (.int 0) = some a := rfl
theorem t20 : pIdx (.tuple [a, b]) (.int 0) = some a := rfl
theorem t21 : pIdx (.tuple [a, b]) (.int 1) = some b := rfl
theorem t30 : pIdx (.tuple [a, b, c]) (.int 0) = some a := rfl
theorem t31 : pIdx (.tuple [a, b, c]) (.int 1) = some b := rfl
theorem t32 : pIdx (.tuple [a, b, c]) (.int 2) = some c := rfl
theorem t40 : pIdx (.tuple [a, b, c, d]) (.int 0) = some a := rfl
theorem t41 : pIdx (.tuple [a, b, c, d]) (.int 1) = some b := rfl
theorem t42 : pIdx (.tuple [a, b, c, d]) (.int 2) = some c := rfl
theorem t43 : pIdx (.tuple [a, b, c, d]) (.int 3) = some d := rfl
theorem t50 : pIdx (.tuple [a, b, c, d, e]) (.int 0) = some a := rfl
theorem t51 : pIdx (.tuple [a, b, c, d, e]) (.int 1) = some b := rfl
theorem t52 : pIdx (.tuple [a, b, c, d, e]) (.int 2) = some c := rfl
theorem t53 : pIdx (.tuple [a, b, c, d, e]) (.int 3) = some d := rfl
theorem t54 : pIdx (.tuple [a, b, c, d, e]) (.int 4) = some e := rfl
theorem un2 : pUn2 (.tuple [a, b]) = some (a, b) := rfl
theorem un3 : pUn3 (.tuple [a, b, c]) = some (a, b, c) := rfl
theorem un4 : pUn4 (.tuple [a, b, c, d]) = some (a, b, c, d) := rfl
end
theorem pOpt_int (i : Int) : pOpt (.int i) = some (some i) := rfl
theorem pTuple_l (xs : List D) : pTuple (.list xs) = some (.tuple xs) := rfl
theorem pList_t (xs : List D) : pList (.tuple xs) = some (.list xs) := rfl
theorem pList_l (xs : List D) : pList (.list xs) = some (.list xs) := rfl
theorem pAdd_tt {xs ys : List D} (h : xs.length + ys.length ≤ 100000) : pAdd (.tuple xs) (.tuple ys) = some (.tuple (xs ++ ys)) := by rw [pAdd, if_pos (small_size h)]
theorem pAdd_ll {xs ys : List D} (h : xs.length + ys.length ≤ 100000) : pAdd (.list xs) (.list ys) = some (.list (xs ++ ys)) := by rw [pAdd, if_pos (small_size h)]
theorem pCat_ll {xs ys : List D} (h : xs.length + ys.length ≤ 100000) : pCat (.list xs) (.list ys) = some (.list (xs ++ ys)) := by rw [pCat, if_pos (small_size h)]
theorem pExt_ll {xs ys : List D} (h : xs.length + ys.length ≤ 100000) : pExt (.list xs) (.list ys) = some (.list (xs ++ ys)) := by rw [pExt, if_pos (small_size h)]
theorem sl_tt {xs : List D} {k : Nat} : pSl (.tuple xs) none (some (k : Int)) = some (.tuple (xs.take k)) := by
  show some (PyData.tuple _) = _
  refine congrArg (fun l => some (PyData.tuple l)) ?_
  simp only [cutD, HT.sIx_none, HT.sIx_nat, Nat.sub_zero, List.drop_zero]
  by_cases q : k ≤ xs.length
  · rw [Nat.min_eq_left q]
  · rw [Nat.min_eq_right (by omega), List.take_length, List.take_of_length_le (by omega)]
theorem sl_td {xs : List D} {k : Nat} : pSl (.tuple xs) (some (k : Int)) none = some (.tuple (xs.drop k)) := by
  show some (PyData.tuple _) = _
  refine congrArg (fun l => some (PyData.tuple l)) ?_
  simp only [cutD, HT.sIx_none, HT.sIx_nat]
  by_cases q : k ≤ xs.length
  · rw [Nat.min_eq_left q, List.take_of_length_le (by simp)]
  · rw [Nat.min_eq_right (by omega), List.drop_length, List.drop_of_length_le (by omega)]; simp
theorem sl_lt {xs : List D} {k : Nat} : pSl (.list xs) none (some (k : Int)) = some (.list (xs.take k)) := by
  show some (PyData.list _) = _
  refine congrArg (fun l => some (PyData.list l)) ?_
  simp only [cutD, HT.sIx_none, HT.sIx_nat, Nat.sub_zero, List.drop_zero]
  by_cases q : k ≤ xs.length
  · rw [Nat.min_eq_left q]
  · rw [Nat.min_eq_right (by omega), List.take_length, List.take_of_length_le (by omega)]
theorem sl_ld {xs : List D} {k : Nat} : pSl (.list xs) (some (k : Int)) none = some (.list (xs.drop k)) := by
  show some (PyData.list _) = _
  refine congrArg (fun l => some (PyData.list l)) ?_
  simp only [cutD, HT.sIx_none, HT.sIx_nat]
  by_cases q : k ≤ xs.length
  · rw [Nat.min_eq_left q, List.take_of_length_le (by simp)]
  · rw [Nat.min_eq_right (by omega), List.drop_length, List.drop_of_length_le (by omega)]; simp
theorem popAt_l {xs : List D} {k : Nat} {x : D} (h : xs[k]? = some x) (hl : xs.length ≤ 100000) : pPopAt (.list xs) (.int (k : Int)) = some (x, .list (xs.eraseIdx k)) := by
  have hk := (List.getElem?_eq_some_iff.mp h).1
  have e : seqIndex? (k : Int) xs.length = some k := by
    unfold seqIndex?
    simp only [Int.natCast_nonneg, if_true]
    simp [hk]
    try omega
  have hk2 : -(2 ^ 63) ≤ (k : Int) ∧ (k : Int) < 2 ^ 63 := by omega
  simp only [pPopAt]
  rw [if_pos hk2, e]
  simp only [Option.bind_some, h, Option.map_some]
theorem l_hd (x : D) (xs : List D) : pIdx (.list (x :: xs)) (.int 0) = some x := pIdx_ln (k := 0) rfl
theorem t_hd (x : D) (xs : List D) : pIdx (.tuple (x :: xs)) (.int 0) = some x := pIdx_tn (k := 0) rfl
end Z
namespace Z
open PySem PySem.Spec L2
/-! ## the world, typed -/
inductive Part where
  | num
  | wrd
  | txt (s : Str)
  | sym (s : Str)
  deriving DecidableEq
namespace Part
def d : Part → D
  | num => .tuple [S "kind", S "number"]
  | wrd => .tuple [S "kind", S "word"]
  | txt s => .tuple [S "text", .str s]
  | sym s => .tuple [S "symbol", .str s]
def isSym : Part → Bool
  | sym _ => true
  | _ => false
end Part
theorem str_ne {a b : String} (h : Str.ofString a ≠ Str.ofString b) : (Str.ofString a == Str.ofString b) = false := by simp [h]
theorem part_inj (a b : Part) : PyData.eqv a.d b.d = true ↔ a = b := by
  have n1 : Str.ofString "kind" ≠ Str.ofString "text" := by decide
  have n2 : Str.ofString "kind" ≠ Str.ofString "symbol" := by decide
  have n3 : Str.ofString "text" ≠ Str.ofString "symbol" := by decide
  have n4 : Str.ofString "number" ≠ Str.ofString "word" := by decide
  cases a <;> cases b <;> simp [Part.d, PyData.eqv, PyData.eqvAll, n1, n2, n3, n4, n1.symm, n2.symm, n3.symm, n4.symm]
instance : Enc Part := ⟨Part.d, part_inj⟩
inductive Dem where
  | glued (p : Nat)
  | same (p q : Nat)
  | right (p q : Nat)
  | row (p q : Nat)
  deriving DecidableEq
namespace Dem
def d : Dem → D
  | glued p => .tuple [S "glued", .int (p : Int)]
  | same p q => .tuple [S "same", .int (p : Int), .int (q : Int)]
  | right p q => .tuple [S "right", .int (p : Int), .int (q : Int)]
  | row p q => .tuple [S "row", .int (p : Int), .int (q : Int)]
def ok (m : Nat) : Dem → Prop
  | glued p => p < m
  | same p q | right p q | row p q => p < m ∧ q < m ∧ p ≠ q
end Dem
theorem dem_inj (a b : Dem) : PyData.eqv a.d b.d = true ↔ a = b := by
  have n1 : Str.ofString "glued" ≠ Str.ofString "same" := by decide
  have n2 : Str.ofString "glued" ≠ Str.ofString "right" := by decide
  have n3 : Str.ofString "glued" ≠ Str.ofString "row" := by decide
  have n4 : Str.ofString "same" ≠ Str.ofString "right" := by decide
  have n5 : Str.ofString "same" ≠ Str.ofString "row" := by decide
  have n6 : Str.ofString "right" ≠ Str.ofString "row" := by decide
  cases a <;> cases b <;> simp [Dem.d, PyData.eqv, PyData.eqvAll, n1, n2, n3, n4, n5, n6, n1.symm, n2.symm, n3.symm, n4.symm, n5.symm, n6.symm] <;> omega
instance : Enc Dem := ⟨Dem.d, dem_inj⟩
instance : Enc Dg := ⟨Dg.d, fun a b => by rw [Dg.eqv, decide_eq_true_eq]⟩
def tup {A : Type} [Enc A] (xs : List A) : D := .tuple (xs.map Enc.d)
structure Rule where
  l : Str
  ps : List Part
  dg : Dg
  ds : List Dem
  deriving DecidableEq
namespace Rule
def d (r : Rule) : D := .tuple [.str r.l, .tuple (r.ps.map Part.d), r.dg.d, .tuple (r.ds.map Dem.d)]
end Rule
structure Bar where
  r : Nat
  p : Nat
  b : Nat
  dg : Dg
  deriving DecidableEq
namespace Bar
def d (b : Bar) : D := .tuple [.int (b.r : Int), .int (b.p : Int), .int (b.b : Int), b.dg.d]
def key (b : Bar) : Nat × Nat × Nat := (b.r, b.p, b.b)
end Bar
structure Gram where
  st : Str
  rs : List Rule
  bs : List Bar
  deriving DecidableEq
namespace Gram
def d (g : Gram) : D := .tuple [.str g.st, .tuple (g.rs.map Rule.d), .tuple (g.bs.map Bar.d)]
end Gram
structure Tok where
  k : Str
  t : Str
  row : Nat
  col : Nat
  gl : Bool
  deriving DecidableEq
namespace Tok
def d (t : Tok) : D := .tuple [.str t.k, .str t.t, .int (t.row : Int), .int (t.col : Int), .bool t.gl]
end Tok
abbrev Fd := Tok × Dg
def Fd.d (f : Fd) : D := .tuple [f.1.d, f.2.d]
def dFold (f : List Fd) : D := .list (f.map Fd.d)
theorem part_dep (p : Part) : p.d.depth ≤ 3 := by cases p <;> simp [Part.d, PyData.depth, PyData.depthAll]
theorem dem_dep (p : Dem) : p.d.depth ≤ 3 := by cases p <;> simp [Dem.d, PyData.depth, PyData.depthAll]
/-! ## what is drawn -/
/-- a sign behind the first of a drawn symbol -/
def inSym : List Nat := [97, 98, 99, 100, 101, 102, 103, 88, 89, 90, 120, 121, 122, 119]
def SymOk (s : Str) : Prop := ∃ c r, s = Z.st (c :: r) ∧ 65 ≤ c ∧ c ≤ 90 ∧ (∀ x ∈ r, x ∈ inSym) ∧ r.length ≤ 5
def texts : List Str := ["+", "(", ")", "-", ";", "if", "number", "a", "word"].map Str.ofString
def Part.ok (ss : List Str) : Part → Prop
  | .num | .wrd => True
  | .txt s => s ∈ texts ∨ s ∈ ss
  | .sym s => s ∈ ss
def DgOk (n : Nat) (x : Dg) : Prop := Dg.wf 0 n x = true ∧ x ≠ .leaf false
structure RuleOk (n : Nat) (ss : List Str) (r : Rule) : Prop where
  l : r.l ∈ ss
  len : 1 ≤ r.ps.length ∧ r.ps.length ≤ 3
  ps : ∀ p ∈ r.ps, p.ok ss
  dg : DgOk n r.dg
  ds : ∀ x ∈ r.ds, x.ok r.ps.length
  nd : r.ds.Nodup
  dl : r.ds.length ≤ 4
  /-- a symbol alone stands behind the left in the list of symbols -/
  unit : ∀ s, r.ps = [.sym s] → ∃ i j : Nat, ss[i]? = some r.l ∧ ss[j]? = some s ∧ i < j
def lt3 (a b : Nat × Nat × Nat) : Prop := a.1 < b.1 ∨ (a.1 = b.1 ∧ (a.2.1 < b.2.1 ∨ (a.2.1 = b.2.1 ∧ a.2.2 < b.2.2)))
instance (a b : Nat × Nat × Nat) : Decidable (lt3 a b) := inferInstanceAs (Decidable (_ ∨ _))
structure BarOk (n : Nat) (rs : List Rule) (b : Bar) : Prop where
  at_ : ∃ r q, rs[b.r]? = some r ∧ rs[b.b]? = some q ∧ r.ps[b.p]? = some (.sym q.l)
  dg : DgOk n b.dg
structure GramOk (n : Nat) (ss : List Str) (g : Gram) : Prop where
  nn : 1 ≤ n ∧ n ≤ 5
  sl : 1 ≤ ss.length ∧ ss.length ≤ 4
  sn : ss.Nodup
  so : ∀ s ∈ ss, SymOk s
  st : g.st ∈ ss
  rl : 1 ≤ g.rs.length ∧ g.rs.length ≤ 12
  rs : ∀ r ∈ g.rs, RuleOk n ss r
  /-- each symbol has a rule that is one part, no symbol -/
  base : ∀ s ∈ ss, ∃ r ∈ g.rs, r.l = s ∧ ∃ p, r.ps = [p] ∧ p.isSym = false
  bl : g.bs.length ≤ 12
  bs : ∀ b ∈ g.bs, BarOk n g.rs b
  bsort : g.bs.Pairwise fun a b => lt3 a.key b.key
structure FoldOk (n : Nat) (most : Nat) (f : List Fd) : Prop where
  len : f.length ≤ most
  ne : 1 ≤ f.length
  dg : ∀ x ∈ f, DgOk n x.2
  t : ∀ x ∈ f, x.1.t.length ≤ 8
end Z
namespace Z
open PySem PySem.Spec L2 PySem.W
/-! ## order of data, place by place -/
theorem dataLt_cons {x y : D} {xs ys : List D} (h : PySem.W.alike x y = true) : PySem.W.dataLt (.tuple (x :: xs)) (.tuple (y :: ys)) = if PyData.eqv x y = true then PySem.W.dataLt (.tuple xs) (.tuple ys) else PySem.W.dataLt x y := by
  rw [dataLt_tuple, dataLt_tuple]
  by_cases e : PyData.eqv x y = true
  · rw [if_pos e, dataLt_all_yes h e]
  · rw [if_neg e, dataLt_all_no h (by simpa using e)]
theorem dataLt_nil : PySem.W.dataLt (.tuple []) (.tuple []) = false := by rw [dataLt_tuple]; exact PyProof.Rows.lex_irrefl _
theorem dataLt_nil_cons (y : D) (ys : List D) : PySem.W.dataLt (.tuple []) (.tuple (y :: ys)) = true := by
  rw [dataLt_tuple]
  simp only [keyToksAll, PyProof.Rows.lexLt, PyProof.Rows.itemLt]
  rfl
theorem dataLt_cons_nil (x : D) (xs : List D) : PySem.W.dataLt (.tuple (x :: xs)) (.tuple []) = false := by
  rw [dataLt_tuple]
  simp only [keyToksAll, PyProof.Rows.lexLt, PyProof.Rows.itemLt]
  rfl
def kd (k : Nat × Nat × Nat) : D := .tuple [.int (k.1 : Int), .int (k.2.1 : Int), .int (k.2.2 : Int)]
theorem kd_inj (a b : Nat × Nat × Nat) : PyData.eqv (kd a) (kd b) = true ↔ a = b := by
  simp only [kd, PyData.eqv, PyData.eqvAll, Bool.and_true, Bool.and_eq_true, Prod.ext_iff]
  simp
  try omega
structure K3 where
  k : Nat × Nat × Nat
  deriving DecidableEq
instance : Enc K3 := ⟨fun a => kd a.k, fun a b => by rw [kd_inj]; cases a; cases b; simp⟩
theorem kd_alike (a b : Nat × Nat × Nat) : PySem.W.alike (kd a) (kd b) = true := rfl
theorem kd_depth (a : Nat × Nat × Nat) : (kd a).depth ≤ 100 := by simp [kd, PyData.depth, PyData.depthAll]
theorem kd_lt (a b : Nat × Nat × Nat) : PySem.W.dataLt (kd a) (kd b) = decide (lt3 a b) := by
  unfold kd
  rw [dataLt_cons rfl, dataLt_cons rfl, dataLt_cons rfl]
  simp only [dEqv_int, PySem.W.dataLt_int, decide_eq_true_eq, dataLt_nil]
  obtain ⟨a1, a2, a3⟩ := a
  obtain ⟨b1, b2, b3⟩ := b
  have L : ∀ p : Bool, (p = true ↔ (a1 < b1 ∨ (a1 = b1 ∧ (a2 < b2 ∨ (a2 = b2 ∧ a3 < b3))))) → p = decide (lt3 (a1, a2, a3) (b1, b2, b3)) := fun p h => by
    rw [Bool.eq_iff_iff, decide_eq_true_eq]; exact h
  refine L _ ?_
  dsimp only
  by_cases h1 : (a1 : Int) = b1
  · rw [if_pos h1]
    by_cases h2 : (a2 : Int) = b2
    · rw [if_pos h2]
      by_cases h3 : (a3 : Int) = b3
      · rw [if_pos h3]; simp; omega
      · rw [if_neg h3, decide_eq_true_eq]; omega
    · rw [if_neg h2, decide_eq_true_eq]; omega
  · rw [if_neg h1, decide_eq_true_eq]; omega
def le3 (a b : Nat × Nat × Nat) : Bool := !decide (lt3 b a)
theorem le3_trans (a b c : Nat × Nat × Nat) (h1 : le3 a b = true) (h2 : le3 b c = true) : le3 a c = true := by
  simp only [le3, Bool.not_eq_true', decide_eq_false_iff_not] at *
  simp only [lt3] at *
  omega
theorem le3_total (a b : Nat × Nat × Nat) : (le3 a b || le3 b a) = true := by
  simp only [le3, Bool.or_eq_true, Bool.not_eq_true', decide_eq_false_iff_not]
  simp only [lt3]
  omega
theorem lt3_of {a b : Nat × Nat × Nat} (h : le3 a b = true) (n : a ≠ b) : lt3 a b := by
  obtain ⟨a1, a2, a3⟩ := a
  obtain ⟨b1, b2, b3⟩ := b
  simp only [le3, Bool.not_eq_true', decide_eq_false_iff_not, ne_eq, Prod.mk.injEq] at *
  simp only [lt3] at *
  omega
/-- sorted, of typed data: the typed order -/
theorem sorted_enc {A : Type} {enc : A → D} {le : A → A → Bool} {xs : List A} (ha : ∀ a ∈ xs, ∀ b ∈ xs, PySem.W.alike (enc a) (enc b) = true) (hs : (∀ a ∈ xs, ∃ y ys, enc a = .tuple (y :: ys)) ∨ ∀ a ∈ xs, sortB [enc a] = true ∧ ∀ ys, enc a ≠ .tuple ys) (hd : ∀ a ∈ xs, (enc a).depth ≤ 100) (hle : ∀ a ∈ xs, ∀ b ∈ xs, le a b = !PySem.W.dataLt (enc b) (enc a)) : pSorted (.list (xs.map enc)) = some (.list ((xs.mergeSort le).map enc)) := by
  have h1 : alikeB (xs.map enc) = true := by
    unfold alikeB
    rw [List.all_eq_true]
    intro d hd'
    obtain ⟨a, ha', rfl⟩ := List.mem_map.mp hd'
    rw [List.all_eq_true]
    intro e he
    obtain ⟨b, hb', rfl⟩ := List.mem_map.mp he
    exact ha a ha' b hb'
  have h2 : sortB (xs.map enc) = true := by
    unfold sortB
    rw [Bool.or_eq_true]
    rcases hs with hs | hs
    · left
      rw [List.all_eq_true]
      intro d hd'
      obtain ⟨a, ha', rfl⟩ := List.mem_map.mp hd'
      obtain ⟨y, ys, e⟩ := hs a ha'
      rw [e]
    · right
      rw [List.all_eq_true]
      intro d hd'
      obtain ⟨a, ha', rfl⟩ := List.mem_map.mp hd'
      obtain ⟨q1, q2⟩ := hs a ha'
      generalize enc a = x at q1 q2
      cases x with
      | tuple ys => exact absurd rfl (q2 ys)
      | none => simp [sortB] at q1
      | _ => rfl
  have h3 : ((xs.map enc).all fun d => decide (d.depth ≤ 100)) = true := by
    rw [List.all_eq_true]
    intro d hd'
    obtain ⟨a, ha', rfl⟩ := List.mem_map.mp hd'
    exact decide_eq_true (hd a ha')
  unfold pSorted
  simp only
  rw [if_pos ⟨h1, h2, h3⟩]
  refine congrArg (fun l => some (PyData.list l)) ?_
  symm
  exact List.map_mergeSort fun a ha' b hb' => by rw [hle a ha' b hb']; rfl
theorem mergeSort_strict {A : Type} {le lt : A → A → Bool} {xs : List A} {R : A → A → Prop} (tr : ∀ a b c, le a b = true → le b c = true → le a c = true) (to : ∀ a b, (le a b || le b a) = true) (nd : xs.Nodup) (hR : ∀ a b, le a b = true → a ≠ b → R a b) : (xs.mergeSort le).Pairwise R := by
  have h1 : (xs.mergeSort le).Pairwise (fun a b => le a b = true) := List.pairwise_mergeSort tr to xs
  have h2 : (xs.mergeSort le).Nodup := (List.mergeSort_perm xs le).nodup_iff.mpr nd
  exact (h1.and h2).imp fun ⟨a, b⟩ => hR _ _ a b
theorem filter_key {A K : Type} [DecidableEq K] (f : A → K) : ∀ xs : List A, (xs.map f).Nodup → ∀ b ∈ xs, xs.filter (fun c => decide (f c = f b)) = [b]
  | [], _, b, h => by cases h
  | c :: cs, hn, b, h => by
    rw [List.map_cons, List.nodup_cons] at hn
    rw [List.filter_cons]
    by_cases e : f c = f b
    · rw [if_pos (decide_eq_true e)]
      have hb : b = c := by
        rcases List.mem_cons.mp h with h | h
        · exact h
        · exact absurd (List.mem_map.mpr ⟨b, h, e.symm⟩) hn.1
      subst hb
      have : cs.filter (fun c => decide (f c = f b)) = [] := by
        rw [List.filter_eq_nil_iff]
        intro x hx hq
        exact hn.1 (List.mem_map.mpr ⟨x, hx, of_decide_eq_true hq⟩)
      rw [this]
    · rw [if_neg (by simpa using e)]
      rcases List.mem_cons.mp h with h | h
      · exact absurd (by rw [h]) e
      · exact filter_key f cs hn.2 b h
theorem eraseIdx_perm {A : Type} : ∀ (l : List A) (k : Nat) (h : k < l.length), (l[k] :: l.eraseIdx k).Perm l
  | [], _, h => by simp at h
  | a :: l, 0, _ => List.Perm.refl _
  | a :: l, k + 1, h => by
    have hk : k < l.length := by simpa using h
    have ih := eraseIdx_perm l k hk
    show ((l[k]'hk) :: a :: l.eraseIdx k).Perm (a :: l)
    exact (List.Perm.swap _ _ _).trans (ih.cons a)
theorem map_erase {A B : Type} (f : A → B) : ∀ (l : List A) (k : Nat), (l.map f).eraseIdx k = (l.eraseIdx k).map f
  | [], _ => rfl
  | a :: l, 0 => rfl
  | a :: l, k + 1 => congrArg (f a :: ·) (map_erase f l k)
end Z
namespace Z
open PySem PySem.Spec L2
/-! ## the order of the symbols -/
def addNew (acc : List Str) (s : Str) : List Str := if s ∈ acc then acc else acc ++ [s]
def lefts (rs : List Rule) : List Str := rs.foldl (fun acc r => addNew acc r.l) []
def unitOf (r : Rule) : Option (Str × Str) := match r.ps with
  | [.sym s] => some (r.l, s)
  | _ => none
def units (rs : List Rule) : List (Str × Str) := rs.filterMap unitOf
/-- nothing that is left stands alone below it -/
def isFree (ps : List (Str × Str)) (left : List Str) (s : Str) : Bool := !ps.any fun p => decide (p.1 = s) && decide (p.2 ∈ left)
def oStep (ps : List (Str × Str)) (x : List Str × List Str) : List Str × List Str := (x.1.filter fun s => decide (s ∉ x.1.filter (isFree ps x.1)), x.2 ++ x.1.filter (isFree ps x.1))
def oIter (ps : List (Str × Str)) : Nat → List Str × List Str → List Str × List Str
  | 0, x => x
  | n + 1, x => oStep ps (oIter ps n x)
def order (rs : List Rule) : List Str := (oIter (units rs) (lefts rs).length (lefts rs, [])).2
theorem addNew_nd {acc : List Str} {s : Str} (h : acc.Nodup) : (addNew acc s).Nodup := by
  unfold addNew
  split
  · exact h
  · rename_i hn
    rw [List.nodup_append]
    exact ⟨h, by simp, fun a ha b hb => by rw [List.mem_singleton.mp hb]; exact fun e => hn (e ▸ ha)⟩
theorem addNew_mem {acc : List Str} {s x : Str} : x ∈ addNew acc s ↔ x ∈ acc ∨ x = s := by
  unfold addNew
  split
  · rename_i h
    exact ⟨.inl, fun q => q.elim id fun e => e ▸ h⟩
  · simp
theorem foldl_new : ∀ (rs : List Rule) (acc : List Str), acc.Nodup → (rs.foldl (fun acc r => addNew acc r.l) acc).Nodup ∧ ∀ x, x ∈ rs.foldl (fun acc r => addNew acc r.l) acc ↔ x ∈ acc ∨ ∃ r ∈ rs, r.l = x
  | [], acc, h => ⟨h, fun x => by simp⟩
  | r :: rs, acc, h => by
    have ih := foldl_new rs (addNew acc r.l) (addNew_nd h)
    refine ⟨ih.1, fun x => ?_⟩
    rw [List.foldl_cons, ih.2 x, addNew_mem]
    simp only [List.mem_cons, exists_eq_or_imp, or_assoc]
    rw [eq_comm (a := x) (b := r.l)]
theorem lefts_nd (rs : List Rule) : (lefts rs).Nodup := (foldl_new rs [] (by simp)).1
theorem lefts_mem {rs : List Rule} {x : Str} : x ∈ lefts rs ↔ ∃ r ∈ rs, r.l = x := by
  unfold lefts
  rw [(foldl_new rs [] (by simp)).2 x]
  simp
theorem lefts_len (rs : List Rule) : (lefts rs).length ≤ rs.length := by
  unfold lefts
  have : ∀ (rs : List Rule) (acc : List Str), (rs.foldl (fun acc r => addNew acc r.l) acc).length ≤ acc.length + rs.length := by
    intro rs
    induction rs with
    | nil => intro acc; simp
    | cons r rs ih =>
      intro acc
      have := ih (addNew acc r.l)
      have h2 : (addNew acc r.l).length ≤ acc.length + 1 := by unfold addNew; split <;> simp
      rw [List.foldl_cons, List.length_cons]
      omega
  have := this rs []
  simpa using this
theorem oStep_left (ps : List (Str × Str)) (x : List Str × List Str) : (oStep ps x).1 = x.1.filter fun s => !isFree ps x.1 s := by
  unfold oStep
  refine List.filter_congr fun s hs => ?_
  cases h : isFree ps x.1 s <;> simp [List.mem_filter, hs, h]
/-- what is ordered and what is left are all -/
theorem oIter_perm (ps : List (Str × Str)) : ∀ (n : Nat) (x : List Str × List Str), ((oIter ps n x).2 ++ (oIter ps n x).1).Perm (x.2 ++ x.1)
  | 0, x => List.Perm.refl _
  | n + 1, x => by
    have ih := oIter_perm ps n x
    refine List.Perm.trans ?_ ih
    show ((oStep ps _).2 ++ (oStep ps _).1).Perm _
    rw [oStep_left]
    generalize oIter ps n x = y
    show ((y.2 ++ y.1.filter (isFree ps y.1)) ++ _).Perm _
    rw [List.append_assoc]
    refine List.Perm.append_left _ ?_
    exact List.filter_append_perm _ _
theorem exists_max {A : Type} (f : A → Nat) : ∀ xs : List A, xs ≠ [] → ∃ a ∈ xs, ∀ b ∈ xs, f b ≤ f a
  | [], h => absurd rfl h
  | [a], _ => ⟨a, by simp, by simp⟩
  | a :: b :: xs, _ => by
    obtain ⟨m, hm, hx⟩ := exists_max f (b :: xs) (by simp)
    by_cases q : f a ≤ f m
    · refine ⟨m, List.mem_cons_of_mem _ hm, fun c hc => ?_⟩
      rcases List.mem_cons.mp hc with rfl | hc
      · exact q
      · exact hx c hc
    · refine ⟨a, List.mem_cons_self, fun c hc => ?_⟩
      rcases List.mem_cons.mp hc with rfl | hc
      · exact Nat.le_refl _
      · have := hx c hc; omega
theorem oIter_empty {ps : List (Str × Str)} {rank : Str → Nat} (hr : ∀ p ∈ ps, rank p.1 < rank p.2) : ∀ (n : Nat) (x : List Str × List Str), (oIter ps n x).1.length ≤ x.1.length - n
  | 0, x => Nat.le_refl _
  | n + 1, x => by
    have ih := oIter_empty hr n x
    show (oStep ps _).1.length ≤ _
    rw [oStep_left]
    generalize oIter ps n x = y at ih
    by_cases he : y.1 = []
    · rw [he]; simp
    · obtain ⟨m, hm, hx⟩ := exists_max rank y.1 he
      have hf : isFree ps y.1 m = true := by
        unfold isFree
        rw [Bool.not_eq_true', List.any_eq_false]
        intro p hp
        simp only [Bool.and_eq_true, decide_eq_true_eq, not_and]
        intro e hq
        have := hr p hp
        have := hx p.2 hq
        rw [e] at *
        omega
      have : (y.1.filter fun s => !isFree ps y.1 s).length < y.1.length := by
        have h1 := List.length_filter_le (fun s => !isFree ps y.1 s) y.1
        rcases Nat.lt_or_eq_of_le h1 with h | h
        · exact h
        · have := List.length_filter_eq_length_iff.mp h m hm
          rw [hf] at this
          cases this
      omega
theorem order_perm {rs : List Rule} {rank : Str → Nat} (hr : ∀ p ∈ units rs, rank p.1 < rank p.2) : (order rs).Perm (lefts rs) := by
  have h1 := oIter_perm (units rs) (lefts rs).length (lefts rs, [])
  have h2 := oIter_empty hr (lefts rs).length (lefts rs, [])
  have h3 : (oIter (units rs) (lefts rs).length (lefts rs, [])).1 = [] := by
    simp only [Nat.sub_self, Nat.le_zero] at h2
    exact List.length_eq_zero_iff.mp h2
  rw [h3] at h1
  simpa [order] using h1
/-- symbols that stand alone below each other in a ring stay -/
theorem oIter_ring {ps : List (Str × Str)} {C : List Str} (hc : ∀ a ∈ C, ∃ p ∈ ps, p.1 = a ∧ p.2 ∈ C) : ∀ (n : Nat) (x : List Str × List Str), (∀ a ∈ C, a ∈ x.1) → ∀ a ∈ C, a ∈ (oIter ps n x).1
  | 0, x, h => h
  | n + 1, x, h => by
    have ih := oIter_ring hc n x h
    intro a ha
    show a ∈ (oStep ps _).1
    rw [oStep_left, List.mem_filter]
    refine ⟨ih a ha, ?_⟩
    obtain ⟨p, hp, e, hq⟩ := hc a ha
    unfold isFree
    rw [Bool.not_not, List.any_eq_true]
    exact ⟨p, hp, by simp [e, ih p.2 hq]⟩
theorem order_ring {rs : List Rule} {C : List Str} (hne : C ≠ []) (hl : ∀ a ∈ C, a ∈ lefts rs) (hc : ∀ a ∈ C, ∃ p ∈ units rs, p.1 = a ∧ p.2 ∈ C) : (order rs).length < (lefts rs).length := by
  have h1 := (oIter_perm (units rs) (lefts rs).length (lefts rs, [])).length_eq
  have h2 := oIter_ring hc (lefts rs).length (lefts rs, []) hl
  obtain ⟨a, ha⟩ := List.exists_mem_of_ne_nil C hne
  have := List.length_pos_of_mem (h2 a ha)
  simp only [List.length_append, List.length_nil, Nat.zero_add] at h1
  unfold order
  omega
end Z
namespace Z
open PySem PySem.Spec L2
/-! ## what rules, bars and demands say -/
def rulesOf (rs : List Rule) (s : Str) : List Nat := (List.range rs.length).filter fun k => decide ((rs[k]?).map Rule.l = some s)
def barOf (bs : List Bar) (k : Nat × Nat × Nat) : Dg := match bs.find? fun b => decide (b.key = k) with
  | some b => b.dg
  | none => .leaf false
def tok0 : Tok := ⟨⟨#[]⟩, ⟨#[]⟩, 0, 0, false⟩
def Dem.holds (f : Nat → Tok) : Dem → Bool
  | .glued p => (f p).gl
  | .same p q => decide ((f p).col = (f q).col)
  | .right p q => decide ((f p).col < (f q).col)
  | .row p q => decide ((f p).row = (f q).row)
def Part.mt (t : Tok) : Part → Bool
  | .num => decide (t.k = Str.ofString "number")
  | .wrd => decide (t.k = Str.ofString "word")
  | .txt s => decide (t.t = s)
  | .sym s => decide (t.t = s)
theorem getD_of {A : Type} {xs : List A} {i : Nat} {a d : A} (h : xs[i]? = some a) : xs.getD i d = a := by simp [h]
theorem mapIdx_range {A B : Type} (f : Nat → A → B) (d : A) (xs : List A) : xs.mapIdx f = (List.range xs.length).map fun i => f i (xs.getD i d) := by
  apply List.ext_getElem?
  intro i
  by_cases h : i < xs.length
  · simp [h]
  · simp [h]
end Z
namespace P
open PySem PySem.Spec L2 Z
def top (i : Nat) : Stmt := PySem.Challenge.pw_oncefolded_k30_forms_of_grammars.main.body.getD i (.Pass ⟨0, 0, 0, 0⟩)
abbrev c_CAPITAL : D := .str (Str.ofString "ABCDEFGHIJKLMNOPQRSTUVWXYZ")
abbrev c_FIGURES : D := .str (Str.ofString "0123456789")
abbrev c_MARKS : D := .str (Str.ofString "+-*/(){};,=<>!:.?&|")
abbrev c_MAX_BARS : D := .int 12
abbrev c_MAX_DEMANDS : D := .int 4
abbrev c_MAX_PARTS : D := .int 3
abbrev c_MAX_RULES : D := .int 12
abbrev c_SMALL : D := .str (Str.ofString "abcdefghijklmnopqrstuvwxyz")
abbrev s__law_tape : Stmt := top 35

theorem f__law_tape {E : ME} {kk : Nat} (hd : DefAt E "_law_tape" "_law_tape" s__law_tape ["_law_script", "_law_budget"]) (z_list : Free E "list") : FnT E (kk + 1) "_law_tape" := by
  obtain ⟨f, fd, F, hm, hb⟩ := hd
  refine ⟨f, fd, _, F.ok (N := ["_law_script", "_law_budget"]) (ps := ["_law_script", "_law_budget"]) ⟨rfl, rfl, rfl, by decide +kernel, rfl, by decide +kernel, by decide +kernel⟩ (fun vs H Q E h => by obtain ⟨a, ns, b, rfl, _⟩ := h; rfl) (fun cdv A outer s H vs Q Ex hr h => ?_), hm, F.kp, hb⟩
  obtain ⟨a, ns, b, rfl, hS, q⟩ := h
  refine ⟨_, pss_one (ps_ret (pe_lst (pa_cons (pe_callTy call_list_of rfl z_list PyProof.Rows.boot_list (pa_cons (pv 0) pa_nil)) (pa_cons pe_int (pa_cons pe_int (pa_cons pe_int (pa_cons (pv 1) pa_nil))))))), ?_⟩
  exact ⟨_, rfl, a, _, rfl, .inl hS, fun l hl => ⟨_, rfl, by show 5 ≤ sizeLine; decide, fun p hp => q l p hl hp⟩⟩

abbrev s__law_mix : Stmt := top 34

def m__law_mix_b (a0 : D) : Option (Ctl Empty Empty D) :=
  ((((pMul a0 (.int 6364136223846793005)).bind fun x1 => pAdd x1 (.int 1442695040888963407)).bind fun x2 => pInt x2).bind fun x3 => pMod x3 (.int 18446744073709551616)).bind fun x4 => (((((pMul x4 x4).bind fun x5 => pFdiv x5 (.int 4294967296)).bind fun x6 => (pMul x4 (.int 69621)).bind fun y7 => pAdd x6 y7).bind fun x8 => pInt x8).bind fun x9 => pMod x9 (.int 18446744073709551557)).bind fun x10 => some (.rt x10)
def m__law_mix (a0 : D) : Option D := Ctl.fin Empty.elim (m__law_mix_b a0)

theorem b__law_mix {X : Cx} {E : ME} {kk : Nat} (L : LX X E kk ["_law_number"] ["_law_number"] ["int"] ["_law_number"] (defScope s__law_mix)) (z_int : Free E "int") (a0 : D) :
    BS X [.fz a0] (defBody s__law_mix) (m__law_mix_b a0) Empty.elim Empty.elim (fun (_ : D) => [.no]) (fun x => x) := by
  unfold m__law_mix_b
  refine bs_set L 0 0 rfl rfl (ex_op_xa op_mod rs_mod (ex_callT L 0 rfl z_int PyProof.Rows.boot_int call_int rs_int (ax_cons (ex_op_xa op_addD rs_add (ex_op_aa op_mulX rs_mul (ex_var L 0 0 rfl rfl rfl) ex_int) ex_int) (fun x2 => ax_nil))) ex_int) (fun x4 => ?_)
  exact bs_ret (mk := fun x10 => x10) (ex_op_xa op_mod rs_mod (ex_callT L 0 rfl z_int PyProof.Rows.boot_int call_int rs_int (ax_cons (ex_op op_addD rs_add (ex_op_xa op_fdivW rs_fdiv (ex_op_aa op_mulX rs_mul (ex_var L 0 0 rfl rfl rfl) (ex_var L 0 0 rfl rfl rfl)) ex_int) (ex_op_aa op_mulX rs_mul (ex_var L 0 0 rfl rfl rfl) ex_int)) (fun x8 => ax_nil))) ex_int) (fun _ => rfl) (fun _ => (.no .nil))

theorem f__law_mix {E : ME} {kk : Nat} (hd : DefAt E "_law_mix" "_law_mix" s__law_mix ["_law_number"]) (z_int : Free E "int") : FnM E (kk + 1) "_law_mix" (CP (g1 m__law_mix)) :=
  hd.fn (N := ["_law_number"]) (W := ["_law_number"]) (G := ["int"]) (Sl := ["_law_number"]) ⟨rfl, rfl, rfl, by decide +kernel, rfl, by decide +kernel, by decide +kernel⟩ (by decide +kernel) (by decide +kernel)
    (fun Γ0 r Γ1 ⟨xs, h1, h2, h3⟩ => match xs, h2 with | [_], _ => by subst h1; rfl)
    fun X L Γ0 r Γ1 ⟨xs, h1, h2, h3⟩ => match xs, h2 with
      | [a0], h2 => by
        subst h1 h3
        exact body_of (d := Empty.elim) (b__law_mix L z_int a0) h2 (.no .nil) (fun n => n.elim)

abbrev s__law_take : Stmt := top 36

def m__law_take_b (a0 : D) (a1 : D) : Option (Ctl Empty Empty (D × D)) :=
  Ctl.seq (((pIdx a0 (.int 2)).bind fun x1 => (pLt x1 a1).bind dBool).bind fun k44 => if k44 = true then ((pIdx a0 (.int 1)).bind fun x4 => ((pIdx a0 (.int 0)).bind fun x3 => pLen x3).bind fun y5 => (pLt x4 y5).bind dBool).bind fun k35 => if k35 = true then ((pIdx a0 (.int 0)).bind fun x6 => (pIdx a0 (.int 1)).bind fun y7 => pIdx x6 y7).bind fun x8 => (((pGe x8 (.int 0)).bind dBool).bind fun k10 => if k10 = true then pMul (.int 2) x8 else (pMul (.int (-2)) x8).bind fun x9 => pSub x9 (.int 1)).bind fun x11 => ((pIdx a0 (.int 1)).bind fun x12 => pAdd x12 (.int 1)).bind fun y13 => (some (.int 1)).bind fun z14 => (pSetI a0 z14 y13).bind fun w15 => (((pIdx w15 (.int 3)).bind fun x16 => pAdd x16 x11).bind fun x17 => m__law_mix x17).bind fun y18 => (some (.int 3)).bind fun z19 => (pSetI w15 z19 y18).bind fun w20 => (((pPow (.int 10) (.int 18)).bind fun y21 => (pGe x11 y21).bind dBool).bind fun k23 => if k23 = true then some x11 else (m__law_mix x11).bind fun x22 => m__law_mix x22).bind fun y24 => (some (.int 2)).bind fun z25 => (pSetI w20 z25 y24).bind fun w26 => some (.nx w26) else (((pIdx a0 (.int 3)).bind fun x27 => pAdd x27 (.int 1)).bind fun x28 => m__law_mix x28).bind fun y29 => (some (.int 3)).bind fun z30 => (pSetI a0 z30 y29).bind fun w31 => (pIdx w31 (.int 3)).bind fun y32 => (some (.int 2)).bind fun z33 => (pSetI w31 z33 y32).bind fun w34 => some (.nx w34) else some (.nx a0) : Option (Ctl D Empty (D × D))) fun (n2 : D) => (((pIdx n2 (.int 2)).bind fun x36 => pInt x36).bind fun x37 => pMod x37 a1).bind fun x38 => ((pIdx n2 (.int 2)).bind fun x39 => pFdiv x39 a1).bind fun y40 => (some (.int 2)).bind fun z41 => (pSetI n2 z41 y40).bind fun w42 => some (.rt (x38, w42))
def m__law_take (a0 : D) (a1 : D) : Option (D × D) := Ctl.fin Empty.elim (m__law_take_b a0 a1)

theorem b__law_take {X : Cx} {E : ME} {kk : Nat} (L : LX X E kk ["_law_tape_here", "_law_many_here", "_law_cell", "_law_digit"] ["_law_tape_here", "_law_many_here", "_law_cell", "_law_digit"] ["len", "_law_mix", "int"] ["_law_tape_here", "_law_many_here", "_law_cell", "_law_digit"] (defScope s__law_take)) (z_int : Free E "int") (z_len : Free E "len") (h__law_mix : FnM E kk "_law_mix" (CP (g1 m__law_mix))) (v0 : V) (a0 : D) (a1 : D) :
    BS X [.ow .l (some v0) a0, .fz a1, .no, .no] (defBody s__law_take) (m__law_take_b a0 a1) Empty.elim Empty.elim (fun (r : (D × D)) => [.ow .l (some v0) r.2, .no, .no, .no]) (fun r => r.1) := by
  unfold m__law_take_b
  refine bs_seq (gN' := (fun (n2 : D) => [.ow .l (some v0) n2, .fz a1, .no, .no])) (ss_if (tx_borrow 0 rfl (tx_cmp_xa (op_ltZ L.un) rs_lt (ex_ix_aa (ex_var L 0 0 rfl rfl rfl) ex_int (fun _ _ => rfl)) (ex_var L 1 1 rfl rfl rfl) (nomark _))) ?_ ?_) ?_
  · 
      refine bs_one (ss_if (tx_borrow 0 rfl (tx_cmp (op_ltZ L.un) rs_lt (ex_ix_aa (ex_var L 0 0 rfl rfl rfl) ex_int (fun _ _ => rfl)) (ex_callB L 0 rfl z_len PySem.boot_len call_len rs_len (ax_cons (ex_ix_aa (ex_var L 0 0 rfl rfl rfl) ex_int (fun _ _ => rfl)) (fun x3 => ax_nil))) (nomark _))) ?_ ?_)
      · 
        refine bs_set L 2 2 rfl rfl (ex_ix (ex_ixO_a L 0 0 rfl rfl rfl ex_int (fun _ _ => rfl)) (ex_ixO_a L 0 0 rfl rfl rfl ex_int (fun _ _ => rfl)) (fun _ _ => rfl)) (fun x8 => ?_)
        refine bs_set L 2 2 rfl rfl (ex_if (tx_cmp_aa (op_geZ L.un) rs_ge (ex_var L 2 2 rfl rfl rfl) ex_int (nomark _)) (ex_op_aa op_mulX rs_mul ex_int (ex_var L 2 2 rfl rfl rfl)) (ex_op_xa op_sub rs_sub (ex_op_aa op_mulX rs_mul ex_negc (ex_var L 2 2 rfl rfl rfl)) ex_int)) (fun x11 => ?_)
        refine bs_seti L 0 0 rfl rfl rfl (ex_op_xa op_addD rs_add (ex_ixO_a L 0 0 rfl rfl rfl ex_int (fun _ _ => rfl)) ex_int) ex_int (fun w15 => ?_)
        refine bs_seti L 0 0 rfl rfl rfl (ex_call L 1 rfl h__law_mix (Nat.le_refl _) (ax_cons (ex_op_xa op_addD rs_add (ex_ixO_a L 0 0 rfl rfl rfl ex_int (fun _ _ => rfl)) (ex_var L 2 2 rfl rfl rfl)) (fun x17 => ax_nil))) ex_int (fun w20 => ?_)
        refine bs_seti L 0 0 rfl rfl rfl (ex_if (tx_cmp_ax (op_geZ L.un) rs_ge (ex_var L 2 2 rfl rfl rfl) (ex_op_aa op_pow rs_pow ex_int ex_int) (nomark _)) (ex_var L 2 2 rfl rfl rfl) (ex_call L 1 rfl h__law_mix (Nat.le_refl _) (ax_cons (ex_call L 1 rfl h__law_mix (Nat.le_refl _) (ax_consA (ex_var L 2 2 rfl rfl rfl) ax_nil)) (fun x22 => ax_nil)))) ex_int (fun w26 => ?_)
        exact bs_nil (.same (.same (.no (.no .nil))))
      · 
        refine bs_seti L 0 0 rfl rfl rfl (ex_call L 1 rfl h__law_mix (Nat.le_refl _) (ax_cons (ex_op_xa op_addD rs_add (ex_ixO_a L 0 0 rfl rfl rfl ex_int (fun _ _ => rfl)) ex_int) (fun x28 => ax_nil))) ex_int (fun w31 => ?_)
        refine bs_seti L 0 0 rfl rfl rfl (ex_ixO_a L 0 0 rfl rfl rfl ex_int (fun _ _ => rfl)) ex_int (fun w34 => ?_)
        exact bs_nil (.same (.same (.no (.no .nil))))
  · 
      exact bs_nil (.same (.same (.no (.no .nil))))
  intro n2
  refine bs_set L 3 3 rfl rfl (ex_op_xa op_mod rs_mod (ex_callT L 2 rfl z_int PyProof.Rows.boot_int call_int rs_int (ax_cons (ex_ixO_a L 0 0 rfl rfl rfl ex_int (fun _ _ => rfl)) (fun x36 => ax_nil))) (ex_var L 1 1 rfl rfl rfl)) (fun x38 => ?_)
  refine bs_seti L 0 0 rfl rfl rfl (ex_op_xa op_fdivW rs_fdiv (ex_ixO_a L 0 0 rfl rfl rfl ex_int (fun _ _ => rfl)) (ex_var L 1 1 rfl rfl rfl)) ex_int (fun w42 => ?_)
  exact bs_ret_a (mk := fun x43 => (x43, w42)) (ex_var L 3 3 rfl rfl rfl) (fun _ => rfl) (fun _ => (.same (.no (.no (.no .nil)))))

theorem f__law_take {E : ME} {kk : Nat} (hd : DefAt E "_law_take" "_law_take" s__law_take ["_law_tape_here", "_law_many_here"]) (z_int : Free E "int") (z_len : Free E "len") (h__law_mix : FnM E kk "_law_mix" (CP (g1 m__law_mix))) : FnM E (kk + 1) "_law_take" (CO1 .l (fun t => g1 (m__law_take t))) :=
  hd.fn (N := ["_law_tape_here", "_law_many_here", "_law_cell", "_law_digit"]) (W := ["_law_tape_here", "_law_many_here", "_law_cell", "_law_digit"]) (G := ["len", "_law_mix", "int"]) (Sl := ["_law_tape_here", "_law_many_here", "_law_cell", "_law_digit"]) ⟨rfl, rfl, rfl, by decide +kernel, rfl, by decide +kernel, by decide +kernel⟩ (by decide +kernel) (by decide +kernel)
    (fun Γ0 r Γ1 ⟨v, x, xs, y, h1, h2, h3⟩ => match xs, h2 with | [_], _ => by subst h1; rfl)
    fun X L Γ0 r Γ1 ⟨v0, a0, xs, y, h1, h2, h3⟩ => match xs, h2 with
      | [a1], h2 => by
        subst h1 h3
        exact body_of (d := Empty.elim) (rr := (r, y)) (b__law_take L z_int z_len h__law_mix v0 a0 a1) h2 (.ow (.no .nil)) (fun n => n.elim)

abbrev s__law_symbols : Stmt := top 39

def m__law_symbols_b (a0 : D) (a1 : D) : Option (Ctl Empty Empty (D × D)) :=
  Ctl.seq ((pRg1 a1).bind fun xs54 => forC (fun x2 s1 => (((some ((S "ABCDEFGHIJKLMNOPQRSTUVWXYZ"), s1.2)).bind fun r3 => (m__law_take r3.2 (.int 26)).bind fun r4 => (pIdx r3.1 r4.1).map fun z5 => (z5, r4.2)).bind fun r6 => Ctl.seq (((m__law_take r6.2 (.int 4)).bind fun r18 => (pRg1 r18.1).map fun x19 => (x19, r18.2)).bind fun r20 => forC (fun x8 s7 => (((some (s7.1, s7.2)).bind fun r9 => ((some ((S "abcdefgXYZ"), r9.2)).bind fun r10 => (m__law_take r10.2 (.int 10)).bind fun r11 => (pIdx r10.1 r11.1).map fun z12 => (z12, r11.2)).bind fun r13 => (pAdd r9.1 r13.1).map fun z14 => (z14, r13.2)).bind fun r15 => some (.nx (r15.1, r15.2)) : Option (Ctl (D × D) (D × D) (D × D)))) r20.1 ((fun t21 => (r6.1, t21)) r20.2) : Option (Ctl (D × D) (D × D) (D × D))) fun (s23 : D × D) => Ctl.seq (((((pGt x2 (.int 0)).bind dBool).map fun x24 => (x24, s23.2)).bind fun r25 => if r25.1 = true then (m__law_take r25.2 (.int 6)).bind fun r26 => (some ((.int 0), r26.2)).bind fun r27 => ((pEq r26.1 r27.1).bind dBool).map fun z28 => (z28, r27.2) else some (false, r25.2)).bind fun r29 => if r29.1 = true then ((((pIdx s1.1 (.int 0)).bind fun x34 => (some none).bind fun l32 => (pOpt (.int 4)).bind fun h33 => pSl x34 l32 h33).map fun x35 => (x35, r29.2)).bind fun r36 => ((some ((S "aXg"), r36.2)).bind fun r37 => (m__law_take r37.2 (.int 3)).bind fun r38 => (pIdx r37.1 r38.1).map fun z39 => (z39, r38.2)).bind fun r40 => (pAdd r36.1 r40.1).map fun z41 => (z41, r40.2)).bind fun r42 => some (.nx (r42.1, r42.2)) else some (.nx (s23.1, r29.2)) : Option (Ctl (D × D) (D × D) (D × D))) fun (n31 : D × D) => Ctl.seq (((pIn n31.1 s1.1).bind dBool).bind fun k52 => if k52 = true then ((((pOpt (.int 4)).bind fun h46 => pSl n31.1 none h46).bind fun x47 => (pIdx (S "xyzw") x2).bind fun y48 => pAdd x47 y48).bind fun x49 => pAdd x49 (S "b")).bind fun x50 => some (.nx x50) else some (.nx n31.1) : Option (Ctl D (D × D) (D × D))) fun (n44 : D) => (pApp s1.1 n44).bind fun z51 => some (.nx (z51, n31.2)) : Option (Ctl (D × D) (D × D) (D × D)))) xs54 ((.list []), a0) : Option (Ctl (D × D) Empty (D × D))) fun (s55 : D × D) => some (.rt (s55.1, s55.2))
def m__law_symbols (a0 : D) (a1 : D) : Option (D × D) := Ctl.fin Empty.elim (m__law_symbols_b a0 a1)

theorem b__law_symbols {X : Cx} {E : ME} {kk : Nat} (L : LX X E kk ["_law_tape_here", "_law_many_here", "_law_found", "_law_k", "_law_name", "_law_turn"] ["_law_tape_here", "_law_many_here", "_law_found", "_law_k", "_law_name", "_law_turn"] ["range", "_law_take"] ["_law_tape_here", "_law_many_here", "_law_found", "_law_k", "_law_name", "_law_turn"] (defScope s__law_symbols)) (z_range : Free E "range") (h__law_take : FnM E kk "_law_take" (CO1 .l (fun t => g1 (m__law_take t)))) (v0 : V) (a0 : D) (a1 : D) :
    BS X [.ow .l (some v0) a0, .fz a1, .no, .no, .no, .no] (defBody s__law_symbols) (m__law_symbols_b a0 a1) Empty.elim Empty.elim (fun (r : (D × D)) => [.ow .l (some v0) r.2, .no, .no, .no, .no, .no]) (fun r => r.1) := by
  unfold m__law_symbols_b
  refine bs_newl_a L 2 2 rfl rfl (by decide) ax_nil ?_
  refine bs_seq (gN' := (fun (s1 : D × D) => [.ow .l (some v0) s1.2, .fz a1, .ow .l none s1.1, .no, .no, .no])) (ss_for1 (gS := (fun (s1 : D × D) => [.ow .l (some v0) s1.2, .fz a1, .ow .l none s1.1, .no, .no, .no])) L 3 3 rfl rfl (.same (.same (.same (.no (.no (.no .nil)))))) (xi_rg1_a L 0 rfl z_range (ex_var L 1 1 rfl rfl rfl)) (fun s1 x2 => ?_)) ?_
  · 
    refine bs_setE (S := (fun (t53 : D) => [.ow .l (some v0) t53, .fz a1, .ow .l none s1.1, .fz x2, .no, .no])) L 4 4 rfl rfl (exe_ix (exe_atom ex_str) (fun r3 => (exe_callO1 L 1 0 0 rfl rfl rfl h__law_take (Nat.le_refl _) (fun _ => rfl) (fun _ _ => rfl) (axe_consA ex_int axe_nil))) (fun _ _ => rfl)) (fun r6 => ?_)
    refine bs_seq (gN' := (fun (s7 : D × D) => [.ow .l (some v0) s7.2, .fz a1, .ow .l none s1.1, .fz x2, .fz s7.1, .no])) (ss_for1E (S := (fun (t22 : D) => [.ow .l (some v0) t22, .fz a1, .ow .l none s1.1, .fz x2, .fz r6.1, .no])) (gS := (fun (s7 : D × D) => [.ow .l (some v0) s7.2, .fz a1, .ow .l none s1.1, .fz x2, .fz s7.1, .no])) (s0 := fun t21 => (r6.1, t21)) L 5 5 rfl rfl (fun _ => (.same (.same (.same (.same (.same (.no .nil))))))) (xie_rg1 L 0 rfl z_range (exe_callO1 L 1 0 0 rfl rfl rfl h__law_take (Nat.le_refl _) (fun _ => rfl) (fun _ _ => rfl) (axe_consA ex_int axe_nil))) (fun s7 x8 => ?_)) ?_
    · 
      refine bs_setE (S := (fun (t16 : D) => [.ow .l (some v0) t16, .fz a1, .ow .l none s1.1, .fz x2, .fz s7.1, .fz x8])) L 4 4 rfl rfl (exe_op op_addD rs_add (exe_atom (ex_var L 4 4 rfl rfl rfl)) (fun r9 => (exe_ix (exe_atom ex_str) (fun r10 => (exe_callO1 L 1 0 0 rfl rfl rfl h__law_take (Nat.le_refl _) (fun _ => rfl) (fun _ _ => rfl) (axe_consA ex_int axe_nil))) (fun _ _ => rfl)))) (fun r15 => ?_)
      exact bs_nil (.same (.same (.same (.same (.same (.no .nil))))))
    intro s23
    refine bs_seq (gN' := (fun (n31 : D × D) => [.ow .l (some v0) n31.2, .fz a1, .ow .l none s1.1, .fz x2, .fz n31.1, .no])) (ss_ifR (S := (fun (t30 : D) => [.ow .l (some v0) t30, .fz a1, .ow .l none s1.1, .fz x2, .fz s23.1, .no])) (txe_w (wxe_andR (txe_pure (tx_cmp_aa (op_gtZ L.un) rs_gt (ex_var L 3 3 rfl rfl rfl) ex_int (nomark _))) (fun r25 => (wxe_and1 (txe_cmp (op_eqZ L.un) rs_eq (exe_callO1 L 1 0 0 rfl rfl rfl h__law_take (Nat.le_refl _) (fun _ => rfl) (fun _ _ => rfl) (axe_consA ex_int axe_nil)) (fun r26 => (exe_atom ex_int)) (nomark _)))))) (fun r29 => ?_) (fun r29 => ?_)) ?_
    · 
        refine bs_setE (S := (fun (t43 : D) => [.ow .l (some v0) t43, .fz a1, .ow .l none s1.1, .fz x2, .fz s23.1, .no])) L 4 4 rfl rfl (exe_op op_addD rs_add (exe_pure (ex_sl (ex_ixO_a L 2 2 rfl rfl rfl ex_int (fun _ _ => rfl)) xo_none (xo_some_a ex_int))) (fun r36 => (exe_ix (exe_atom ex_str) (fun r37 => (exe_callO1 L 1 0 0 rfl rfl rfl h__law_take (Nat.le_refl _) (fun _ => rfl) (fun _ _ => rfl) (axe_consA ex_int axe_nil))) (fun _ _ => rfl)))) (fun r42 => ?_)
        exact bs_nil (.same (.same (.same (.same (.same (.no .nil))))))
    · 
        exact bs_nil (.same (.same (.same (.same (.same (.no .nil))))))
    intro n31
    refine bs_seq (gN' := (fun (n44 : D) => [.ow .l (some v0) n31.2, .fz a1, .ow .l none s1.1, .fz x2, .fz n44, .no])) (ss_if (tx_borrow 2 rfl (tx_cmp_aa (op_inA L.un) rs_in (ex_var L 4 4 rfl rfl rfl) (ex_var L 2 2 rfl rfl rfl) (by rfl))) ?_ ?_) ?_
    · 
        refine bs_set L 4 4 rfl rfl (ex_op_xa op_addD rs_add (ex_op op_addD rs_add (ex_sl_an (ex_var L 4 4 rfl rfl rfl) (xo_some_a ex_int)) (ex_ix_aa ex_str (ex_var L 3 3 rfl rfl rfl) (fun _ _ => rfl))) ex_str) (fun x50 => ?_)
        exact bs_nil (.same (.same (.same (.same (.same (.no .nil))))))
    · 
        exact bs_nil (.same (.same (.same (.same (.same (.no .nil))))))
    intro n44
    refine bs_app_a L 2 2 rfl rfl rfl (ex_var L 4 4 rfl rfl rfl) (fun z51 => ?_)
    exact bs_nil (.same (.same (.same (.no (.no (.no .nil))))))
  intro s55
  refine bs_freeze 2 rfl ?_
  exact bs_ret_a (mk := fun x56 => (x56, s55.2)) (ex_var L 2 2 rfl rfl rfl) (fun _ => rfl) (fun _ => (.same (.no (.no (.no (.no (.no .nil)))))))

theorem f__law_symbols {E : ME} {kk : Nat} (hd : DefAt E "_law_symbols" "_law_symbols" s__law_symbols ["_law_tape_here", "_law_many_here"]) (z_range : Free E "range") (h__law_take : FnM E kk "_law_take" (CO1 .l (fun t => g1 (m__law_take t)))) : FnM E (kk + 1) "_law_symbols" (CO1 .l (fun t => g1 (m__law_symbols t))) :=
  hd.fn (N := ["_law_tape_here", "_law_many_here", "_law_found", "_law_k", "_law_name", "_law_turn"]) (W := ["_law_tape_here", "_law_many_here", "_law_found", "_law_k", "_law_name", "_law_turn"]) (G := ["range", "_law_take"]) (Sl := ["_law_tape_here", "_law_many_here", "_law_found", "_law_k", "_law_name", "_law_turn"]) ⟨rfl, rfl, rfl, by decide +kernel, rfl, by decide +kernel, by decide +kernel⟩ (by decide +kernel) (by decide +kernel)
    (fun Γ0 r Γ1 ⟨v, x, xs, y, h1, h2, h3⟩ => match xs, h2 with | [_], _ => by subst h1; rfl)
    fun X L Γ0 r Γ1 ⟨v0, a0, xs, y, h1, h2, h3⟩ => match xs, h2 with
      | [a1], h2 => by
        subst h1 h3
        exact body_of (d := Empty.elim) (rr := (r, y)) (b__law_symbols L z_range h__law_take v0 a0 a1) h2 (.ow (.no .nil)) (fun n => n.elim)

abbrev s__law_turned : Stmt := top 43

def m__law_turned_b (a0 : D) (a1 : D) : Option (Ctl Empty Empty (D × D)) :=
  (pList a1).bind fun x1 => Ctl.seq (((pLen a1).bind pRg1).bind fun xs10 => forC (fun x3 s2 => ((((pLen ((s2.2.1, s2.2.2).1)).bind fun x6 => (m__law_take ((s2.2.1, s2.2.2).2) x6).map fun q5 => (q5.1, ((s2.2.1, s2.2.2).1, q5.2))).bind fun r7 => (pPopAt r7.2.1 r7.1).map fun q => (q.1, (q.2, r7.2.2))).bind fun r8 => (pApp s2.1 r8.1).bind fun z4 => some (.nx (z4, r8.2.1, r8.2.2)) : Option (Ctl (D × D × D) (D × D × D) (D × D)))) xs10 ((.list []), x1, a0) : Option (Ctl (D × D × D) Empty (D × D))) fun (s11 : D × D × D) => some (.rt (s11.1, s11.2.2))
def m__law_turned (a0 : D) (a1 : D) : Option (D × D) := Ctl.fin Empty.elim (m__law_turned_b a0 a1)

theorem b__law_turned {X : Cx} {E : ME} {kk : Nat} (L : LX X E kk ["_law_tape_here", "_law_rules", "_law_left", "_law_found", "_law_k"] ["_law_tape_here", "_law_rules", "_law_left", "_law_found", "_law_k"] ["list", "range", "len", "_law_take"] ["_law_tape_here", "_law_rules", "_law_left", "_law_found", "_law_k"] (defScope s__law_turned)) (z_len : Free E "len") (z_list : Free E "list") (z_range : Free E "range") (h__law_take : FnM E kk "_law_take" (CO1 .l (fun t => g1 (m__law_take t)))) (v0 : V) (a0 : D) (a1 : D) :
    BS X [.ow .l (some v0) a0, .fz a1, .no, .no, .no] (defBody s__law_turned) (m__law_turned_b a0 a1) Empty.elim Empty.elim (fun (r : (D × D)) => [.ow .l (some v0) r.2, .no, .no, .no, .no]) (fun r => r.1) := by
  unfold m__law_turned_b
  refine bs_setF L 2 2 rfl rfl (exf_list L 0 rfl z_list PyProof.Rows.boot_list (ax_consA (ex_var L 1 1 rfl rfl rfl) ax_nil)) (fun x1 => ?_)
  refine bs_newl_a L 3 3 rfl rfl (by decide) ax_nil ?_
  refine bs_seq (gN' := (fun (s2 : D × D × D) => [.ow .l (some v0) s2.2.2, .fz a1, .ow .l none s2.2.1, .ow .l none s2.1, .no])) (ss_for1 (gS := (fun (s2 : D × D × D) => [.ow .l (some v0) s2.2.2, .fz a1, .ow .l none s2.2.1, .ow .l none s2.1, .no])) L 4 4 rfl rfl (.same (.same (.same (.same (.no .nil))))) (xi_rg1 L 1 rfl z_range (ex_callB L 2 rfl z_len PySem.boot_len call_len rs_len (ax_consA (ex_var L 1 1 rfl rfl rfl) ax_nil))) (fun s2 x3 => ?_)) ?_
  · 
    refine bs_appE (S := (fun (t9 : D × D) => [.ow .l (some v0) t9.2, .fz a1, .ow .l none t9.1, .ow .l none s2.1, .fz x3])) L 3 3 rfl rfl (fun t => s2.1) (fun _ => rfl) (exe_popAt L 2 2 rfl rfl (fun t => t.1) (fun t y => (y, t.2)) (fun _ => rfl) (fun _ _ => rfl) (axe_cons (exe_callO L 3 0 0 rfl rfl rfl h__law_take (Nat.le_refl _) (fun t => t.2) (fun t y => (t.1, y)) (fun _ => rfl) (fun _ _ => rfl) (axe_consP (ex_borrow 2 rfl scal_len (ex_callB L 2 rfl z_len PySem.boot_len call_len rs_len (ax_consA (ex_var L 2 2 rfl rfl rfl) ax_nil))) (fun x6 => axe_nil))) (fun r7 => axe_nil))) (fun r8 z4 => ?_)
    exact bs_nil (.same (.same (.same (.same (.no .nil)))))
  intro s11
  refine bs_freeze 3 rfl ?_
  exact bs_ret_a (mk := fun x12 => (x12, s11.2.2)) (ex_var L 3 3 rfl rfl rfl) (fun _ => rfl) (fun _ => (.same (.no (.no (.no (.no .nil))))))

theorem f__law_turned {E : ME} {kk : Nat} (hd : DefAt E "_law_turned" "_law_turned" s__law_turned ["_law_tape_here", "_law_rules"]) (z_len : Free E "len") (z_list : Free E "list") (z_range : Free E "range") (h__law_take : FnM E kk "_law_take" (CO1 .l (fun t => g1 (m__law_take t)))) : FnM E (kk + 1) "_law_turned" (CO1 .l (fun t => g1 (m__law_turned t))) :=
  hd.fn (N := ["_law_tape_here", "_law_rules", "_law_left", "_law_found", "_law_k"]) (W := ["_law_tape_here", "_law_rules", "_law_left", "_law_found", "_law_k"]) (G := ["list", "range", "len", "_law_take"]) (Sl := ["_law_tape_here", "_law_rules", "_law_left", "_law_found", "_law_k"]) ⟨rfl, rfl, rfl, by decide +kernel, rfl, by decide +kernel, by decide +kernel⟩ (by decide +kernel) (by decide +kernel)
    (fun Γ0 r Γ1 ⟨v, x, xs, y, h1, h2, h3⟩ => match xs, h2 with | [_], _ => by subst h1; rfl)
    fun X L Γ0 r Γ1 ⟨v0, a0, xs, y, h1, h2, h3⟩ => match xs, h2 with
      | [a1], h2 => by
        subst h1 h3
        exact body_of (d := Empty.elim) (rr := (r, y)) (b__law_turned L z_len z_list z_range h__law_take v0 a0 a1) h2 (.ow (.no .nil)) (fun n => n.elim)

abbrev s__law_right : Stmt := top 41

def m__law_right_b (a0 : D) (a1 : D) (a2 : D) : Option (Ctl Empty Empty (D × D)) :=
  (((some (a1, a0)).bind fun r1 => ((pLen a1).bind fun x2 => m__law_take r1.2 x2).bind fun r3 => (pIdx r1.1 r3.1).map fun z4 => (z4, r3.2)).bind fun r5 => some (.tuple [(S "symbol"), r5.1], r5.2)).bind fun r6 => (((some (a1, r6.2)).bind fun r7 => ((pLen a1).bind fun x8 => m__law_take r7.2 x8).bind fun r9 => (pIdx r7.1 r9.1).map fun z10 => (z10, r9.2)).bind fun r11 => some (.tuple [(S "symbol"), r11.1], r11.2)).bind fun r12 => (m__law_take r12.2 (.int 9)).bind fun r13 => ((pEq r13.1 (.int 8)).bind dBool).bind fun k57 => if k57 = true then Ctl.ex (((((some (a1, r13.2)).bind fun r14 => ((pLen a1).bind fun x15 => m__law_take r14.2 x15).bind fun r16 => (pIdx r14.1 r16.1).map fun z17 => (z17, r16.2)).bind fun r18 => some (.tuple [(S "symbol"), r18.1], r18.2)).bind fun r19 => some (.tuple [r6.1, r12.1, r19.1], r19.2)).bind fun r20 => some (.rt (r20.1, r20.2)) : Option (Ctl Unit Empty (D × D))) else ((pLt r13.1 (.int 3)).bind dBool).bind fun k56 => if k56 = true then Ctl.ex (some (.rt ((.tuple [r6.1, (.tuple [(S "text"), (S "+")]), r12.1]), r13.2)) : Option (Ctl Unit Empty (D × D))) else ((pEq r13.1 (.int 3)).bind dBool).bind fun k55 => if k55 = true then Ctl.ex (some (.rt ((.tuple [(.tuple [(S "text"), (S "(")]), r6.1, (.tuple [(S "text"), (S ")")])]), r13.2)) : Option (Ctl Unit Empty (D × D))) else ((pEq r13.1 (.int 4)).bind dBool).bind fun k54 => if k54 = true then Ctl.ex (some (.rt ((.tuple [r6.1, r12.1]), r13.2)) : Option (Ctl Unit Empty (D × D))) else (((pEq r13.1 (.int 5)).bind dBool).bind fun k27 => if k27 = true then (pAdd a2 (.int 1)).bind fun x25 => (pLen a1).bind fun y26 => (pLt x25 y26).bind dBool else some false).bind fun k53 => if k53 = true then Ctl.ex (((((some (a1, r13.2)).bind fun r28 => (((pAdd a2 (.int 1)).map fun x29 => (x29, r28.2)).bind fun r30 => ((((pLen a1).bind fun x31 => pSub x31 a2).bind fun x32 => pSub x32 (.int 1)).bind fun x33 => m__law_take r30.2 x33).bind fun r34 => (pAdd r30.1 r34.1).map fun z35 => (z35, r34.2)).bind fun r36 => (pIdx r28.1 r36.1).map fun z37 => (z37, r36.2)).bind fun r38 => some (.tuple [(S "symbol"), r38.1], r38.2)).bind fun r39 => some (.tuple [r39.1], r39.2)).bind fun r40 => some (.rt (r40.1, r40.2)) : Option (Ctl Unit Empty (D × D))) else ((pEq r13.1 (.int 6)).bind dBool).bind fun k52 => if k52 = true then Ctl.ex (some (.rt ((.tuple [(.tuple [(S "text"), (S "-")]), r6.1]), r13.2)) : Option (Ctl Unit Empty (D × D))) else ((((((pIdx a1 (.int 0)).bind fun x43 => some (.list [(S ";"), (S "if"), (S "number"), x43])).map fun x44 => (x44, r13.2)).bind fun r45 => (m__law_take r45.2 (.int 4)).bind fun r46 => (pIdx r45.1 r46.1).map fun z47 => (z47, r46.2)).bind fun r48 => some (.tuple [(S "text"), r48.1], r48.2)).bind fun r49 => some (.tuple [r6.1, r49.1], r49.2)).bind fun r50 => some (.rt (r50.1, r50.2))
def m__law_right (a0 : D) (a1 : D) (a2 : D) : Option (D × D) := Ctl.fin Empty.elim (m__law_right_b a0 a1 a2)

theorem b__law_right {X : Cx} {E : ME} {kk : Nat} (L : LX X E kk ["_law_tape_here", "_law_symbols_here", "_law_at", "_law_one", "_law_two", "_law_draw"] ["_law_tape_here", "_law_symbols_here", "_law_at", "_law_one", "_law_two", "_law_draw"] ["_law_take", "len"] ["_law_tape_here", "_law_symbols_here", "_law_at", "_law_one", "_law_two", "_law_draw"] (defScope s__law_right)) (z_len : Free E "len") (h__law_take : FnM E kk "_law_take" (CO1 .l (fun t => g1 (m__law_take t)))) (v0 : V) (a0 : D) (a1 : D) (a2 : D) :
    BS X [.ow .l (some v0) a0, .fz a1, .fz a2, .no, .no, .no] (defBody s__law_right) (m__law_right_b a0 a1 a2) Empty.elim Empty.elim (fun (r : (D × D)) => [.ow .l (some v0) r.2, .no, .no, .no, .no, .no]) (fun r => r.1) := by
  unfold m__law_right_b
  refine bs_setE (S := (fun (t60 : D) => [.ow .l (some v0) t60, .fz a1, .fz a2, .no, .no, .no])) L 3 3 rfl rfl (exe_tup (by decide) (axe_consA ex_str (axe_cons (exe_ix (exe_atom (ex_var L 1 1 rfl rfl rfl)) (fun r1 => (exe_callO1 L 0 0 0 rfl rfl rfl h__law_take (Nat.le_refl _) (fun _ => rfl) (fun _ _ => rfl) (axe_consP (ex_callB L 1 rfl z_len PySem.boot_len call_len rs_len (ax_consA (ex_var L 1 1 rfl rfl rfl) ax_nil)) (fun x2 => axe_nil)))) (fun _ _ => rfl)) (fun r5 => axe_nil)))) (fun r6 => ?_)
  refine bs_setE (S := (fun (t59 : D) => [.ow .l (some v0) t59, .fz a1, .fz a2, .fz r6.1, .no, .no])) L 4 4 rfl rfl (exe_tup (by decide) (axe_consA ex_str (axe_cons (exe_ix (exe_atom (ex_var L 1 1 rfl rfl rfl)) (fun r7 => (exe_callO1 L 0 0 0 rfl rfl rfl h__law_take (Nat.le_refl _) (fun _ => rfl) (fun _ _ => rfl) (axe_consP (ex_callB L 1 rfl z_len PySem.boot_len call_len rs_len (ax_consA (ex_var L 1 1 rfl rfl rfl) ax_nil)) (fun x8 => axe_nil)))) (fun _ _ => rfl)) (fun r11 => axe_nil)))) (fun r12 => ?_)
  refine bs_setE (S := (fun (t58 : D) => [.ow .l (some v0) t58, .fz a1, .fz a2, .fz r6.1, .fz r12.1, .no])) L 5 5 rfl rfl (exe_callO1 L 0 0 0 rfl rfl rfl h__law_take (Nat.le_refl _) (fun _ => rfl) (fun _ _ => rfl) (axe_consA ex_int axe_nil)) (fun r13 => ?_)
  refine bs_ifx (gN' := fun (_ : Unit) => []) (tx_cmp_aa (op_eqZ L.un) rs_eq (ex_var L 5 5 rfl rfl rfl) ex_int (nomark _)) ?_ ?_
  · 
    exact bs_retE (S := (fun (t21 : D) => [.ow .l (some v0) t21, .fz a1, .fz a2, .fz r6.1, .fz r12.1, .fz r13.1])) (mk := fun r20 => (r20.1, r20.2)) (exe_tup (by decide) (axe_consA (ex_var L 3 3 rfl rfl rfl) (axe_consA (ex_var L 4 4 rfl rfl rfl) (axe_cons (exe_tup (by decide) (axe_consA ex_str (axe_cons (exe_ix (exe_atom (ex_var L 1 1 rfl rfl rfl)) (fun r14 => (exe_callO1 L 0 0 0 rfl rfl rfl h__law_take (Nat.le_refl _) (fun _ => rfl) (fun _ _ => rfl) (axe_consP (ex_callB L 1 rfl z_len PySem.boot_len call_len rs_len (ax_consA (ex_var L 1 1 rfl rfl rfl) ax_nil)) (fun x15 => axe_nil)))) (fun _ _ => rfl)) (fun r18 => axe_nil)))) (fun r19 => axe_nil))))) (fun _ => rfl) (fun _ => (.same (.no (.no (.no (.no (.no .nil)))))))
  refine bs_ifx (gN' := fun (_ : Unit) => []) (tx_cmp_aa (op_ltZ L.un) rs_lt (ex_var L 5 5 rfl rfl rfl) ex_int (nomark _)) ?_ ?_
  · 
    exact bs_ret_a (mk := fun x22 => (x22, r13.2)) (ex_tup (by decide) (ax_consA (ex_var L 3 3 rfl rfl rfl) (ax_consA (ex_tup (by decide) (ax_consA ex_str (ax_consA ex_str ax_nil))) (ax_consA (ex_var L 4 4 rfl rfl rfl) ax_nil)))) (fun _ => rfl) (fun _ => (.same (.no (.no (.no (.no (.no .nil)))))))
  refine bs_ifx (gN' := fun (_ : Unit) => []) (tx_cmp_aa (op_eqZ L.un) rs_eq (ex_var L 5 5 rfl rfl rfl) ex_int (nomark _)) ?_ ?_
  · 
    exact bs_ret_a (mk := fun x23 => (x23, r13.2)) (ex_tup (by decide) (ax_consA (ex_tup (by decide) (ax_consA ex_str (ax_consA ex_str ax_nil))) (ax_consA (ex_var L 3 3 rfl rfl rfl) (ax_consA (ex_tup (by decide) (ax_consA ex_str (ax_consA ex_str ax_nil))) ax_nil)))) (fun _ => rfl) (fun _ => (.same (.no (.no (.no (.no (.no .nil)))))))
  refine bs_ifx (gN' := fun (_ : Unit) => []) (tx_cmp_aa (op_eqZ L.un) rs_eq (ex_var L 5 5 rfl rfl rfl) ex_int (nomark _)) ?_ ?_
  · 
    exact bs_ret_a (mk := fun x24 => (x24, r13.2)) (ex_tup (by decide) (ax_consA (ex_var L 3 3 rfl rfl rfl) (ax_consA (ex_var L 4 4 rfl rfl rfl) ax_nil))) (fun _ => rfl) (fun _ => (.same (.no (.no (.no (.no (.no .nil)))))))
  refine bs_ifx (gN' := fun (_ : Unit) => []) (tx_w (wx_and (tx_cmp_aa (op_eqZ L.un) rs_eq (ex_var L 5 5 rfl rfl rfl) ex_int (nomark _)) (wx_and1 (tx_cmp (op_ltZ L.un) rs_lt (ex_op_aa op_addD rs_add (ex_var L 2 2 rfl rfl rfl) ex_int) (ex_callB L 1 rfl z_len PySem.boot_len call_len rs_len (ax_consA (ex_var L 1 1 rfl rfl rfl) ax_nil)) (nomark _))))) ?_ ?_
  · 
    exact bs_retE (S := (fun (t41 : D) => [.ow .l (some v0) t41, .fz a1, .fz a2, .fz r6.1, .fz r12.1, .fz r13.1])) (mk := fun r40 => (r40.1, r40.2)) (exe_tup (by decide) (axe_cons (exe_tup (by decide) (axe_consA ex_str (axe_cons (exe_ix (exe_atom (ex_var L 1 1 rfl rfl rfl)) (fun r28 => (exe_op op_addD rs_add (exe_pure (ex_op_aa op_addD rs_add (ex_var L 2 2 rfl rfl rfl) ex_int)) (fun r30 => (exe_callO1 L 0 0 0 rfl rfl rfl h__law_take (Nat.le_refl _) (fun _ => rfl) (fun _ _ => rfl) (axe_consP (ex_op_xa op_sub rs_sub (ex_op_xa op_sub rs_sub (ex_callB L 1 rfl z_len PySem.boot_len call_len rs_len (ax_consA (ex_var L 1 1 rfl rfl rfl) ax_nil)) (ex_var L 2 2 rfl rfl rfl)) ex_int) (fun x33 => axe_nil)))))) (fun _ _ => rfl)) (fun r38 => axe_nil)))) (fun r39 => axe_nil))) (fun _ => rfl) (fun _ => (.same (.no (.no (.no (.no (.no .nil)))))))
  refine bs_ifx (gN' := fun (_ : Unit) => []) (tx_cmp_aa (op_eqZ L.un) rs_eq (ex_var L 5 5 rfl rfl rfl) ex_int (nomark _)) ?_ ?_
  · 
    exact bs_ret_a (mk := fun x42 => (x42, r13.2)) (ex_tup (by decide) (ax_consA (ex_tup (by decide) (ax_consA ex_str (ax_consA ex_str ax_nil))) (ax_consA (ex_var L 3 3 rfl rfl rfl) ax_nil))) (fun _ => rfl) (fun _ => (.same (.no (.no (.no (.no (.no .nil)))))))
  exact bs_retE (S := (fun (t51 : D) => [.ow .l (some v0) t51, .fz a1, .fz a2, .fz r6.1, .fz r12.1, .fz r13.1])) (mk := fun r50 => (r50.1, r50.2)) (exe_tup (by decide) (axe_consA (ex_var L 3 3 rfl rfl rfl) (axe_cons (exe_tup (by decide) (axe_consA ex_str (axe_cons (exe_ix (exe_pure (ex_lst (by decide) (ax_consA ex_str (ax_consA ex_str (ax_consA ex_str (ax_cons (ex_ix_aa (ex_var L 1 1 rfl rfl rfl) ex_int (fun _ _ => rfl)) (fun x43 => ax_nil))))))) (fun r45 => (exe_callO1 L 0 0 0 rfl rfl rfl h__law_take (Nat.le_refl _) (fun _ => rfl) (fun _ _ => rfl) (axe_consA ex_int axe_nil))) (fun _ _ => rfl)) (fun r48 => axe_nil)))) (fun r49 => axe_nil)))) (fun _ => rfl) (fun _ => (.same (.no (.no (.no (.no (.no .nil)))))))

theorem f__law_right {E : ME} {kk : Nat} (hd : DefAt E "_law_right" "_law_right" s__law_right ["_law_tape_here", "_law_symbols_here", "_law_at"]) (z_len : Free E "len") (h__law_take : FnM E kk "_law_take" (CO1 .l (fun t => g1 (m__law_take t)))) : FnM E (kk + 1) "_law_right" (CO1 .l (fun t => g2 (m__law_right t))) :=
  hd.fn (N := ["_law_tape_here", "_law_symbols_here", "_law_at", "_law_one", "_law_two", "_law_draw"]) (W := ["_law_tape_here", "_law_symbols_here", "_law_at", "_law_one", "_law_two", "_law_draw"]) (G := ["_law_take", "len"]) (Sl := ["_law_tape_here", "_law_symbols_here", "_law_at", "_law_one", "_law_two", "_law_draw"]) ⟨rfl, rfl, rfl, by decide +kernel, rfl, by decide +kernel, by decide +kernel⟩ (by decide +kernel) (by decide +kernel)
    (fun Γ0 r Γ1 ⟨v, x, xs, y, h1, h2, h3⟩ => match xs, h2 with | [_, _], _ => by subst h1; rfl)
    fun X L Γ0 r Γ1 ⟨v0, a0, xs, y, h1, h2, h3⟩ => match xs, h2 with
      | [a1, a2], h2 => by
        subst h1 h3
        exact body_of (d := Empty.elim) (rr := (r, y)) (b__law_right L z_len h__law_take v0 a0 a1 a2) h2 (.ow (.no (.no .nil))) (fun n => n.elim)

abbrev s__law_switch_diagram : Stmt := top 37

def m__law_switch_diagram_b (a0 : D) (a1 : D) : Option (Ctl Empty Empty (D × D)) :=
  (m__law_take a0 a1).bind fun r1 => (m__law_take r1.2 (.int 6)).bind fun r2 => (((pEq r2.1 (.int 4)).bind dBool).bind fun k3 => if k3 = true then (pGt a1 (.int 1)).bind dBool else some false).bind fun k12 => if k12 = true then Ctl.ex (some (.rt ((.tuple [(.int 0), (.tuple [(.int 1), (.bool false), (.bool true)]), (.bool true)]), r2.2)) : Option (Ctl Unit Empty (D × D))) else (((pEq r2.1 (.int 5)).bind dBool).bind fun k5 => if k5 = true then (pGt a1 (.int 1)).bind dBool else some false).bind fun k11 => if k11 = true then Ctl.ex ((((pSub a1 (.int 1)).bind fun x6 => some (.tuple [x6, (.bool true), (.bool false)])).bind fun x7 => some (.tuple [(.int 0), (.bool false), x7])).bind fun x8 => some (.rt (x8, r2.2)) : Option (Ctl Unit Empty (D × D))) else (((pLt r2.1 (.int 2)).bind dBool).bind fun k9 => if k9 = true then some (.tuple [r1.1, (.bool false), (.bool true)]) else some (.tuple [r1.1, (.bool true), (.bool false)])).bind fun x10 => some (.rt (x10, r2.2))
def m__law_switch_diagram (a0 : D) (a1 : D) : Option (D × D) := Ctl.fin Empty.elim (m__law_switch_diagram_b a0 a1)

theorem b__law_switch_diagram {X : Cx} {E : ME} {kk : Nat} (L : LX X E kk ["_law_tape_here", "_law_count", "_law_i", "_law_draw"] ["_law_tape_here", "_law_count", "_law_i", "_law_draw"] ["_law_take"] ["_law_tape_here", "_law_count", "_law_i", "_law_draw"] (defScope s__law_switch_diagram)) (h__law_take : FnM E kk "_law_take" (CO1 .l (fun t => g1 (m__law_take t)))) (v0 : V) (a0 : D) (a1 : D) :
    BS X [.ow .l (some v0) a0, .fz a1, .no, .no] (defBody s__law_switch_diagram) (m__law_switch_diagram_b a0 a1) Empty.elim Empty.elim (fun (r : (D × D)) => [.ow .l (some v0) r.2, .no, .no, .no]) (fun r => r.1) := by
  unfold m__law_switch_diagram_b
  refine bs_setE (S := (fun (t14 : D) => [.ow .l (some v0) t14, .fz a1, .no, .no])) L 2 2 rfl rfl (exe_callO1 L 0 0 0 rfl rfl rfl h__law_take (Nat.le_refl _) (fun _ => rfl) (fun _ _ => rfl) (axe_consA (ex_var L 1 1 rfl rfl rfl) axe_nil)) (fun r1 => ?_)
  refine bs_setE (S := (fun (t13 : D) => [.ow .l (some v0) t13, .fz a1, .fz r1.1, .no])) L 3 3 rfl rfl (exe_callO1 L 0 0 0 rfl rfl rfl h__law_take (Nat.le_refl _) (fun _ => rfl) (fun _ _ => rfl) (axe_consA ex_int axe_nil)) (fun r2 => ?_)
  refine bs_ifx (gN' := fun (_ : Unit) => []) (tx_w (wx_and (tx_cmp_aa (op_eqZ L.un) rs_eq (ex_var L 3 3 rfl rfl rfl) ex_int (nomark _)) (wx_and1 (tx_cmp_aa (op_gtZ L.un) rs_gt (ex_var L 1 1 rfl rfl rfl) ex_int (nomark _))))) ?_ ?_
  · 
    exact bs_ret_a (mk := fun x4 => (x4, r2.2)) (ex_tup (by decide) (ax_consA ex_int (ax_consA (ex_tup (by decide) (ax_consA ex_int (ax_consA ex_bool (ax_consA ex_bool ax_nil)))) (ax_consA ex_bool ax_nil)))) (fun _ => rfl) (fun _ => (.same (.no (.no (.no .nil)))))
  refine bs_ifx (gN' := fun (_ : Unit) => []) (tx_w (wx_and (tx_cmp_aa (op_eqZ L.un) rs_eq (ex_var L 3 3 rfl rfl rfl) ex_int (nomark _)) (wx_and1 (tx_cmp_aa (op_gtZ L.un) rs_gt (ex_var L 1 1 rfl rfl rfl) ex_int (nomark _))))) ?_ ?_
  · 
    exact bs_ret (mk := fun x8 => (x8, r2.2)) (ex_tup (by decide) (ax_consA ex_int (ax_consA ex_bool (ax_cons (ex_tup (by decide) (ax_cons (ex_op_aa op_sub rs_sub (ex_var L 1 1 rfl rfl rfl) ex_int) (fun x6 => (ax_consA ex_bool (ax_consA ex_bool ax_nil))))) (fun x7 => ax_nil))))) (fun _ => rfl) (fun _ => (.same (.no (.no (.no .nil)))))
  exact bs_ret (mk := fun x10 => (x10, r2.2)) (ex_if (tx_cmp_aa (op_ltZ L.un) rs_lt (ex_var L 3 3 rfl rfl rfl) ex_int (nomark _)) (ex_tup (by decide) (ax_consA (ex_var L 2 2 rfl rfl rfl) (ax_consA ex_bool (ax_consA ex_bool ax_nil)))) (ex_tup (by decide) (ax_consA (ex_var L 2 2 rfl rfl rfl) (ax_consA ex_bool (ax_consA ex_bool ax_nil))))) (fun _ => rfl) (fun _ => (.same (.no (.no (.no .nil)))))

theorem f__law_switch_diagram {E : ME} {kk : Nat} (hd : DefAt E "_law_switch_diagram" "_law_switch_diagram" s__law_switch_diagram ["_law_tape_here", "_law_count"]) (h__law_take : FnM E kk "_law_take" (CO1 .l (fun t => g1 (m__law_take t)))) : FnM E (kk + 1) "_law_switch_diagram" (CO1 .l (fun t => g1 (m__law_switch_diagram t))) :=
  hd.fn (N := ["_law_tape_here", "_law_count", "_law_i", "_law_draw"]) (W := ["_law_tape_here", "_law_count", "_law_i", "_law_draw"]) (G := ["_law_take"]) (Sl := ["_law_tape_here", "_law_count", "_law_i", "_law_draw"]) ⟨rfl, rfl, rfl, by decide +kernel, rfl, by decide +kernel, by decide +kernel⟩ (by decide +kernel) (by decide +kernel)
    (fun Γ0 r Γ1 ⟨v, x, xs, y, h1, h2, h3⟩ => match xs, h2 with | [_], _ => by subst h1; rfl)
    fun X L Γ0 r Γ1 ⟨v0, a0, xs, y, h1, h2, h3⟩ => match xs, h2 with
      | [a1], h2 => by
        subst h1 h3
        exact body_of (d := Empty.elim) (rr := (r, y)) (b__law_switch_diagram L h__law_take v0 a0 a1) h2 (.ow (.no .nil)) (fun n => n.elim)

abbrev s__law_diagram : Stmt := top 38

def m__law_diagram_b (a0 : D) (a1 : D) : Option (Ctl Empty Empty (D × D)) :=
  ((m__law_take a0 (.int 3)).bind fun r1 => (some ((.int 0), r1.2)).bind fun r2 => ((pGt r1.1 r2.1).bind dBool).map fun z3 => (z3, r2.2)).bind fun r4 => if r4.1 = true then Ctl.ex (some (.rt ((.bool true), r4.2)) : Option (Ctl Unit Empty (D × D))) else (m__law_switch_diagram r4.2 a1).bind fun r7 => some (.rt (r7.1, r7.2))
def m__law_diagram (a0 : D) (a1 : D) : Option (D × D) := Ctl.fin Empty.elim (m__law_diagram_b a0 a1)

theorem b__law_diagram {X : Cx} {E : ME} {kk : Nat} (L : LX X E kk ["_law_tape_here", "_law_count"] ["_law_tape_here", "_law_count"] ["_law_take", "_law_switch_diagram"] ["_law_tape_here", "_law_count"] (defScope s__law_diagram)) (h__law_switch_diagram : FnM E kk "_law_switch_diagram" (CO1 .l (fun t => g1 (m__law_switch_diagram t)))) (h__law_take : FnM E kk "_law_take" (CO1 .l (fun t => g1 (m__law_take t)))) (v0 : V) (a0 : D) (a1 : D) :
    BS X [.ow .l (some v0) a0, .fz a1] (defBody s__law_diagram) (m__law_diagram_b a0 a1) Empty.elim Empty.elim (fun (r : (D × D)) => [.ow .l (some v0) r.2, .no]) (fun r => r.1) := by
  unfold m__law_diagram_b
  refine bs_ifxR (S := (fun (t5 : D) => [.ow .l (some v0) t5, .fz a1])) (gN' := fun (_ : Unit) => []) (txe_cmp (op_gtZ L.un) rs_gt (exe_callO1 L 0 0 0 rfl rfl rfl h__law_take (Nat.le_refl _) (fun _ => rfl) (fun _ _ => rfl) (axe_consA ex_int axe_nil)) (fun r1 => (exe_atom ex_int)) (nomark _)) (fun r4 => ?_) (fun r4 => ?_)
  · 
    exact bs_ret_a (mk := fun x6 => (x6, r4.2)) ex_bool (fun _ => rfl) (fun _ => (.same (.no .nil)))
  exact bs_retE (S := (fun (t8 : D) => [.ow .l (some v0) t8, .fz a1])) (mk := fun r7 => (r7.1, r7.2)) (exe_callO1 L 1 0 0 rfl rfl rfl h__law_switch_diagram (Nat.le_refl _) (fun _ => rfl) (fun _ _ => rfl) (axe_consA (ex_var L 1 1 rfl rfl rfl) axe_nil)) (fun _ => rfl) (fun _ => (.same (.no .nil)))

theorem f__law_diagram {E : ME} {kk : Nat} (hd : DefAt E "_law_diagram" "_law_diagram" s__law_diagram ["_law_tape_here", "_law_count"]) (h__law_switch_diagram : FnM E kk "_law_switch_diagram" (CO1 .l (fun t => g1 (m__law_switch_diagram t)))) (h__law_take : FnM E kk "_law_take" (CO1 .l (fun t => g1 (m__law_take t)))) : FnM E (kk + 1) "_law_diagram" (CO1 .l (fun t => g1 (m__law_diagram t))) :=
  hd.fn (N := ["_law_tape_here", "_law_count"]) (W := ["_law_tape_here", "_law_count"]) (G := ["_law_take", "_law_switch_diagram"]) (Sl := ["_law_tape_here", "_law_count"]) ⟨rfl, rfl, rfl, by decide +kernel, rfl, by decide +kernel, by decide +kernel⟩ (by decide +kernel) (by decide +kernel)
    (fun Γ0 r Γ1 ⟨v, x, xs, y, h1, h2, h3⟩ => match xs, h2 with | [_], _ => by subst h1; rfl)
    fun X L Γ0 r Γ1 ⟨v0, a0, xs, y, h1, h2, h3⟩ => match xs, h2 with
      | [a1], h2 => by
        subst h1 h3
        exact body_of (d := Empty.elim) (rr := (r, y)) (b__law_diagram L h__law_switch_diagram h__law_take v0 a0 a1) h2 (.ow (.no .nil)) (fun n => n.elim)

abbrev s__law_demands : Stmt := top 40

def m__law_demands_b (a0 : D) (a1 : D) : Option (Ctl Empty Empty (D × D)) :=
  ((m__law_take a0 (.int 4)).bind fun r1 => (some ((.int 0), r1.2)).bind fun r2 => ((pGt r1.1 r2.1).bind dBool).map fun z3 => (z3, r2.2)).bind fun r4 => if r4.1 = true then Ctl.ex (some (.rt ((.tuple []), r4.2)) : Option (Ctl Unit Empty (D × D))) else (m__law_take r4.2 a1).bind fun r7 => (((((pAdd r7.1 (.int 1)).map fun x9 => (x9, r7.2)).bind fun r10 => (((pSub a1 (.int 1)).bind fun x11 => pMax2 (.int 1) x11).bind fun x12 => m__law_take r10.2 x12).bind fun r13 => (pAdd r10.1 r13.1).map fun z14 => (z14, r13.2)).bind fun r15 => (pInt r15.1).map fun z8 => (z8, r15.2)).bind fun r16 => (some (a1, r16.2)).bind fun r17 => (pMod r16.1 r17.1).map fun z18 => (z18, r17.2)).bind fun r19 => Ctl.seq (((pNe r7.1 r19.1).bind dBool).bind fun k44 => if k44 = true then (pAdd (.list [(.tuple [(S "glued"), r7.1])]) (.list [(.tuple [(S "same"), r7.1, r19.1]), (.tuple [(S "right"), r7.1, r19.1]), (.tuple [(S "row"), r7.1, r19.1]), (.tuple [(S "right"), r19.1, r7.1]), (.tuple [(S "glued"), r19.1])])).bind fun x21 => some (.nx x21) else some (.nx (.list [(.tuple [(S "glued"), r7.1])])) : Option (Ctl D Empty (D × D))) fun (n20 : D) => Ctl.seq (((((m__law_take r19.2 (.int 3)).bind fun r33 => (some ((.int 0), r33.2)).bind fun r34 => ((pGt r33.1 r34.1).bind dBool).map fun z35 => (z35, r34.2)).bind fun r36 => if r36.1 = true then some ((.int 1), r36.2) else some ((.int 4), r36.2)).bind fun r37 => (pRg1 r37.1).map fun x38 => (x38, r37.2)).bind fun r39 => forC (fun x23 s22 => (((some (n20, s22.1)).bind fun r24 => ((pLen n20).bind fun x25 => m__law_take r24.2 x25).bind fun r26 => (pIdx r24.1 r26.1).map fun z27 => (z27, r26.2)).bind fun r28 => ((pNotIn r28.1 s22.2).bind dBool).bind fun k30 => if k30 = true then (pApp s22.2 r28.1).bind fun z29 => some (.nx (r28.2, z29)) else some (.nx (r28.2, s22.2)) : Option (Ctl (D × D) (D × D) (D × D)))) r39.1 ((fun t40 => (t40, (.list []))) r39.2) : Option (Ctl (D × D) Empty (D × D))) fun (s42 : D × D) => (pTuple s42.2).bind fun x43 => some (.rt (x43, s42.1))
def m__law_demands (a0 : D) (a1 : D) : Option (D × D) := Ctl.fin Empty.elim (m__law_demands_b a0 a1)

theorem b__law_demands {X : Cx} {E : ME} {kk : Nat} (L : LX X E kk ["_law_tape_here", "_law_many_here", "_law_p", "_law_q", "_law_rows", "_law_found", "_law_turn", "_law_row"] ["_law_tape_here", "_law_many_here", "_law_p", "_law_q", "_law_rows", "_law_found", "_law_turn", "_law_row"] ["_law_take", "int", "max", "range", "len", "tuple"] ["_law_tape_here", "_law_many_here", "_law_p", "_law_q", "_law_rows", "_law_found", "_law_turn", "_law_row"] (defScope s__law_demands)) (z_int : Free E "int") (z_len : Free E "len") (z_max : Free E "max") (z_range : Free E "range") (z_tuple : Free E "tuple") (h__law_take : FnM E kk "_law_take" (CO1 .l (fun t => g1 (m__law_take t)))) (v0 : V) (a0 : D) (a1 : D) :
    BS X [.ow .l (some v0) a0, .fz a1, .no, .no, .no, .no, .no, .no] (defBody s__law_demands) (m__law_demands_b a0 a1) Empty.elim Empty.elim (fun (r : (D × D)) => [.ow .l (some v0) r.2, .no, .no, .no, .no, .no, .no, .no]) (fun r => r.1) := by
  unfold m__law_demands_b
  refine bs_ifxR (S := (fun (t5 : D) => [.ow .l (some v0) t5, .fz a1, .no, .no, .no, .no, .no, .no])) (gN' := fun (_ : Unit) => []) (txe_cmp (op_gtZ L.un) rs_gt (exe_callO1 L 0 0 0 rfl rfl rfl h__law_take (Nat.le_refl _) (fun _ => rfl) (fun _ _ => rfl) (axe_consA ex_int axe_nil)) (fun r1 => (exe_atom ex_int)) (nomark _)) (fun r4 => ?_) (fun r4 => ?_)
  · 
    exact bs_ret_a (mk := fun x6 => (x6, r4.2)) (ex_tup (by decide) ax_nil) (fun _ => rfl) (fun _ => (.same (.no (.no (.no (.no (.no (.no (.no .nil)))))))))
  refine bs_setE (S := (fun (t46 : D) => [.ow .l (some v0) t46, .fz a1, .no, .no, .no, .no, .no, .no])) L 2 2 rfl rfl (exe_callO1 L 0 0 0 rfl rfl rfl h__law_take (Nat.le_refl _) (fun _ => rfl) (fun _ _ => rfl) (axe_consA (ex_var L 1 1 rfl rfl rfl) axe_nil)) (fun r7 => ?_)
  refine bs_setE (S := (fun (t45 : D) => [.ow .l (some v0) t45, .fz a1, .fz r7.1, .no, .no, .no, .no, .no])) L 3 3 rfl rfl (exe_op op_mod rs_mod (exe_callT L 1 rfl z_int PyProof.Rows.boot_int call_int rs_int (axe_cons (exe_op op_addD rs_add (exe_pure (ex_op_aa op_addD rs_add (ex_var L 2 2 rfl rfl rfl) ex_int)) (fun r10 => (exe_callO1 L 0 0 0 rfl rfl rfl h__law_take (Nat.le_refl _) (fun _ => rfl) (fun _ _ => rfl) (axe_consP (ex_callB L 2 rfl z_max PyProof.Rows.boot_max (call_max2 L.calm) rs_max2 (ax_consA ex_int (ax_cons (ex_op_aa op_sub rs_sub (ex_var L 1 1 rfl rfl rfl) ex_int) (fun x11 => ax_nil)))) (fun x12 => axe_nil))))) (fun r15 => axe_nil))) (fun r16 => (exe_atom (ex_var L 1 1 rfl rfl rfl)))) (fun r19 => ?_)
  refine bs_set_a L 4 4 rfl rfl (ex_lst (by decide) (ax_consA (ex_tup (by decide) (ax_consA ex_str (ax_consA (ex_var L 2 2 rfl rfl rfl) ax_nil))) ax_nil)) ?_
  refine bs_seq (gN' := (fun (n20 : D) => [.ow .l (some v0) r19.2, .fz a1, .fz r7.1, .fz r19.1, .fz n20, .no, .no, .no])) (ss_if (tx_cmp_aa (op_neZ L.un) rs_ne (ex_var L 2 2 rfl rfl rfl) (ex_var L 3 3 rfl rfl rfl) (nomark _)) ?_ ?_) ?_
  · 
      refine bs_set L 4 4 rfl rfl (ex_op_aa op_addD rs_add (ex_var (x := (.list [(.tuple [(S "glued"), r7.1])])) L 4 4 rfl rfl rfl) (ex_lst (by decide) (ax_consA (ex_tup (by decide) (ax_consA ex_str (ax_consA (ex_var L 2 2 rfl rfl rfl) (ax_consA (ex_var L 3 3 rfl rfl rfl) ax_nil)))) (ax_consA (ex_tup (by decide) (ax_consA ex_str (ax_consA (ex_var L 2 2 rfl rfl rfl) (ax_consA (ex_var L 3 3 rfl rfl rfl) ax_nil)))) (ax_consA (ex_tup (by decide) (ax_consA ex_str (ax_consA (ex_var L 2 2 rfl rfl rfl) (ax_consA (ex_var L 3 3 rfl rfl rfl) ax_nil)))) (ax_consA (ex_tup (by decide) (ax_consA ex_str (ax_consA (ex_var L 3 3 rfl rfl rfl) (ax_consA (ex_var L 2 2 rfl rfl rfl) ax_nil)))) (ax_consA (ex_tup (by decide) (ax_consA ex_str (ax_consA (ex_var L 3 3 rfl rfl rfl) ax_nil))) ax_nil))))))) (fun x21 => ?_)
      exact bs_nil (.same (.same (.same (.same (.same (.no (.no (.no .nil))))))))
  · 
      exact bs_nil (.same (.same (.same (.same (.same (.no (.no (.no .nil))))))))
  intro n20
  refine bs_newl_a L 5 5 rfl rfl (by decide) ax_nil ?_
  refine bs_seq (gN' := (fun (s22 : D × D) => [.ow .l (some v0) s22.1, .fz a1, .fz r7.1, .fz r19.1, .fz n20, .ow .l none s22.2, .no, .no])) (ss_for1E (S := (fun (t41 : D) => [.ow .l (some v0) t41, .fz a1, .fz r7.1, .fz r19.1, .fz n20, .ow .l none (.list []), .no, .no])) (gS := (fun (s22 : D × D) => [.ow .l (some v0) s22.1, .fz a1, .fz r7.1, .fz r19.1, .fz n20, .ow .l none s22.2, .no, .no])) (s0 := fun t40 => (t40, (.list []))) L 6 6 rfl rfl (fun _ => (.same (.same (.same (.same (.same (.same (.no (.no .nil))))))))) (xie_rg1 L 3 rfl z_range (exe_ifR (txe_cmp (op_gtZ L.un) rs_gt (exe_callO1 L 0 0 0 rfl rfl rfl h__law_take (Nat.le_refl _) (fun _ => rfl) (fun _ _ => rfl) (axe_consA ex_int axe_nil)) (fun r33 => (exe_atom ex_int)) (nomark _)) (fun r36 => (exe_atom ex_int)) (fun r36 => (exe_atom ex_int)))) (fun s22 x23 => ?_)) ?_
  · 
    refine bs_setE (S := (fun (t31 : D) => [.ow .l (some v0) t31, .fz a1, .fz r7.1, .fz r19.1, .fz n20, .ow .l none s22.2, .fz x23, .no])) L 7 7 rfl rfl (exe_ix (exe_atom (ex_var L 4 4 rfl rfl rfl)) (fun r24 => (exe_callO1 L 0 0 0 rfl rfl rfl h__law_take (Nat.le_refl _) (fun _ => rfl) (fun _ _ => rfl) (axe_consP (ex_callB L 4 rfl z_len PySem.boot_len call_len rs_len (ax_consA (ex_var L 4 4 rfl rfl rfl) ax_nil)) (fun x25 => axe_nil)))) (fun _ _ => rfl)) (fun r28 => ?_)
    refine bs_one (ss_if (tx_borrow 5 rfl (tx_cmp_aa (op_notInA L.un) rs_notIn (ex_var L 7 7 rfl rfl rfl) (ex_var L 5 5 rfl rfl rfl) (by rfl))) ?_ ?_)
    · 
      refine bs_app_a L 5 5 rfl rfl rfl (ex_var L 7 7 rfl rfl rfl) (fun z29 => ?_)
      exact bs_nil (.same (.same (.same (.same (.same (.same (.no (.no .nil))))))))
    · 
      exact bs_nil (.same (.same (.same (.same (.same (.same (.no (.no .nil))))))))
  intro s42
  refine bs_freeze 5 rfl ?_
  exact bs_ret (mk := fun x43 => (x43, s42.1)) (ex_callT L 5 rfl z_tuple PyProof.Rows.boot_tuple call_tupleF rs_tuple (ax_consA (ex_var L 5 5 rfl rfl rfl) ax_nil)) (fun _ => rfl) (fun _ => (.same (.no (.no (.no (.no (.no (.no (.no .nil)))))))))

theorem f__law_demands {E : ME} {kk : Nat} (hd : DefAt E "_law_demands" "_law_demands" s__law_demands ["_law_tape_here", "_law_many_here"]) (z_int : Free E "int") (z_len : Free E "len") (z_max : Free E "max") (z_range : Free E "range") (z_tuple : Free E "tuple") (h__law_take : FnM E kk "_law_take" (CO1 .l (fun t => g1 (m__law_take t)))) : FnM E (kk + 1) "_law_demands" (CO1 .l (fun t => g1 (m__law_demands t))) :=
  hd.fn (N := ["_law_tape_here", "_law_many_here", "_law_p", "_law_q", "_law_rows", "_law_found", "_law_turn", "_law_row"]) (W := ["_law_tape_here", "_law_many_here", "_law_p", "_law_q", "_law_rows", "_law_found", "_law_turn", "_law_row"]) (G := ["_law_take", "int", "max", "range", "len", "tuple"]) (Sl := ["_law_tape_here", "_law_many_here", "_law_p", "_law_q", "_law_rows", "_law_found", "_law_turn", "_law_row"]) ⟨rfl, rfl, rfl, by decide +kernel, rfl, by decide +kernel, by decide +kernel⟩ (by decide +kernel) (by decide +kernel)
    (fun Γ0 r Γ1 ⟨v, x, xs, y, h1, h2, h3⟩ => match xs, h2 with | [_], _ => by subst h1; rfl)
    fun X L Γ0 r Γ1 ⟨v0, a0, xs, y, h1, h2, h3⟩ => match xs, h2 with
      | [a1], h2 => by
        subst h1 h3
        exact body_of (d := Empty.elim) (rr := (r, y)) (b__law_demands L z_int z_len z_max z_range z_tuple h__law_take v0 a0 a1) h2 (.ow (.no .nil)) (fun n => n.elim)

abbrev s__law_bars : Stmt := top 46

def m__law_bars_b (a0 : D) (a1 : D) (a2 : D) : Option (Ctl Empty Empty (D × D)) :=
  Ctl.seq (((((m__law_take a0 (.int 6)).bind fun r47 => (some ((.int 0), r47.2)).bind fun r48 => ((pGt r47.1 r48.1).bind dBool).map fun z49 => (z49, r48.2)).bind fun r50 => if r50.1 = true then m__law_take r50.2 (.int 4) else some ((.int 12), r50.2)).bind fun r51 => (pRg1 r51.1).map fun x52 => (x52, r51.2)).bind fun r53 => forC (fun x2 s1 => (((pLen a1).bind fun x3 => m__law_take s1.1 x3).bind fun r4 => ((((pIdx a1 r4.1).bind fun x5 => pIdx x5 (.int 1)).bind fun x6 => pLen x6).bind fun x7 => m__law_take r4.2 x7).bind fun r8 => (((pIdx a1 r4.1).bind fun x9 => pIdx x9 (.int 1)).bind fun x10 => pIdx x10 r8.1).bind fun x11 => (((pLen a1).bind pRg1).bind fun xs13 => (lcI (fun x14 => ((pIdx x11 (.int 0)).bind fun x15 => (pEq x15 (S "symbol")).bind dBool).bind fun k19 => if k19 = true then ((pIdx a1 x14).bind fun x16 => pIdx x16 (.int 0)).bind fun x17 => (pIdx x11 (.int 1)).bind fun y18 => (pEq x17 y18).bind dBool else some false) (fun x14 => some x14) xs13).map .list).bind fun x20 => ((pLen x20).bind fun x21 => (pGt x21 (.int 0)).bind dBool).bind fun k43 => if k43 = true then (((some (x20, r8.2)).bind fun r22 => ((pLen x20).bind fun x23 => m__law_take r22.2 x23).bind fun r24 => (pIdx r22.1 r24.1).map fun z25 => (z25, r24.2)).bind fun r26 => some (.tuple [r4.1, r8.1, r26.1], r26.2)).bind fun r27 => (((pIter s1.2).bind fun xs29 => (lcM (fun x30 => (pOpt (.int 3)).bind fun h32 => pSl x30 none h32) xs29).map .list).bind fun y33 => (pNotIn r27.1 y33).bind dBool).bind fun k41 => if k41 = true then ((some (r27.1, r27.2)).bind fun r35 => ((m__law_diagram r35.2 a2).bind fun r36 => some (.tuple [r36.1], r36.2)).bind fun r37 => (pAdd r35.1 r37.1).map fun z38 => (z38, r37.2)).bind fun r39 => (pApp s1.2 r39.1).bind fun z34 => some (.nx (r39.2, z34)) else some (.nx (r27.2, s1.2)) else some (.nx (r8.2, s1.2)) : Option (Ctl (D × D) (D × D) (D × D)))) r53.1 ((fun t54 => (t54, (.list []))) r53.2) : Option (Ctl (D × D) Empty (D × D))) fun (s56 : D × D) => (((pIter s56.2).bind fun xs58 => (lcM (fun x59 => (pOpt (.int 3)).bind fun h61 => pSl x59 none h61) xs58).map .list).bind fun x62 => pSorted x62).bind fun x63 => (((pIter x63).bind fun xs65 => (lcM (fun x66 => ((pIter s56.2).bind fun xs68 => (lcI (fun x69 => ((pOpt (.int 3)).bind fun h71 => pSl x69 none h71).bind fun x72 => (pEq x72 x66).bind dBool) (fun x69 => some x69) xs68).map .list).bind fun x73 => pIdx x73 (.int 0)) xs65).map .list).bind fun x74 => pTuple x74).bind fun x75 => some (.rt (x75, s56.1))
def m__law_bars (a0 : D) (a1 : D) (a2 : D) : Option (D × D) := Ctl.fin Empty.elim (m__law_bars_b a0 a1 a2)

theorem b__law_bars {X : Cx} {E : ME} {kk : Nat} (L : LX X E kk ["_law_tape_here", "_law_rules", "_law_count", "_law_found", "_law_turn", "_law_r", "_law_p", "_law_part", "_law_below_here", "_law_bar", "_law_order", "_law_k", "_law_other", "_law_key"] ["_law_tape_here", "_law_rules", "_law_count", "_law_found", "_law_turn", "_law_r", "_law_p", "_law_part", "_law_below_here", "_law_bar", "_law_order"] ["range", "_law_take", "len", "_law_diagram", "sorted", "tuple"] ["_law_tape_here", "_law_rules", "_law_count", "_law_found", "_law_turn", "_law_r", "_law_p", "_law_part", "_law_below_here", "_law_bar", "_law_order"] (defScope s__law_bars)) (z_len : Free E "len") (z_range : Free E "range") (z_sorted : Free E "sorted") (z_tuple : Free E "tuple") (h__law_diagram : FnM E kk "_law_diagram" (CO1 .l (fun t => g1 (m__law_diagram t)))) (h__law_take : FnM E kk "_law_take" (CO1 .l (fun t => g1 (m__law_take t)))) (v0 : V) (a0 : D) (a1 : D) (a2 : D) :
    BS X [.ow .l (some v0) a0, .fz a1, .fz a2, .no, .no, .no, .no, .no, .no, .no, .no, .no, .no, .no] (defBody s__law_bars) (m__law_bars_b a0 a1 a2) Empty.elim Empty.elim (fun (r : (D × D)) => [.ow .l (some v0) r.2, .no, .no, .no, .no, .no, .no, .no, .no, .no, .no, .no, .no, .no]) (fun r => r.1) := by
  unfold m__law_bars_b
  refine bs_newl_a L 3 3 rfl rfl (by decide) ax_nil ?_
  refine bs_seq (gN' := (fun (s1 : D × D) => [.ow .l (some v0) s1.1, .fz a1, .fz a2, .ow .l none s1.2, .no, .no, .no, .no, .no, .no, .no, .no, .no, .no])) (ss_for1E (S := (fun (t55 : D) => [.ow .l (some v0) t55, .fz a1, .fz a2, .ow .l none (.list []), .no, .no, .no, .no, .no, .no, .no, .no, .no, .no])) (gS := (fun (s1 : D × D) => [.ow .l (some v0) s1.1, .fz a1, .fz a2, .ow .l none s1.2, .no, .no, .no, .no, .no, .no, .no, .no, .no, .no])) (s0 := fun t54 => (t54, (.list []))) L 4 4 rfl rfl (fun _ => (.same (.same (.same (.same (.no (.no (.no (.no (.no (.no (.no (.no (.no (.no .nil))))))))))))))) (xie_rg1 L 0 rfl z_range (exe_ifR (txe_cmp (op_gtZ L.un) rs_gt (exe_callO1 L 1 0 0 rfl rfl rfl h__law_take (Nat.le_refl _) (fun _ => rfl) (fun _ _ => rfl) (axe_consA ex_int axe_nil)) (fun r47 => (exe_atom ex_int)) (nomark _)) (fun r50 => (exe_callO1 L 1 0 0 rfl rfl rfl h__law_take (Nat.le_refl _) (fun _ => rfl) (fun _ _ => rfl) (axe_consA ex_int axe_nil))) (fun r50 => (exe_atom ex_int)))) (fun s1 x2 => ?_)) ?_
  · 
    refine bs_setE (S := (fun (t45 : D) => [.ow .l (some v0) t45, .fz a1, .fz a2, .ow .l none s1.2, .fz x2, .no, .no, .no, .no, .no, .no, .no, .no, .no])) L 5 5 rfl rfl (exe_callO1 L 1 0 0 rfl rfl rfl h__law_take (Nat.le_refl _) (fun _ => rfl) (fun _ _ => rfl) (axe_consP (ex_callB L 2 rfl z_len PySem.boot_len call_len rs_len (ax_consA (ex_var L 1 1 rfl rfl rfl) ax_nil)) (fun x3 => axe_nil))) (fun r4 => ?_)
    refine bs_setE (S := (fun (t44 : D) => [.ow .l (some v0) t44, .fz a1, .fz a2, .ow .l none s1.2, .fz x2, .fz r4.1, .no, .no, .no, .no, .no, .no, .no, .no])) L 6 6 rfl rfl (exe_callO1 L 1 0 0 rfl rfl rfl h__law_take (Nat.le_refl _) (fun _ => rfl) (fun _ _ => rfl) (axe_consP (ex_callB L 2 rfl z_len PySem.boot_len call_len rs_len (ax_cons (ex_ix_xa (ex_ix_aa (ex_var L 1 1 rfl rfl rfl) (ex_var L 5 5 rfl rfl rfl) (fun _ _ => rfl)) ex_int (fun _ _ => rfl)) (fun x6 => ax_nil))) (fun x7 => axe_nil))) (fun r8 => ?_)
    refine bs_set L 7 7 rfl rfl (ex_ix_xa (ex_ix_xa (ex_ix_aa (ex_var L 1 1 rfl rfl rfl) (ex_var L 5 5 rfl rfl rfl) (fun _ _ => rfl)) ex_int (fun _ _ => rfl)) (ex_var L 6 6 rfl rfl rfl) (fun _ _ => rfl)) (fun x11 => ?_)
    refine bs_setC L 8 rfl (by decide +kernel) (ex_lcI1 (Wb := ["_law_k", "_law_part", "_law_rules"]) (Gb := []) (Sb := ["_law_k"]) L 11 0 rfl rfl (by decide +kernel) (xi_rg1 L 0 rfl z_range (ex_callB L 2 rfl z_len PySem.boot_len call_len rs_len (ax_consA (ex_var L 1 1 rfl rfl rfl) ax_nil))) (fun _ L12 x14 => (tx_w (wx_and (tx_cmp_xa (op_eqZ L12.un) rs_eq (ex_ix_aa (ex_var L12 7 1 rfl rfl rfl) ex_int (fun _ _ => rfl)) ex_str (nomark _)) (wx_and1 (tx_cmp (op_eqZ L12.un) rs_eq (ex_ix_xa (ex_ix_aa (ex_var L12 1 2 rfl rfl rfl) (ex_var L12 11 0 rfl rfl rfl) (fun _ _ => rfl)) ex_int (fun _ _ => rfl)) (ex_ix_aa (ex_var L12 7 1 rfl rfl rfl) ex_int (fun _ _ => rfl)) (nomark _)))))) (fun _ L12 x14 => (ex_var L12 11 0 rfl rfl rfl))) (fun x20 => ?_) (swT L (by decide +kernel) (by rfl)).1
    refine bs_one (ss_if (tx_cmp_xa (op_gtZ L.un) rs_gt (ex_callB L 2 rfl z_len PySem.boot_len call_len rs_len (ax_consA (ex_var L 8 8 rfl rfl rfl) ax_nil)) ex_int (nomark _)) ?_ ?_)
    · 
      refine bs_setE (S := (fun (t42 : D) => [.ow .l (some v0) t42, .fz a1, .fz a2, .ow .l none s1.2, .fz x2, .fz r4.1, .fz r8.1, .fz x11, .fz x20, .no, .no, .no, .no, .no])) L 9 9 rfl rfl (exe_tup (by decide) (axe_consA (ex_var L 5 5 rfl rfl rfl) (axe_consA (ex_var L 6 6 rfl rfl rfl) (axe_cons (exe_ix (exe_atom (ex_var L 8 8 rfl rfl rfl)) (fun r22 => (exe_callO1 L 1 0 0 rfl rfl rfl h__law_take (Nat.le_refl _) (fun _ => rfl) (fun _ _ => rfl) (axe_consP (ex_callB L 2 rfl z_len PySem.boot_len call_len rs_len (ax_consA (ex_var L 8 8 rfl rfl rfl) ax_nil)) (fun x23 => axe_nil)))) (fun _ _ => rfl)) (fun r26 => axe_nil))))) (fun r27 => ?_)
      refine bs_one (ss_if (tx_borrow 3 rfl (tx_cmp_ax (op_notInA L.un) rs_notIn (ex_var L 9 9 rfl rfl rfl) ((ex_lc1 (Wb := ["_law_other"]) (Gb := []) (Sb := ["_law_other"]) L 12 0 rfl rfl (by decide +kernel) (xi_val_a (ex_var L 3 3 rfl rfl rfl)) (fun _ L28 x30 => (ex_sl_an (ex_var L28 12 0 rfl rfl rfl) (xo_some_a ex_int))))).pe (by rfl))) ?_ ?_)
      · 
        refine bs_appE (S := (fun (t40 : D) => [.ow .l (some v0) t40, .fz a1, .fz a2, .ow .l none s1.2, .fz x2, .fz r4.1, .fz r8.1, .fz x11, .fz x20, .fz r27.1, .no, .no, .no, .no])) L 3 3 rfl rfl (fun t => s1.2) (fun _ => rfl) (exe_op op_addD rs_add (exe_atom (ex_var L 9 9 rfl rfl rfl)) (fun r35 => (exe_tup (by decide) (axe_cons (exe_callO1 L 3 0 0 rfl rfl rfl h__law_diagram (Nat.le_refl _) (fun _ => rfl) (fun _ _ => rfl) (axe_consA (ex_var L 2 2 rfl rfl rfl) axe_nil)) (fun r36 => axe_nil))))) (fun r39 z34 => ?_)
        exact bs_nil (.same (.same (.same (.same (.no (.no (.no (.no (.no (.no (.no (.no (.no (.no .nil))))))))))))))
      · 
        exact bs_nil (.same (.same (.same (.same (.no (.no (.no (.no (.no (.no (.no (.no (.no (.no .nil))))))))))))))
    · 
      exact bs_nil (.same (.same (.same (.same (.no (.no (.no (.no (.no (.no (.no (.no (.no (.no .nil))))))))))))))
  intro s56
  refine bs_freeze 3 rfl ?_
  refine bs_set L 10 10 rfl rfl (ex_callB L 4 rfl z_sorted PyProof.Rows.boot_sorted (cr_sortedD L.un) rs_sorted (ax_cons ((ex_lc1 (Wb := ["_law_bar"]) (Gb := []) (Sb := ["_law_bar"]) L 9 0 rfl rfl (by decide +kernel) (xi_val_a (ex_var L 3 3 rfl rfl rfl)) (fun _ L57 x59 => (ex_sl_an (ex_var L57 9 0 rfl rfl rfl) (xo_some_a ex_int))))).pe (fun x62 => ax_nil))) (fun x63 => ?_)
  exact bs_ret (mk := fun x75 => (x75, s56.1)) (ex_callT L 5 rfl z_tuple PyProof.Rows.boot_tuple call_tupleF rs_tuple (ax_cons ((ex_lc1 (Wb := ["_law_key", "_law_found"]) (Gb := []) (Sb := ["_law_key"]) L 13 0 rfl rfl (by decide +kernel) (xi_val_a (ex_var L 10 10 rfl rfl rfl)) (fun _ L64 x66 => (ex_ix_xa ((ex_lcI1 (Wb := ["_law_bar", "_law_key"]) (Gb := []) (Sb := ["_law_bar"]) L64 9 0 rfl rfl (by decide +kernel) (xi_val_a (ex_var L64 3 1 rfl rfl rfl)) (fun _ L67 x69 => (tx_cmp_xa (op_eqZ L67.un) rs_eq (ex_sl_an (ex_var L67 9 0 rfl rfl rfl) (xo_some_a ex_int)) (ex_var L67 13 1 rfl rfl rfl) (nomark _))) (fun _ L67 x69 => (ex_var L67 9 0 rfl rfl rfl)))).pe ex_int (fun _ _ => rfl))))).pe (fun x74 => ax_nil))) (fun _ => rfl) (fun _ => (.same (.no (.no (.no (.no (.no (.no (.no (.no (.no (.no (.no (.no (.no .nil)))))))))))))))

theorem f__law_bars {E : ME} {kk : Nat} (hd : DefAt E "_law_bars" "_law_bars" s__law_bars ["_law_tape_here", "_law_rules", "_law_count"]) (z_len : Free E "len") (z_range : Free E "range") (z_sorted : Free E "sorted") (z_tuple : Free E "tuple") (h__law_diagram : FnM E kk "_law_diagram" (CO1 .l (fun t => g1 (m__law_diagram t)))) (h__law_take : FnM E kk "_law_take" (CO1 .l (fun t => g1 (m__law_take t)))) : FnM E (kk + 1) "_law_bars" (CO1 .l (fun t => g2 (m__law_bars t))) :=
  hd.fn (N := ["_law_tape_here", "_law_rules", "_law_count", "_law_found", "_law_turn", "_law_r", "_law_p", "_law_part", "_law_below_here", "_law_bar", "_law_order", "_law_k", "_law_other", "_law_key"]) (W := ["_law_tape_here", "_law_rules", "_law_count", "_law_found", "_law_turn", "_law_r", "_law_p", "_law_part", "_law_below_here", "_law_bar", "_law_order"]) (G := ["range", "_law_take", "len", "_law_diagram", "sorted", "tuple"]) (Sl := ["_law_tape_here", "_law_rules", "_law_count", "_law_found", "_law_turn", "_law_r", "_law_p", "_law_part", "_law_below_here", "_law_bar", "_law_order"]) ⟨rfl, rfl, rfl, by decide +kernel, rfl, by decide +kernel, by decide +kernel⟩ (by decide +kernel) (by decide +kernel)
    (fun Γ0 r Γ1 ⟨v, x, xs, y, h1, h2, h3⟩ => match xs, h2 with | [_, _], _ => by subst h1; rfl)
    fun X L Γ0 r Γ1 ⟨v0, a0, xs, y, h1, h2, h3⟩ => match xs, h2 with
      | [a1, a2], h2 => by
        subst h1 h3
        exact body_of (d := Empty.elim) (rr := (r, y)) (b__law_bars L z_len z_range z_sorted z_tuple h__law_diagram h__law_take v0 a0 a1 a2) h2 (.ow (.no (.no .nil))) (fun n => n.elim)

abbrev s__law_base : Stmt := top 42

def m__law_base_b (a0 : D) : Option (Ctl Empty Empty (D × D)) :=
  ((some ((.list [(.tuple [(.tuple [(S "kind"), (S "number")])]), (.tuple [(.tuple [(S "kind"), (S "word")])]), (.tuple [(.tuple [(S "text"), (S "a")])]), (.tuple [(.tuple [(S "text"), (S "word")])]), (.tuple [(.tuple [(S "kind"), (S "number")])])]), a0)).bind fun r1 => (m__law_take r1.2 (.int 5)).bind fun r2 => (pIdx r1.1 r2.1).map fun z3 => (z3, r2.2)).bind fun r4 => some (.rt (r4.1, r4.2))
def m__law_base (a0 : D) : Option (D × D) := Ctl.fin Empty.elim (m__law_base_b a0)

theorem b__law_base {X : Cx} {E : ME} {kk : Nat} (L : LX X E kk ["_law_tape_here"] ["_law_tape_here"] ["_law_take"] ["_law_tape_here"] (defScope s__law_base)) (h__law_take : FnM E kk "_law_take" (CO1 .l (fun t => g1 (m__law_take t)))) (v0 : V) (a0 : D) :
    BS X [.ow .l (some v0) a0] (defBody s__law_base) (m__law_base_b a0) Empty.elim Empty.elim (fun (r : (D × D)) => [.ow .l (some v0) r.2]) (fun r => r.1) := by
  unfold m__law_base_b
  exact bs_retE (S := (fun (t5 : D) => [.ow .l (some v0) t5])) (mk := fun r4 => (r4.1, r4.2)) (exe_ix (exe_atom (ex_lst (by decide) (ax_consA (ex_tup (by decide) (ax_consA (ex_tup (by decide) (ax_consA ex_str (ax_consA ex_str ax_nil))) ax_nil)) (ax_consA (ex_tup (by decide) (ax_consA (ex_tup (by decide) (ax_consA ex_str (ax_consA ex_str ax_nil))) ax_nil)) (ax_consA (ex_tup (by decide) (ax_consA (ex_tup (by decide) (ax_consA ex_str (ax_consA ex_str ax_nil))) ax_nil)) (ax_consA (ex_tup (by decide) (ax_consA (ex_tup (by decide) (ax_consA ex_str (ax_consA ex_str ax_nil))) ax_nil)) (ax_consA (ex_tup (by decide) (ax_consA (ex_tup (by decide) (ax_consA ex_str (ax_consA ex_str ax_nil))) ax_nil)) ax_nil))))))) (fun r1 => (exe_callO1 L 0 0 0 rfl rfl rfl h__law_take (Nat.le_refl _) (fun _ => rfl) (fun _ _ => rfl) (axe_consA ex_int axe_nil))) (fun _ _ => rfl)) (fun _ => rfl) (fun _ => (.same .nil))

theorem f__law_base {E : ME} {kk : Nat} (hd : DefAt E "_law_base" "_law_base" s__law_base ["_law_tape_here"]) (h__law_take : FnM E kk "_law_take" (CO1 .l (fun t => g1 (m__law_take t)))) : FnM E (kk + 1) "_law_base" (CO1 .l (fun t => g0 (m__law_base t))) :=
  hd.fn (N := ["_law_tape_here"]) (W := ["_law_tape_here"]) (G := ["_law_take"]) (Sl := ["_law_tape_here"]) ⟨rfl, rfl, rfl, by decide +kernel, rfl, by decide +kernel, by decide +kernel⟩ (by decide +kernel) (by decide +kernel)
    (fun Γ0 r Γ1 ⟨v, x, xs, y, h1, h2, h3⟩ => match xs, h2 with | [], _ => by subst h1; rfl)
    fun X L Γ0 r Γ1 ⟨v0, a0, xs, y, h1, h2, h3⟩ => match xs, h2 with
      | [], h2 => by
        subst h1 h3
        exact body_of (d := Empty.elim) (rr := (r, y)) (b__law_base L h__law_take v0 a0) h2 (.ow .nil) (fun n => n.elim)

abbrev s__law_grammar : Stmt := top 44

def m__law_grammar_b (a0 : D) (a1 : D) : Option (Ctl Empty Empty (D × D)) :=
  (((m__law_take a0 (.int 6)).bind fun r1 => (some ((.int 0), r1.2)).bind fun r2 => ((pEq r1.1 r2.1).bind dBool).map fun z3 => (z3, r2.2)).bind fun r4 => if r4.1 = true then some ((.int 4), r4.2) else (some ((.int 1), r4.2)).bind fun r5 => (m__law_take r5.2 (.int 3)).bind fun r6 => (pAdd r5.1 r6.1).map fun z7 => (z7, r6.2)).bind fun r8 => (m__law_symbols r8.2 r8.1).bind fun r9 => Ctl.seq (((pLen r9.1).bind pRg1).bind fun xs24 => forC (fun x11 s10 => ((((m__law_take s10.2 (.int 12)).bind fun r12 => (some ((.int 0), r12.2)).bind fun r13 => ((pEq r12.1 r13.1).bind dBool).map fun z14 => (z14, r13.2)).bind fun r15 => if r15.1 = true then some ((.tuple [(.tuple [(S "glued"), (.int 0)])]), r15.2) else some ((.tuple []), r15.2)).bind fun r16 => ((pIdx r9.1 x11).bind fun x18 => (m__law_base r16.2).bind fun r19 => (m__law_diagram r19.2 a1).bind fun r20 => some (.tuple [x18, r19.1, r20.1, r16.1], r20.2)).bind fun r21 => (pApp s10.1 r21.1).bind fun z17 => some (.nx (z17, r21.2)) : Option (Ctl (D × D) (D × D) (D × D)))) xs24 ((.list []), r9.2) : Option (Ctl (D × D) Empty (D × D))) fun (s25 : D × D) => Ctl.seq (((((m__law_take s25.2 (.int 6)).bind fun r57 => (some ((.int 0), r57.2)).bind fun r58 => ((pEq r57.1 r58.1).bind dBool).map fun z59 => (z59, r58.2)).bind fun r60 => if r60.1 = true then some ((.int 8), r60.2) else (some ((.int 1), r60.2)).bind fun r61 => (m__law_take r61.2 (.int 5)).bind fun r62 => (pAdd r61.1 r62.1).map fun z63 => (z63, r62.2)).bind fun r64 => (pRg1 r64.1).map fun x65 => (x65, r64.2)).bind fun r66 => forC (fun x27 s26 => (((pLen r9.1).bind fun x28 => m__law_take s26.1 x28).bind fun r29 => (m__law_right r29.2 r9.1 r29.1).bind fun r30 => (m__law_diagram r30.2 a1).bind fun r31 => ((pLen r30.1).bind fun x32 => m__law_demands r31.2 x32).bind fun r33 => (((((pIdx r9.1 r29.1).bind fun x34 => some (.tuple [x34, r30.1])).bind fun x40 => ((pIter s26.2).bind fun xs36 => (lcM (fun x37 => (pOpt (.int 2)).bind fun h39 => pSl x37 none h39) xs36).map .list).bind fun y41 => (pNotIn x40 y41).bind dBool).map fun x42 => (x42, r33.2)).bind fun r43 => if r43.1 = true then some (true, r43.2) else (m__law_take r43.2 (.int 12)).bind fun r44 => (some ((.int 0), r44.2)).bind fun r45 => ((pEq r44.1 r45.1).bind dBool).map fun z46 => (z46, r45.2)).bind fun r47 => if r47.1 = true then ((pIdx r9.1 r29.1).bind fun x50 => some (.tuple [x50, r30.1, r31.1, r33.1])).bind fun y51 => (pApp s26.2 y51).bind fun z49 => some (.nx (r47.2, z49)) else some (.nx (r47.2, s26.2)) : Option (Ctl (D × D) (D × D) (D × D)))) r66.1 ((fun t67 => (t67, s25.1)) r66.2) : Option (Ctl (D × D) Empty (D × D))) fun (s69 : D × D) => (m__law_turned s69.1 s69.2).bind fun r70 => ((some (r9.1, r70.2)).bind fun r71 => ((pLen r9.1).bind fun x72 => m__law_take r71.2 x72).bind fun r73 => (pIdx r71.1 r73.1).map fun z74 => (z74, r73.2)).bind fun r75 => ((pTuple r70.1).bind fun x76 => (m__law_bars r75.2 r70.1 a1).bind fun r77 => some (.tuple [r75.1, x76, r77.1], r77.2)).bind fun r78 => some (.rt (r78.1, r78.2))
def m__law_grammar (a0 : D) (a1 : D) : Option (D × D) := Ctl.fin Empty.elim (m__law_grammar_b a0 a1)

theorem b__law_grammar {X : Cx} {E : ME} {kk : Nat} (L : LX X E kk ["_law_tape_here", "_law_count", "_law_many_here", "_law_symbols_here", "_law_rules", "_law_k", "_law_demands_here", "_law_turn", "_law_at", "_law_right_here", "_law_diagram_here", "_law_start", "_law_rule"] ["_law_tape_here", "_law_count", "_law_many_here", "_law_symbols_here", "_law_rules", "_law_k", "_law_demands_here", "_law_turn", "_law_at", "_law_right_here", "_law_diagram_here", "_law_start"] ["_law_take", "_law_symbols", "range", "len", "_law_base", "_law_diagram", "_law_right", "_law_demands", "_law_turned", "tuple", "_law_bars"] ["_law_tape_here", "_law_count", "_law_many_here", "_law_symbols_here", "_law_rules", "_law_k", "_law_demands_here", "_law_turn", "_law_at", "_law_right_here", "_law_diagram_here", "_law_start"] (defScope s__law_grammar)) (z_len : Free E "len") (z_range : Free E "range") (z_tuple : Free E "tuple") (h__law_bars : FnM E kk "_law_bars" (CO1 .l (fun t => g2 (m__law_bars t)))) (h__law_base : FnM E kk "_law_base" (CO1 .l (fun t => g0 (m__law_base t)))) (h__law_demands : FnM E kk "_law_demands" (CO1 .l (fun t => g1 (m__law_demands t)))) (h__law_diagram : FnM E kk "_law_diagram" (CO1 .l (fun t => g1 (m__law_diagram t)))) (h__law_right : FnM E kk "_law_right" (CO1 .l (fun t => g2 (m__law_right t)))) (h__law_symbols : FnM E kk "_law_symbols" (CO1 .l (fun t => g1 (m__law_symbols t)))) (h__law_take : FnM E kk "_law_take" (CO1 .l (fun t => g1 (m__law_take t)))) (h__law_turned : FnM E kk "_law_turned" (CO1 .l (fun t => g1 (m__law_turned t)))) (v0 : V) (a0 : D) (a1 : D) :
    BS X [.ow .l (some v0) a0, .fz a1, .no, .no, .no, .no, .no, .no, .no, .no, .no, .no, .no] (defBody s__law_grammar) (m__law_grammar_b a0 a1) Empty.elim Empty.elim (fun (r : (D × D)) => [.ow .l (some v0) r.2, .no, .no, .no, .no, .no, .no, .no, .no, .no, .no, .no, .no]) (fun r => r.1) := by
  unfold m__law_grammar_b
  refine bs_setE (S := (fun (t83 : D) => [.ow .l (some v0) t83, .fz a1, .no, .no, .no, .no, .no, .no, .no, .no, .no, .no, .no])) L 2 2 rfl rfl (exe_ifR (txe_cmp (op_eqZ L.un) rs_eq (exe_callO1 L 0 0 0 rfl rfl rfl h__law_take (Nat.le_refl _) (fun _ => rfl) (fun _ _ => rfl) (axe_consA ex_int axe_nil)) (fun r1 => (exe_atom ex_int)) (nomark _)) (fun r4 => (exe_atom ex_int)) (fun r4 => (exe_op op_addD rs_add (exe_atom ex_int) (fun r5 => (exe_callO1 L 0 0 0 rfl rfl rfl h__law_take (Nat.le_refl _) (fun _ => rfl) (fun _ _ => rfl) (axe_consA ex_int axe_nil)))))) (fun r8 => ?_)
  refine bs_setE (S := (fun (t82 : D) => [.ow .l (some v0) t82, .fz a1, .fz r8.1, .no, .no, .no, .no, .no, .no, .no, .no, .no, .no])) L 3 3 rfl rfl (exe_callO1 L 1 0 0 rfl rfl rfl h__law_symbols (Nat.le_refl _) (fun _ => rfl) (fun _ _ => rfl) (axe_consA (ex_var L 2 2 rfl rfl rfl) axe_nil)) (fun r9 => ?_)
  refine bs_newl_a L 4 4 rfl rfl (by decide) ax_nil ?_
  refine bs_seq (gN' := (fun (s10 : D × D) => [.ow .l (some v0) s10.2, .fz a1, .fz r8.1, .fz r9.1, .ow .l none s10.1, .no, .no, .no, .no, .no, .no, .no, .no])) (ss_for1 (gS := (fun (s10 : D × D) => [.ow .l (some v0) s10.2, .fz a1, .fz r8.1, .fz r9.1, .ow .l none s10.1, .no, .no, .no, .no, .no, .no, .no, .no])) L 5 5 rfl rfl (.same (.same (.same (.same (.same (.no (.no (.no (.no (.no (.no (.no (.no .nil))))))))))))) (xi_rg1 L 2 rfl z_range (ex_callB L 3 rfl z_len PySem.boot_len call_len rs_len (ax_consA (ex_var L 3 3 rfl rfl rfl) ax_nil))) (fun s10 x11 => ?_)) ?_
  · 
    refine bs_setE (S := (fun (t23 : D) => [.ow .l (some v0) t23, .fz a1, .fz r8.1, .fz r9.1, .ow .l none s10.1, .fz x11, .no, .no, .no, .no, .no, .no, .no])) L 6 6 rfl rfl (exe_ifR (txe_cmp (op_eqZ L.un) rs_eq (exe_callO1 L 0 0 0 rfl rfl rfl h__law_take (Nat.le_refl _) (fun _ => rfl) (fun _ _ => rfl) (axe_consA ex_int axe_nil)) (fun r12 => (exe_atom ex_int)) (nomark _)) (fun r15 => (exe_atom (ex_tup (by decide) (ax_consA (ex_tup (by decide) (ax_consA ex_str (ax_consA ex_int ax_nil))) ax_nil)))) (fun r15 => (exe_atom (ex_tup (by decide) ax_nil)))) (fun r16 => ?_)
    refine bs_appE (S := (fun (t22 : D) => [.ow .l (some v0) t22, .fz a1, .fz r8.1, .fz r9.1, .ow .l none s10.1, .fz x11, .fz r16.1, .no, .no, .no, .no, .no, .no])) L 4 4 rfl rfl (fun t => s10.1) (fun _ => rfl) (exe_tup (by decide) (axe_consP (ex_ix_aa (ex_var L 3 3 rfl rfl rfl) (ex_var L 5 5 rfl rfl rfl) (fun _ _ => rfl)) (fun x18 => (axe_cons (exe_callO1 L 4 0 0 rfl rfl rfl h__law_base (Nat.le_refl _) (fun _ => rfl) (fun _ _ => rfl) axe_nil) (fun r19 => (axe_cons (exe_callO1 L 5 0 0 rfl rfl rfl h__law_diagram (Nat.le_refl _) (fun _ => rfl) (fun _ _ => rfl) (axe_consA (ex_var L 1 1 rfl rfl rfl) axe_nil)) (fun r20 => (axe_consA (ex_var L 6 6 rfl rfl rfl) axe_nil)))))))) (fun r21 z17 => ?_)
    exact bs_nil (.same (.same (.same (.same (.same (.no (.no (.no (.no (.no (.no (.no (.no .nil)))))))))))))
  intro s25
  refine bs_seq (gN' := (fun (s26 : D × D) => [.ow .l (some v0) s26.1, .fz a1, .fz r8.1, .fz r9.1, .ow .l none s26.2, .no, .no, .no, .no, .no, .no, .no, .no])) (ss_for1E (S := (fun (t68 : D) => [.ow .l (some v0) t68, .fz a1, .fz r8.1, .fz r9.1, .ow .l none s25.1, .no, .no, .no, .no, .no, .no, .no, .no])) (gS := (fun (s26 : D × D) => [.ow .l (some v0) s26.1, .fz a1, .fz r8.1, .fz r9.1, .ow .l none s26.2, .no, .no, .no, .no, .no, .no, .no, .no])) (s0 := fun t67 => (t67, s25.1)) L 7 7 rfl rfl (fun _ => (.same (.same (.same (.same (.same (.no (.no (.no (.no (.no (.no (.no (.no .nil)))))))))))))) (xie_rg1 L 2 rfl z_range (exe_ifR (txe_cmp (op_eqZ L.un) rs_eq (exe_callO1 L 0 0 0 rfl rfl rfl h__law_take (Nat.le_refl _) (fun _ => rfl) (fun _ _ => rfl) (axe_consA ex_int axe_nil)) (fun r57 => (exe_atom ex_int)) (nomark _)) (fun r60 => (exe_atom ex_int)) (fun r60 => (exe_op op_addD rs_add (exe_atom ex_int) (fun r61 => (exe_callO1 L 0 0 0 rfl rfl rfl h__law_take (Nat.le_refl _) (fun _ => rfl) (fun _ _ => rfl) (axe_consA ex_int axe_nil))))))) (fun s26 x27 => ?_)) ?_
  · 
    refine bs_setE (S := (fun (t55 : D) => [.ow .l (some v0) t55, .fz a1, .fz r8.1, .fz r9.1, .ow .l none s26.2, .no, .no, .fz x27, .no, .no, .no, .no, .no])) L 8 8 rfl rfl (exe_callO1 L 0 0 0 rfl rfl rfl h__law_take (Nat.le_refl _) (fun _ => rfl) (fun _ _ => rfl) (axe_consP (ex_callB L 3 rfl z_len PySem.boot_len call_len rs_len (ax_consA (ex_var L 3 3 rfl rfl rfl) ax_nil)) (fun x28 => axe_nil))) (fun r29 => ?_)
    refine bs_setE (S := (fun (t54 : D) => [.ow .l (some v0) t54, .fz a1, .fz r8.1, .fz r9.1, .ow .l none s26.2, .no, .no, .fz x27, .fz r29.1, .no, .no, .no, .no])) L 9 9 rfl rfl (exe_callO1 L 6 0 0 rfl rfl rfl h__law_right (Nat.le_refl _) (fun _ => rfl) (fun _ _ => rfl) (axe_consA (ex_var L 3 3 rfl rfl rfl) (axe_consA (ex_var L 8 8 rfl rfl rfl) axe_nil))) (fun r30 => ?_)
    refine bs_setE (S := (fun (t53 : D) => [.ow .l (some v0) t53, .fz a1, .fz r8.1, .fz r9.1, .ow .l none s26.2, .no, .no, .fz x27, .fz r29.1, .fz r30.1, .no, .no, .no])) L 10 10 rfl rfl (exe_callO1 L 5 0 0 rfl rfl rfl h__law_diagram (Nat.le_refl _) (fun _ => rfl) (fun _ _ => rfl) (axe_consA (ex_var L 1 1 rfl rfl rfl) axe_nil)) (fun r31 => ?_)
    refine bs_setE (S := (fun (t52 : D) => [.ow .l (some v0) t52, .fz a1, .fz r8.1, .fz r9.1, .ow .l none s26.2, .no, .no, .fz x27, .fz r29.1, .fz r30.1, .fz r31.1, .no, .no])) L 6 6 rfl rfl (exe_callO1 L 7 0 0 rfl rfl rfl h__law_demands (Nat.le_refl _) (fun _ => rfl) (fun _ _ => rfl) (axe_consP (ex_callB L 3 rfl z_len PySem.boot_len call_len rs_len (ax_consA (ex_var L 9 9 rfl rfl rfl) ax_nil)) (fun x32 => axe_nil))) (fun r33 => ?_)
    refine bs_one (ss_ifR (S := (fun (t48 : D) => [.ow .l (some v0) t48, .fz a1, .fz r8.1, .fz r9.1, .ow .l none s26.2, .no, .fz r33.1, .fz x27, .fz r29.1, .fz r30.1, .fz r31.1, .no, .no])) (txe_w (wxe_orR (txe_pure (tx_borrow 4 rfl (tx_cmp (op_notInA L.un) rs_notIn (ex_tup (by decide) (ax_cons (ex_ix_aa (ex_var L 3 3 rfl rfl rfl) (ex_var L 8 8 rfl rfl rfl) (fun _ _ => rfl)) (fun x34 => (ax_consA (ex_var L 9 9 rfl rfl rfl) ax_nil)))) ((ex_lc1 (Wb := ["_law_rule"]) (Gb := []) (Sb := ["_law_rule"]) L 12 0 rfl rfl (by decide +kernel) (xi_val_a (ex_var L 4 4 rfl rfl rfl)) (fun _ L35 x37 => (ex_sl_an (ex_var L35 12 0 rfl rfl rfl) (xo_some_a ex_int))))).pe (by rfl)))) (fun r43 => (wxe_or1 (txe_cmp (op_eqZ L.un) rs_eq (exe_callO1 L 0 0 0 rfl rfl rfl h__law_take (Nat.le_refl _) (fun _ => rfl) (fun _ _ => rfl) (axe_consA ex_int axe_nil)) (fun r44 => (exe_atom ex_int)) (nomark _)))))) (fun r47 => ?_) (fun r47 => ?_))
    · 
      refine bs_app L 4 4 rfl rfl rfl (ex_tup (by decide) (ax_cons (ex_ix_aa (ex_var L 3 3 rfl rfl rfl) (ex_var L 8 8 rfl rfl rfl) (fun _ _ => rfl)) (fun x50 => (ax_consA (ex_var L 9 9 rfl rfl rfl) (ax_consA (ex_var L 10 10 rfl rfl rfl) (ax_consA (ex_var L 6 6 rfl rfl rfl) ax_nil)))))) (fun z49 => ?_)
      exact bs_nil (.same (.same (.same (.same (.same (.no (.no (.no (.no (.no (.no (.no (.no .nil)))))))))))))
    · 
      exact bs_nil (.same (.same (.same (.same (.same (.no (.no (.no (.no (.no (.no (.no (.no .nil)))))))))))))
  intro s69
  refine bs_freeze 4 rfl ?_
  refine bs_setE (S := (fun (t81 : D) => [.ow .l (some v0) t81, .fz a1, .fz r8.1, .fz r9.1, .fz s69.2, .no, .no, .no, .no, .no, .no, .no, .no])) L 4 4 rfl rfl (exe_callO1 L 8 0 0 rfl rfl rfl h__law_turned (Nat.le_refl _) (fun _ => rfl) (fun _ _ => rfl) (axe_consA (ex_var L 4 4 rfl rfl rfl) axe_nil)) (fun r70 => ?_)
  refine bs_setE (S := (fun (t80 : D) => [.ow .l (some v0) t80, .fz a1, .fz r8.1, .fz r9.1, .fz r70.1, .no, .no, .no, .no, .no, .no, .no, .no])) L 11 11 rfl rfl (exe_ix (exe_atom (ex_var L 3 3 rfl rfl rfl)) (fun r71 => (exe_callO1 L 0 0 0 rfl rfl rfl h__law_take (Nat.le_refl _) (fun _ => rfl) (fun _ _ => rfl) (axe_consP (ex_callB L 3 rfl z_len PySem.boot_len call_len rs_len (ax_consA (ex_var L 3 3 rfl rfl rfl) ax_nil)) (fun x72 => axe_nil)))) (fun _ _ => rfl)) (fun r75 => ?_)
  exact bs_retE (S := (fun (t79 : D) => [.ow .l (some v0) t79, .fz a1, .fz r8.1, .fz r9.1, .fz r70.1, .no, .no, .no, .no, .no, .no, .fz r75.1, .no])) (mk := fun r78 => (r78.1, r78.2)) (exe_tup (by decide) (axe_consA (ex_var L 11 11 rfl rfl rfl) (axe_consP (ex_callT L 9 rfl z_tuple PyProof.Rows.boot_tuple call_tupleF rs_tuple (ax_consA (ex_var L 4 4 rfl rfl rfl) ax_nil)) (fun x76 => (axe_cons (exe_callO1 L 10 0 0 rfl rfl rfl h__law_bars (Nat.le_refl _) (fun _ => rfl) (fun _ _ => rfl) (axe_consA (ex_var L 4 4 rfl rfl rfl) (axe_consA (ex_var L 1 1 rfl rfl rfl) axe_nil))) (fun r77 => axe_nil)))))) (fun _ => rfl) (fun _ => (.same (.no (.no (.no (.no (.no (.no (.no (.no (.no (.no (.no (.no .nil))))))))))))))

theorem f__law_grammar {E : ME} {kk : Nat} (hd : DefAt E "_law_grammar" "_law_grammar" s__law_grammar ["_law_tape_here", "_law_count"]) (z_len : Free E "len") (z_range : Free E "range") (z_tuple : Free E "tuple") (h__law_bars : FnM E kk "_law_bars" (CO1 .l (fun t => g2 (m__law_bars t)))) (h__law_base : FnM E kk "_law_base" (CO1 .l (fun t => g0 (m__law_base t)))) (h__law_demands : FnM E kk "_law_demands" (CO1 .l (fun t => g1 (m__law_demands t)))) (h__law_diagram : FnM E kk "_law_diagram" (CO1 .l (fun t => g1 (m__law_diagram t)))) (h__law_right : FnM E kk "_law_right" (CO1 .l (fun t => g2 (m__law_right t)))) (h__law_symbols : FnM E kk "_law_symbols" (CO1 .l (fun t => g1 (m__law_symbols t)))) (h__law_take : FnM E kk "_law_take" (CO1 .l (fun t => g1 (m__law_take t)))) (h__law_turned : FnM E kk "_law_turned" (CO1 .l (fun t => g1 (m__law_turned t)))) : FnM E (kk + 1) "_law_grammar" (CO1 .l (fun t => g1 (m__law_grammar t))) :=
  hd.fn (N := ["_law_tape_here", "_law_count", "_law_many_here", "_law_symbols_here", "_law_rules", "_law_k", "_law_demands_here", "_law_turn", "_law_at", "_law_right_here", "_law_diagram_here", "_law_start", "_law_rule"]) (W := ["_law_tape_here", "_law_count", "_law_many_here", "_law_symbols_here", "_law_rules", "_law_k", "_law_demands_here", "_law_turn", "_law_at", "_law_right_here", "_law_diagram_here", "_law_start"]) (G := ["_law_take", "_law_symbols", "range", "len", "_law_base", "_law_diagram", "_law_right", "_law_demands", "_law_turned", "tuple", "_law_bars"]) (Sl := ["_law_tape_here", "_law_count", "_law_many_here", "_law_symbols_here", "_law_rules", "_law_k", "_law_demands_here", "_law_turn", "_law_at", "_law_right_here", "_law_diagram_here", "_law_start"]) ⟨rfl, rfl, rfl, by decide +kernel, rfl, by decide +kernel, by decide +kernel⟩ (by decide +kernel) (by decide +kernel)
    (fun Γ0 r Γ1 ⟨v, x, xs, y, h1, h2, h3⟩ => match xs, h2 with | [_], _ => by subst h1; rfl)
    fun X L Γ0 r Γ1 ⟨v0, a0, xs, y, h1, h2, h3⟩ => match xs, h2 with
      | [a1], h2 => by
        subst h1 h3
        exact body_of (d := Empty.elim) (rr := (r, y)) (b__law_grammar L z_len z_range z_tuple h__law_bars h__law_base h__law_demands h__law_diagram h__law_right h__law_symbols h__law_take h__law_turned v0 a0 a1) h2 (.ow (.no .nil)) (fun n => n.elim)

abbrev s__law_word : Stmt := top 47

def m__law_word_b (a0 : D) (a1 : D) : Option (Ctl Empty Empty (D × D)) :=
  ((pIdx a1 (.int 0)).bind fun x1 => (pEq x1 (S "kind")).bind dBool).bind fun k18 => if k18 = true then Ctl.ex ((((pIdx a1 (.int 1)).bind fun x2 => (pEq x2 (S "number")).bind dBool).bind fun k3 => if k3 = true then some (.list [(S "1"), (S "23"), (S "1"), (S "7")]) else some (.list [(S "a"), (S "if"), (S "word"), (S "number")])).bind fun x4 => ((pIdx a1 (.int 1)).bind fun x5 => ((some (x4, a0)).bind fun r6 => (m__law_take r6.2 (.int 4)).bind fun r7 => (pIdx r6.1 r7.1).map fun z8 => (z8, r7.2)).bind fun r9 => some (.tuple [x5, r9.1], r9.2)).bind fun r10 => some (.rt (r10.1, r10.2)) : Option (Ctl Unit Empty (D × D))) else (((((pIdx a1 (.int 1)).bind fun x12 => pIdx x12 (.int 0)).bind fun x13 => (pIn x13 (S "abcdefghijklmnopqrstuvwxyzABCDEFGHIJKLMNOPQRSTUVWXYZ")).bind dBool).bind fun k14 => if k14 = true then some (S "word") else some (S "mark")).bind fun x15 => (pIdx a1 (.int 1)).bind fun x16 => some (.tuple [x15, x16])).bind fun x17 => some (.rt (x17, a0))
def m__law_word (a0 : D) (a1 : D) : Option (D × D) := Ctl.fin Empty.elim (m__law_word_b a0 a1)

theorem b__law_word {X : Cx} {E : ME} {kk : Nat} (L : LX X E kk ["_law_tape_here", "_law_part", "_law_words"] ["_law_tape_here", "_law_part", "_law_words"] ["_law_take"] ["_law_tape_here", "_law_part", "_law_words"] (defScope s__law_word)) (h__law_take : FnM E kk "_law_take" (CO1 .l (fun t => g1 (m__law_take t)))) (v0 : V) (a0 : D) (a1 : D) :
    BS X [.ow .l (some v0) a0, .fz a1, .no] (defBody s__law_word) (m__law_word_b a0 a1) Empty.elim Empty.elim (fun (r : (D × D)) => [.ow .l (some v0) r.2, .no, .no]) (fun r => r.1) := by
  unfold m__law_word_b
  refine bs_ifx (gN' := fun (_ : Unit) => []) (tx_cmp_xa (op_eqZ L.un) rs_eq (ex_ix_aa (ex_var L 1 1 rfl rfl rfl) ex_int (fun _ _ => rfl)) ex_str (nomark _)) ?_ ?_
  · 
    refine bs_set L 2 2 rfl rfl (ex_if (tx_cmp_xa (op_eqZ L.un) rs_eq (ex_ix_aa (ex_var L 1 1 rfl rfl rfl) ex_int (fun _ _ => rfl)) ex_str (nomark _)) (ex_lst (by decide) (ax_consA ex_str (ax_consA ex_str (ax_consA ex_str (ax_consA ex_str ax_nil))))) (ex_lst (by decide) (ax_consA ex_str (ax_consA ex_str (ax_consA ex_str (ax_consA ex_str ax_nil)))))) (fun x4 => ?_)
    exact bs_retE (S := (fun (t11 : D) => [.ow .l (some v0) t11, .fz a1, .fz x4])) (mk := fun r10 => (r10.1, r10.2)) (exe_tup (by decide) (axe_consP (ex_ix_aa (ex_var L 1 1 rfl rfl rfl) ex_int (fun _ _ => rfl)) (fun x5 => (axe_cons (exe_ix (exe_atom (ex_var L 2 2 rfl rfl rfl)) (fun r6 => (exe_callO1 L 0 0 0 rfl rfl rfl h__law_take (Nat.le_refl _) (fun _ => rfl) (fun _ _ => rfl) (axe_consA ex_int axe_nil))) (fun _ _ => rfl)) (fun r9 => axe_nil))))) (fun _ => rfl) (fun _ => (.same (.no (.no .nil))))
  exact bs_ret (mk := fun x17 => (x17, a0)) (ex_tup (by decide) (ax_cons (ex_if (tx_cmp_xa (op_inA L.un) rs_in (ex_ix_xa (ex_ix_aa (ex_var L 1 1 rfl rfl rfl) ex_int (fun _ _ => rfl)) ex_int (fun _ _ => rfl)) ex_str (by rfl)) ex_str ex_str) (fun x15 => (ax_cons (ex_ix_aa (ex_var L 1 1 rfl rfl rfl) ex_int (fun _ _ => rfl)) (fun x16 => ax_nil))))) (fun _ => rfl) (fun _ => (.same (.no (.no .nil))))

theorem f__law_word {E : ME} {kk : Nat} (hd : DefAt E "_law_word" "_law_word" s__law_word ["_law_tape_here", "_law_part"]) (h__law_take : FnM E kk "_law_take" (CO1 .l (fun t => g1 (m__law_take t)))) : FnM E (kk + 1) "_law_word" (CO1 .l (fun t => g1 (m__law_word t))) :=
  hd.fn (N := ["_law_tape_here", "_law_part", "_law_words"]) (W := ["_law_tape_here", "_law_part", "_law_words"]) (G := ["_law_take"]) (Sl := ["_law_tape_here", "_law_part", "_law_words"]) ⟨rfl, rfl, rfl, by decide +kernel, rfl, by decide +kernel, by decide +kernel⟩ (by decide +kernel) (by decide +kernel)
    (fun Γ0 r Γ1 ⟨v, x, xs, y, h1, h2, h3⟩ => match xs, h2 with | [_], _ => by subst h1; rfl)
    fun X L Γ0 r Γ1 ⟨v0, a0, xs, y, h1, h2, h3⟩ => match xs, h2 with
      | [a1], h2 => by
        subst h1 h3
        exact body_of (d := Empty.elim) (rr := (r, y)) (b__law_word L h__law_take v0 a0 a1) h2 (.ow (.no .nil)) (fun n => n.elim)

abbrev s__law_sentence : Stmt := top 48

def m__law_sentence_b (m__law_sentence : D → D → D → D → Option (D × D)) (a0 : D) (a1 : D) (a2 : D) (a3 : D) : Option (Ctl Empty Empty (D × D)) :=
  (((pIdx a1 (.int 1)).bind pIter).bind fun xs2 => (lcI (fun x3 => (pIdx x3 (.int 0)).bind fun x4 => (pEq x4 a2).bind dBool) (fun x3 => some x3) xs2).map .list).bind fun x5 => ((some (x5, a0)).bind fun r6 => ((pLen x5).bind fun x7 => m__law_take r6.2 x7).bind fun r8 => (pIdx r6.1 r8.1).map fun z9 => (z9, r8.2)).bind fun r10 => Ctl.seq (((pLe a3 (.int 0)).bind dBool).bind fun k39 => if k39 = true then (((pIter x5).bind fun xs13 => (lcI (fun x14 => ((((pIdx x14 (.int 1)).bind pIter).bind fun xs16 => (lcM (fun x17 => (pIdx x17 (.int 0)).bind fun x18 => pNe x18 (S "symbol")) xs16).map .list).bind fun x19 => pAll x19).bind pTru) (fun x14 => some x14) xs13).map .list).bind fun x20 => pIdx x20 (.int 0)).bind fun x21 => some (.nx x21) else some (.nx r10.1) : Option (Ctl D Empty (D × D))) fun (n11 : D) => Ctl.seq (((pIdx n11 (.int 1)).bind pIter).bind fun xs36 => forC (fun x23 s22 => (((pIdx x23 (.int 0)).bind fun x24 => (pEq x24 (S "symbol")).bind dBool).bind fun k35 => if k35 = true then ((some (s22.1, s22.2)).bind fun r25 => ((pIdx x23 (.int 1)).bind fun x26 => (pSub a3 (.int 1)).bind fun x27 => m__law_sentence r25.2 a1 x26 x27).bind fun r28 => (pCat r25.1 r28.1).map fun z29 => (z29, r28.2)).bind fun r30 => some (.nx (r30.1, r30.2)) else (m__law_word s22.2 x23).bind fun r33 => (pApp s22.1 r33.1).bind fun z32 => some (.nx (z32, r33.2)) : Option (Ctl (D × D) (D × D) (D × D)))) xs36 ((.list []), r10.2) : Option (Ctl (D × D) Empty (D × D))) fun (s37 : D × D) => some (.rt (s37.1, s37.2))

def m__law_sentence : Nat → D → D → D → D → Option (D × D)
  | 0 => fun _ _ _ _ => none
  | n + 1 => fun a0 a1 a2 a3 => Ctl.fin Empty.elim (m__law_sentence_b (m__law_sentence n) a0 a1 a2 a3)

theorem b__law_sentence {X : Cx} {E : ME} {kk : Nat} {m__law_sentence : D → D → D → D → Option (D × D)} (L : LX X E kk ["_law_tape_here", "_law_grammar_here", "_law_symbol", "_law_deep", "_law_rules", "_law_rule", "_law_found", "_law_part", "_law_row"] ["_law_tape_here", "_law_grammar_here", "_law_symbol", "_law_deep", "_law_rules", "_law_rule", "_law_found", "_law_part"] ["_law_take", "len", "_law_sentence", "_law_word"] ["_law_tape_here", "_law_grammar_here", "_law_symbol", "_law_deep", "_law_rules", "_law_rule", "_law_found", "_law_part"] (defScope s__law_sentence)) (z_all : Free E "all") (z_len : Free E "len") (h__law_take : FnM E kk "_law_take" (CO1 .l (fun t => g1 (m__law_take t)))) (h__law_word : FnM E kk "_law_word" (CO1 .l (fun t => g1 (m__law_word t)))) (h__law_sentence : FnM E kk "_law_sentence" (CO1 .l (fun t => g3 (m__law_sentence t)))) (v0 : V) (a0 : D) (a1 : D) (a2 : D) (a3 : D) :
    BS X [.ow .l (some v0) a0, .fz a1, .fz a2, .fz a3, .no, .no, .no, .no, .no] (defBody s__law_sentence) (m__law_sentence_b m__law_sentence a0 a1 a2 a3) Empty.elim Empty.elim (fun (r : (D × D)) => [.ow .l (some v0) r.2, .no, .no, .no, .no, .no, .no, .no, .no]) (fun r => r.1) := by
  unfold m__law_sentence_b
  refine bs_setC L 4 rfl (by decide +kernel) (ex_lcI1 (Wb := ["_law_rule", "_law_symbol"]) (Gb := []) (Sb := ["_law_rule"]) L 5 0 rfl rfl (by decide +kernel) (xi_val (ex_ix_aa (ex_var L 1 1 rfl rfl rfl) ex_int (fun _ _ => rfl))) (fun _ L1 x3 => (tx_cmp_xa (op_eqZ L1.un) rs_eq (ex_ix_aa (ex_var L1 5 0 rfl rfl rfl) ex_int (fun _ _ => rfl)) (ex_var L1 2 1 rfl rfl rfl) (nomark _))) (fun _ L1 x3 => (ex_var L1 5 0 rfl rfl rfl))) (fun x5 => ?_) (swT L (by decide +kernel) (by rfl)).1
  refine bs_setE (S := (fun (t40 : D) => [.ow .l (some v0) t40, .fz a1, .fz a2, .fz a3, .fz x5, .no, .no, .no, .no])) L 5 5 rfl rfl (exe_ix (exe_atom (ex_var L 4 4 rfl rfl rfl)) (fun r6 => (exe_callO1 L 0 0 0 rfl rfl rfl h__law_take (Nat.le_refl _) (fun _ => rfl) (fun _ _ => rfl) (axe_consP (ex_callB L 1 rfl z_len PySem.boot_len call_len rs_len (ax_consA (ex_var L 4 4 rfl rfl rfl) ax_nil)) (fun x7 => axe_nil)))) (fun _ _ => rfl)) (fun r10 => ?_)
  refine bs_seq (gN' := (fun (n11 : D) => [.ow .l (some v0) r10.2, .fz a1, .fz a2, .fz a3, .fz x5, .fz n11, .no, .no, .no])) (ss_if (tx_cmp_aa (op_leZ L.un) rs_le (ex_var L 3 3 rfl rfl rfl) ex_int (nomark _)) ?_ ?_) ?_
  · 
      refine bs_set L 5 5 rfl rfl (ex_ix_xa ((ex_lcI1 (Wb := ["_law_row"]) (Gb := ["all"]) (Sb := ["_law_row"]) L 8 0 rfl rfl (by decide +kernel) (xi_val_a (ex_var L 4 4 rfl rfl rfl)) (fun _ L12 x14 => (tx_val (ex_callB L12 0 rfl z_all (by decide +kernel) (cr_all L12.calm) rs_all (ax_cons ((ex_lc1 (Wb := ["_law_part"]) (Gb := []) (Sb := ["_law_part"]) L12 7 0 rfl rfl (by decide +kernel) (xi_val (ex_ix_aa (ex_var L12 8 0 rfl rfl rfl) ex_int (fun _ _ => rfl))) (fun _ L15 x17 => (ex_cmp_xa (op_neZ L15.un) rs_ne (ex_ix_aa (ex_var L15 7 0 rfl rfl rfl) ex_int (fun _ _ => rfl)) ex_str (nomark _))))).pe (fun x19 => ax_nil))) (fun _ => rfl))) (fun _ L12 x14 => (ex_var L12 8 0 rfl rfl rfl)))).pe ex_int (fun _ _ => rfl)) (fun x21 => ?_)
      exact bs_nil (.same (.same (.same (.same (.same (.same (.no (.no (.no .nil)))))))))
  · 
      exact bs_nil (.same (.same (.same (.same (.same (.same (.no (.no (.no .nil)))))))))
  intro n11
  refine bs_newl_a L 6 6 rfl rfl (by decide) ax_nil ?_
  refine bs_seq (gN' := (fun (s22 : D × D) => [.ow .l (some v0) s22.2, .fz a1, .fz a2, .fz a3, .fz x5, .fz n11, .ow .l none s22.1, .no, .no])) (ss_for1 (gS := (fun (s22 : D × D) => [.ow .l (some v0) s22.2, .fz a1, .fz a2, .fz a3, .fz x5, .fz n11, .ow .l none s22.1, .no, .no])) L 7 7 rfl rfl (.same (.same (.same (.same (.same (.same (.same (.no (.no .nil))))))))) (xi_val (ex_ix_aa (ex_var L 5 5 rfl rfl rfl) ex_int (fun _ _ => rfl))) (fun s22 x23 => ?_)) ?_
  · 
    refine bs_one (ss_if (tx_cmp_xa (op_eqZ L.un) rs_eq (ex_ix_aa (ex_var L 7 7 rfl rfl rfl) ex_int (fun _ _ => rfl)) ex_str (nomark _)) ?_ ?_)
    · 
      refine bs_freeze 6 rfl ?_
      refine bs_setFE (S := (fun (t31 : D) => [.ow .l (some v0) t31, .fz a1, .fz a2, .fz a3, .fz x5, .fz n11, .fz s22.1, .fz x23, .no])) L 6 6 rfl rfl (exfe_cat (exe_atom (ex_var L 6 6 rfl rfl rfl)) (fun r25 => (exe_callO1 L 2 0 0 rfl rfl rfl h__law_sentence (Nat.le_refl _) (fun _ => rfl) (fun _ _ => rfl) (axe_consA (ex_var L 1 1 rfl rfl rfl) (axe_consP (ex_ix_aa (ex_var L 7 7 rfl rfl rfl) ex_int (fun _ _ => rfl)) (fun x26 => (axe_consP (ex_op_aa op_sub rs_sub (ex_var L 3 3 rfl rfl rfl) ex_int) (fun x27 => axe_nil)))))))) (fun r30 => ?_)
      exact bs_nil (.same (.same (.same (.same (.same (.same (.same (.no (.no .nil)))))))))
    · 
      refine bs_appE (S := (fun (t34 : D) => [.ow .l (some v0) t34, .fz a1, .fz a2, .fz a3, .fz x5, .fz n11, .ow .l none s22.1, .fz x23, .no])) L 6 6 rfl rfl (fun t => s22.1) (fun _ => rfl) (exe_callO1 L 3 0 0 rfl rfl rfl h__law_word (Nat.le_refl _) (fun _ => rfl) (fun _ _ => rfl) (axe_consA (ex_var L 7 7 rfl rfl rfl) axe_nil)) (fun r33 z32 => ?_)
      exact bs_nil (.same (.same (.same (.same (.same (.same (.same (.no (.no .nil)))))))))
  intro s37
  refine bs_freeze 6 rfl ?_
  exact bs_ret_a (mk := fun x38 => (x38, s37.2)) (ex_var L 6 6 rfl rfl rfl) (fun _ => rfl) (fun _ => (.same (.no (.no (.no (.no (.no (.no (.no (.no .nil))))))))))

theorem f__law_sentence {E : ME} {kk : Nat} {n : Nat} (hd : DefAt E "_law_sentence" "_law_sentence" s__law_sentence ["_law_tape_here", "_law_grammar_here", "_law_symbol", "_law_deep"]) (z_all : Free E "all") (z_len : Free E "len") (h__law_take : FnM E kk "_law_take" (CO1 .l (fun t => g1 (m__law_take t)))) (h__law_word : FnM E kk "_law_word" (CO1 .l (fun t => g1 (m__law_word t)))) (h__law_sentence : FnM E kk "_law_sentence" (CO1 .l (fun t => g3 (m__law_sentence n t)))) : FnM E (kk + 1) "_law_sentence" (CO1 .l (fun t => g3 (m__law_sentence (n + 1) t))) :=
  hd.fn (N := ["_law_tape_here", "_law_grammar_here", "_law_symbol", "_law_deep", "_law_rules", "_law_rule", "_law_found", "_law_part", "_law_row"]) (W := ["_law_tape_here", "_law_grammar_here", "_law_symbol", "_law_deep", "_law_rules", "_law_rule", "_law_found", "_law_part"]) (G := ["_law_take", "len", "_law_sentence", "_law_word"]) (Sl := ["_law_tape_here", "_law_grammar_here", "_law_symbol", "_law_deep", "_law_rules", "_law_rule", "_law_found", "_law_part"]) ⟨rfl, rfl, rfl, by decide +kernel, rfl, by decide +kernel, by decide +kernel⟩ (by decide +kernel) (by decide +kernel)
    (fun Γ0 r Γ1 ⟨v, x, xs, y, h1, h2, h3⟩ => match xs, h2 with | [_, _, _], _ => by subst h1; rfl)
    fun X L Γ0 r Γ1 ⟨v0, a0, xs, y, h1, h2, h3⟩ => match xs, h2 with
      | [a1, a2, a3], h2 => by
        subst h1 h3
        exact body_of (d := Empty.elim) (rr := (r, y)) (b__law_sentence L z_all z_len h__law_take h__law_word h__law_sentence v0 a0 a1 a2 a3) h2 (.ow (.no (.no (.no .nil)))) (fun n => n.elim)

theorem r__law_sentence {E : ME} {kk : Nat} (hd__law_sentence : DefAt E "_law_sentence" "_law_sentence" s__law_sentence ["_law_tape_here", "_law_grammar_here", "_law_symbol", "_law_deep"]) (z_all : Free E "all") (z_len : Free E "len") (h__law_take : FnM E kk "_law_take" (CO1 .l (fun t => g1 (m__law_take t)))) (h__law_word : FnM E kk "_law_word" (CO1 .l (fun t => g1 (m__law_word t)))) : ∀ n : Nat, FnM E (kk + n) "_law_sentence" (CO1 .l (fun t => g3 (m__law_sentence n t)))
  | 0 => (hd__law_sentence.zero (co_none (fun x xs => match xs with | [_, _, _] => rfl | [] => rfl | [_] => rfl | [_, _] => rfl | _ :: _ :: _ :: _ :: _ => rfl))).mono (Nat.zero_le _)
  | n + 1 => by
    have ih := r__law_sentence (E := E) (kk := kk) hd__law_sentence z_all z_len h__law_take h__law_word n
    exact f__law_sentence hd__law_sentence z_all z_len (h__law_take.mono (Nat.le_add_right _ _)) (h__law_word.mono (Nat.le_add_right _ _)) ih

abbrev s__law_folded : Stmt := top 49

def m__law_folded_b (a0 : D) (a1 : D) (a2 : D) (a3 : D) : Option (Ctl Empty Empty (D × D)) :=
  ((pIdx a1 (.int 0)).bind fun x1 => ((some ((.int 1), a0)).bind fun r2 => (m__law_take r2.2 (.int 3)).bind fun r3 => (pAdd r2.1 r3.1).map fun z4 => (z4, r3.2)).bind fun r5 => m__law_sentence 8 r5.2 a1 x1 r5.1).bind fun r6 => (m__law_take r6.2 (.int 3)).bind fun r7 => (((m__law_take r7.2 (.int 3)).bind fun r8 => (some ((.int 0), r8.2)).bind fun r9 => ((pEq r8.1 r9.1).bind dBool).map fun z10 => (z10, r9.2)).bind fun r11 => if r11.1 = true then m__law_diagram r11.2 a2 else some ((.bool true), r11.2)).bind fun r12 => Ctl.seq ((((pOpt a3).bind fun h84 => pSl r6.1 none h84).bind pIter).bind fun xs82 => forC (fun x14 s13 => (Ctl.seq (((((pLen s13.2.2.2.2.2.2).bind fun x15 => (pGt x15 (.int 0)).bind dBool).map fun x16 => (x16, s13.2.2.2.2.2.1)).bind fun r17 => if r17.1 = true then (m__law_take r17.2 (.int 3)).bind fun r18 => (some ((.int 0), r18.2)).bind fun r19 => ((pEq r18.1 r19.1).bind dBool).map fun z20 => (z20, r19.2) else some (false, r17.2)).bind fun r21 => if r21.1 = true then (pAdd s13.2.2.2.1 (.int 1)).bind fun x24 => (m__law_take r21.2 (.int 3)).bind fun r25 => (m__law_diagram r25.2 a2).bind fun r26 => some (.nx (x24, r25.1, r26.2, r26.1, (.bool true))) else some (.nx (s13.2.2.2.1, s13.1, r21.2, s13.2.2.2.2.1, s13.2.1)) : Option (Ctl (D × D × D × D × D) (D × D × D × D × D × D × D) (D × D))) fun (n23 : D × D × D × D × D) => (m__law_take n23.2.2.1 (.int 2)).bind fun r29 => Ctl.seq ((((pTru n23.2.2.2.2).map (!·)).bind fun k35 => if k35 = true then (((pEq s13.2.2.1 (S "word")).bind dBool).bind fun k31 => if k31 = true then (pIdx x14 (.int 0)).bind fun x30 => (pNe x30 (S "mark")).bind dBool else some false).bind fun k34 => if k34 = true then some true else ((pEq s13.2.2.1 (S "number")).bind dBool).bind fun k33 => if k33 = true then (pIdx x14 (.int 0)).bind fun x32 => (pEq x32 (S "number")).bind dBool else some false else some false).bind fun k80 => if k80 = true then some (.nx (.int 1)) else some (.nx r29.1) : Option (Ctl D (D × D × D × D × D × D × D) (D × D))) fun (n36 : D) => ((((pAdd n23.2.1 n36).bind fun x38 => ((pNot n23.2.2.2.2).bind fun x39 => (pTru x39).bind fun k40 => if k40 = true then pEq n36 (.int 0) else some x39).bind fun x41 => some (.tuple [n23.1, x38, x41])).bind fun y42 => pAdd x14 y42).bind fun x43 => some (.tuple [x43, n23.2.2.2.1])).bind fun y79 => (pApp s13.2.2.2.2.2.2 y79).bind fun z37 => ((pAdd n23.2.1 n36).bind fun x45 => ((pIdx x14 (.int 1)).bind fun x44 => pLen x44).bind fun y46 => pAdd x45 y46).bind fun x47 => (pIdx x14 (.int 0)).bind fun x48 => ((((pLen z37).bind fun x49 => (pLt x49 a3).bind dBool).map fun x50 => (x50, r29.2)).bind fun r51 => if r51.1 = true then (m__law_take r51.2 (.int 8)).bind fun r52 => (some ((.int 0), r52.2)).bind fun r53 => ((pEq r52.1 r53.1).bind dBool).map fun z54 => (z54, r53.2) else some (false, r51.2)).bind fun r55 => if r55.1 = true then (((m__law_take r55.2 (.int 2)).bind fun r57 => (some ((.int 0), r57.2)).bind fun r58 => ((pEq r57.1 r58.1).bind dBool).map fun z59 => (z59, r58.2)).bind fun r60 => if r60.1 = true then (some ((.list [(.tuple [(S "mark"), (S "+")]), (.tuple [(S "number"), (S "1")]), (.tuple [(S "word"), (S "number")]), (.tuple [(S "mark"), (S ";")]), (.tuple [(S "mark"), (S ")")]), (.tuple [(S "word"), (S "if")])]), r60.2)).bind fun r61 => (m__law_take r61.2 (.int 6)).bind fun r62 => (pIdx r61.1 r62.1).map fun z63 => (z63, r62.2) else some (x14, r60.2)).bind fun r64 => (((some (r64.1, r64.2)).bind fun r66 => ((pAdd n23.1 (.int 1)).bind fun x67 => (m__law_take r66.2 (.int 4)).bind fun r68 => some (.tuple [x67, r68.1, (.bool false)], r68.2)).bind fun r69 => (pAdd r66.1 r69.1).map fun z70 => (z70, r69.2)).bind fun r71 => (m__law_switch_diagram r71.2 a2).bind fun r72 => some (.tuple [r71.1, r72.1], r72.2)).bind fun r73 => (pApp z37 r73.1).bind fun z65 => (pAdd n23.1 (.int 2)).bind fun x74 => (m__law_take r73.2 (.int 3)).bind fun r75 => some (.nx (r75.1, (.bool true), x48, x74, n23.2.2.2.1, r75.2, z65)) else some (.nx (x47, (.bool false), x48, n23.1, n23.2.2.2.1, r55.2, z37)) : Option (Ctl (D × D × D × D × D × D × D) (D × D × D × D × D × D × D) (D × D)))) xs82 (r7.1, (.bool true), (S "mark"), (.int 0), r12.1, r12.2, (.list [])) : Option (Ctl (D × D × D × D × D × D × D) Empty (D × D))) fun (s85 : D × D × D × D × D × D × D) => ((pOpt a3).bind fun h87 => pSl s85.2.2.2.2.2.2 none h87).bind fun x88 => some (.rt (x88, s85.2.2.2.2.2.1))
def m__law_folded (a0 : D) (a1 : D) (a2 : D) (a3 : D) : Option (D × D) := Ctl.fin Empty.elim (m__law_folded_b a0 a1 a2 a3)

theorem b__law_folded {X : Cx} {E : ME} {kk : Nat} (L : LX X E kk ["_law_tape_here", "_law_grammar_here", "_law_count", "_law_most", "_law_words", "_law_extra", "_law_found", "_law_row", "_law_column", "_law_diagram_here", "_law_first_here", "_law_before", "_law_word_here", "_law_gap", "_law_other"] ["_law_tape_here", "_law_grammar_here", "_law_count", "_law_most", "_law_words", "_law_extra", "_law_found", "_law_row", "_law_column", "_law_diagram_here", "_law_first_here", "_law_before", "_law_word_here", "_law_gap", "_law_other"] ["_law_sentence", "_law_take", "_law_diagram", "len", "_law_switch_diagram"] ["_law_tape_here", "_law_grammar_here", "_law_count", "_law_most", "_law_words", "_law_extra", "_law_found", "_law_row", "_law_column", "_law_diagram_here", "_law_first_here", "_law_before", "_law_word_here", "_law_gap", "_law_other"] (defScope s__law_folded)) (z_len : Free E "len") (h__law_diagram : FnM E kk "_law_diagram" (CO1 .l (fun t => g1 (m__law_diagram t)))) (h__law_sentence : FnM E kk "_law_sentence" (CO1 .l (fun t => g3 (m__law_sentence 8 t)))) (h__law_switch_diagram : FnM E kk "_law_switch_diagram" (CO1 .l (fun t => g1 (m__law_switch_diagram t)))) (h__law_take : FnM E kk "_law_take" (CO1 .l (fun t => g1 (m__law_take t)))) (v0 : V) (a0 : D) (a1 : D) (a2 : D) (a3 : D) :
    BS X [.ow .l (some v0) a0, .fz a1, .fz a2, .fz a3, .no, .no, .no, .no, .no, .no, .no, .no, .no, .no, .no] (defBody s__law_folded) (m__law_folded_b a0 a1 a2 a3) Empty.elim Empty.elim (fun (r : (D × D)) => [.ow .l (some v0) r.2, .no, .no, .no, .no, .no, .no, .no, .no, .no, .no, .no, .no, .no, .no]) (fun r => r.1) := by
  unfold m__law_folded_b
  refine bs_setE (S := (fun (t91 : D) => [.ow .l (some v0) t91, .fz a1, .fz a2, .fz a3, .no, .no, .no, .no, .no, .no, .no, .no, .no, .no, .no])) L 4 4 rfl rfl (exe_callO1 L 0 0 0 rfl rfl rfl h__law_sentence (Nat.le_refl _) (fun _ => rfl) (fun _ _ => rfl) (axe_consA (ex_var L 1 1 rfl rfl rfl) (axe_consP (ex_ix_aa (ex_var L 1 1 rfl rfl rfl) ex_int (fun _ _ => rfl)) (fun x1 => (axe_cons (exe_op op_addD rs_add (exe_atom ex_int) (fun r2 => (exe_callO1 L 1 0 0 rfl rfl rfl h__law_take (Nat.le_refl _) (fun _ => rfl) (fun _ _ => rfl) (axe_consA ex_int axe_nil)))) (fun r5 => axe_nil)))))) (fun r6 => ?_)
  refine bs_set_a L 5 5 rfl rfl (ex_lst (by decide) (ax_consA (ex_tup (by decide) (ax_consA ex_str (ax_consA ex_str ax_nil))) (ax_consA (ex_tup (by decide) (ax_consA ex_str (ax_consA ex_str ax_nil))) (ax_consA (ex_tup (by decide) (ax_consA ex_str (ax_consA ex_str ax_nil))) (ax_consA (ex_tup (by decide) (ax_consA ex_str (ax_consA ex_str ax_nil))) (ax_consA (ex_tup (by decide) (ax_consA ex_str (ax_consA ex_str ax_nil))) (ax_consA (ex_tup (by decide) (ax_consA ex_str (ax_consA ex_str ax_nil))) ax_nil))))))) ?_
  refine bs_newl_a L 6 6 rfl rfl (by decide) ax_nil ?_
  refine bs_set_a L 7 7 rfl rfl ex_int ?_
  refine bs_setE (S := (fun (t90 : D) => [.ow .l (some v0) t90, .fz a1, .fz a2, .fz a3, .fz r6.1, .fz ((.list [(.tuple [(S "mark"), (S "+")]), (.tuple [(S "number"), (S "1")]), (.tuple [(S "word"), (S "number")]), (.tuple [(S "mark"), (S ";")]), (.tuple [(S "mark"), (S ")")]), (.tuple [(S "word"), (S "if")])])), .ow .l none (.list []), .fz (.int 0), .no, .no, .no, .no, .no, .no, .no])) L 8 8 rfl rfl (exe_callO1 L 1 0 0 rfl rfl rfl h__law_take (Nat.le_refl _) (fun _ => rfl) (fun _ _ => rfl) (axe_consA ex_int axe_nil)) (fun r7 => ?_)
  refine bs_setE (S := (fun (t89 : D) => [.ow .l (some v0) t89, .fz a1, .fz a2, .fz a3, .fz r6.1, .fz ((.list [(.tuple [(S "mark"), (S "+")]), (.tuple [(S "number"), (S "1")]), (.tuple [(S "word"), (S "number")]), (.tuple [(S "mark"), (S ";")]), (.tuple [(S "mark"), (S ")")]), (.tuple [(S "word"), (S "if")])])), .ow .l none (.list []), .fz (.int 0), .fz r7.1, .no, .no, .no, .no, .no, .no])) L 9 9 rfl rfl (exe_ifR (txe_cmp (op_eqZ L.un) rs_eq (exe_callO1 L 1 0 0 rfl rfl rfl h__law_take (Nat.le_refl _) (fun _ => rfl) (fun _ _ => rfl) (axe_consA ex_int axe_nil)) (fun r8 => (exe_atom ex_int)) (nomark _)) (fun r11 => (exe_callO1 L 2 0 0 rfl rfl rfl h__law_diagram (Nat.le_refl _) (fun _ => rfl) (fun _ _ => rfl) (axe_consA (ex_var L 2 2 rfl rfl rfl) axe_nil))) (fun r11 => (exe_atom ex_bool))) (fun r12 => ?_)
  refine bs_set_a L 10 10 rfl rfl ex_bool ?_
  refine bs_set_a L 11 11 rfl rfl ex_str ?_
  refine bs_seq (gN' := (fun (s13 : D × D × D × D × D × D × D) => [.ow .l (some v0) s13.2.2.2.2.2.1, .fz a1, .fz a2, .fz a3, .fz r6.1, .fz ((.list [(.tuple [(S "mark"), (S "+")]), (.tuple [(S "number"), (S "1")]), (.tuple [(S "word"), (S "number")]), (.tuple [(S "mark"), (S ";")]), (.tuple [(S "mark"), (S ")")]), (.tuple [(S "word"), (S "if")])])), .ow .l none s13.2.2.2.2.2.2, .fz s13.2.2.2.1, .fz s13.1, .fz s13.2.2.2.2.1, .fz s13.2.1, .fz s13.2.2.1, .no, .no, .no])) (ss_for1 (gS := (fun (s13 : D × D × D × D × D × D × D) => [.ow .l (some v0) s13.2.2.2.2.2.1, .fz a1, .fz a2, .fz a3, .fz r6.1, .fz ((.list [(.tuple [(S "mark"), (S "+")]), (.tuple [(S "number"), (S "1")]), (.tuple [(S "word"), (S "number")]), (.tuple [(S "mark"), (S ";")]), (.tuple [(S "mark"), (S ")")]), (.tuple [(S "word"), (S "if")])])), .ow .l none s13.2.2.2.2.2.2, .fz s13.2.2.2.1, .fz s13.1, .fz s13.2.2.2.2.1, .fz s13.2.1, .fz s13.2.2.1, .no, .no, .no])) L 12 12 rfl rfl (.same (.same (.same (.same (.same (.same (.same (.same (.same (.same (.same (.same (.no (.no (.no .nil))))))))))))))) (xi_val (ex_sl_an (ex_var L 4 4 rfl rfl rfl) (xo_some_a (ex_var L 3 3 rfl rfl rfl)))) (fun s13 x14 => ?_)) ?_
  · 
    refine bs_seq (gN' := (fun (n23 : D × D × D × D × D) => [.ow .l (some v0) n23.2.2.1, .fz a1, .fz a2, .fz a3, .fz r6.1, .fz ((.list [(.tuple [(S "mark"), (S "+")]), (.tuple [(S "number"), (S "1")]), (.tuple [(S "word"), (S "number")]), (.tuple [(S "mark"), (S ";")]), (.tuple [(S "mark"), (S ")")]), (.tuple [(S "word"), (S "if")])])), .ow .l none s13.2.2.2.2.2.2, .fz n23.1, .fz n23.2.1, .fz n23.2.2.2.1, .fz n23.2.2.2.2, .fz s13.2.2.1, .fz x14, .no, .no])) (ss_ifR (S := (fun (t22 : D) => [.ow .l (some v0) t22, .fz a1, .fz a2, .fz a3, .fz r6.1, .fz ((.list [(.tuple [(S "mark"), (S "+")]), (.tuple [(S "number"), (S "1")]), (.tuple [(S "word"), (S "number")]), (.tuple [(S "mark"), (S ";")]), (.tuple [(S "mark"), (S ")")]), (.tuple [(S "word"), (S "if")])])), .ow .l none s13.2.2.2.2.2.2, .fz s13.2.2.2.1, .fz s13.1, .fz s13.2.2.2.2.1, .fz s13.2.1, .fz s13.2.2.1, .fz x14, .no, .no])) (txe_w (wxe_andR (txe_pure (tx_borrow 6 rfl (tx_cmp_xa (op_gtZ L.un) rs_gt (ex_callB L 3 rfl z_len PySem.boot_len call_len rs_len (ax_consA (ex_var L 6 6 rfl rfl rfl) ax_nil)) ex_int (nomark _)))) (fun r17 => (wxe_and1 (txe_cmp (op_eqZ L.un) rs_eq (exe_callO1 L 1 0 0 rfl rfl rfl h__law_take (Nat.le_refl _) (fun _ => rfl) (fun _ _ => rfl) (axe_consA ex_int axe_nil)) (fun r18 => (exe_atom ex_int)) (nomark _)))))) (fun r21 => ?_) (fun r21 => ?_)) ?_
    · 
        refine bs_set L 7 7 rfl rfl (ex_op_aa op_addD rs_add (ex_var L 7 7 rfl rfl rfl) ex_int) (fun x24 => ?_)
        refine bs_setE (S := (fun (t28 : D) => [.ow .l (some v0) t28, .fz a1, .fz a2, .fz a3, .fz r6.1, .fz ((.list [(.tuple [(S "mark"), (S "+")]), (.tuple [(S "number"), (S "1")]), (.tuple [(S "word"), (S "number")]), (.tuple [(S "mark"), (S ";")]), (.tuple [(S "mark"), (S ")")]), (.tuple [(S "word"), (S "if")])])), .ow .l none s13.2.2.2.2.2.2, .fz x24, .fz s13.1, .fz s13.2.2.2.2.1, .fz s13.2.1, .fz s13.2.2.1, .fz x14, .no, .no])) L 8 8 rfl rfl (exe_callO1 L 1 0 0 rfl rfl rfl h__law_take (Nat.le_refl _) (fun _ => rfl) (fun _ _ => rfl) (axe_consA ex_int axe_nil)) (fun r25 => ?_)
        refine bs_setE (S := (fun (t27 : D) => [.ow .l (some v0) t27, .fz a1, .fz a2, .fz a3, .fz r6.1, .fz ((.list [(.tuple [(S "mark"), (S "+")]), (.tuple [(S "number"), (S "1")]), (.tuple [(S "word"), (S "number")]), (.tuple [(S "mark"), (S ";")]), (.tuple [(S "mark"), (S ")")]), (.tuple [(S "word"), (S "if")])])), .ow .l none s13.2.2.2.2.2.2, .fz x24, .fz r25.1, .fz s13.2.2.2.2.1, .fz s13.2.1, .fz s13.2.2.1, .fz x14, .no, .no])) L 9 9 rfl rfl (exe_callO1 L 2 0 0 rfl rfl rfl h__law_diagram (Nat.le_refl _) (fun _ => rfl) (fun _ _ => rfl) (axe_consA (ex_var L 2 2 rfl rfl rfl) axe_nil)) (fun r26 => ?_)
        refine bs_set_a L 10 10 rfl rfl ex_bool ?_
        exact bs_nil (.same (.same (.same (.same (.same (.same (.same (.same (.same (.same (.same (.same (.same (.no (.no .nil)))))))))))))))
    · 
        exact bs_nil (.same (.same (.same (.same (.same (.same (.same (.same (.same (.same (.same (.same (.same (.no (.no .nil)))))))))))))))
    intro n23
    refine bs_setE (S := (fun (t81 : D) => [.ow .l (some v0) t81, .fz a1, .fz a2, .fz a3, .fz r6.1, .fz ((.list [(.tuple [(S "mark"), (S "+")]), (.tuple [(S "number"), (S "1")]), (.tuple [(S "word"), (S "number")]), (.tuple [(S "mark"), (S ";")]), (.tuple [(S "mark"), (S ")")]), (.tuple [(S "word"), (S "if")])])), .ow .l none s13.2.2.2.2.2.2, .fz n23.1, .fz n23.2.1, .fz n23.2.2.2.1, .fz n23.2.2.2.2, .fz s13.2.2.1, .fz x14, .no, .no])) L 13 13 rfl rfl (exe_callO1 L 1 0 0 rfl rfl rfl h__law_take (Nat.le_refl _) (fun _ => rfl) (fun _ _ => rfl) (axe_consA ex_int axe_nil)) (fun r29 => ?_)
    refine bs_seq (gN' := (fun (n36 : D) => [.ow .l (some v0) r29.2, .fz a1, .fz a2, .fz a3, .fz r6.1, .fz ((.list [(.tuple [(S "mark"), (S "+")]), (.tuple [(S "number"), (S "1")]), (.tuple [(S "word"), (S "number")]), (.tuple [(S "mark"), (S ";")]), (.tuple [(S "mark"), (S ")")]), (.tuple [(S "word"), (S "if")])])), .ow .l none s13.2.2.2.2.2.2, .fz n23.1, .fz n23.2.1, .fz n23.2.2.2.1, .fz n23.2.2.2.2, .fz s13.2.2.1, .fz x14, .fz n36, .no])) (ss_if (tx_w (wx_and (tx_not (tx_val_a (ex_var L 10 10 rfl rfl rfl) (fun _ => rfl))) (wx_and1 (tx_w (wx_or (tx_w (wx_and (tx_cmp_aa (op_eqZ L.un) rs_eq (ex_var L 11 11 rfl rfl rfl) ex_str (nomark _)) (wx_and1 (tx_cmp_xa (op_neZ L.un) rs_ne (ex_ix_aa (ex_var L 12 12 rfl rfl rfl) ex_int (fun _ _ => rfl)) ex_str (nomark _))))) (wx_or1 (tx_w (wx_and (tx_cmp_aa (op_eqZ L.un) rs_eq (ex_var L 11 11 rfl rfl rfl) ex_str (nomark _)) (wx_and1 (tx_cmp_xa (op_eqZ L.un) rs_eq (ex_ix_aa (ex_var L 12 12 rfl rfl rfl) ex_int (fun _ _ => rfl)) ex_str (nomark _))))))))))) ?_ ?_) ?_
    · 
        refine bs_set_a L 13 13 rfl rfl ex_int ?_
        exact bs_nil (.same (.same (.same (.same (.same (.same (.same (.same (.same (.same (.same (.same (.same (.same (.no .nil)))))))))))))))
    · 
        exact bs_nil (.same (.same (.same (.same (.same (.same (.same (.same (.same (.same (.same (.same (.same (.same (.no .nil)))))))))))))))
    intro n36
    refine bs_app L 6 6 rfl rfl rfl (ex_tup (by decide) (ax_cons (ex_op_ax op_addD rs_add (ex_var L 12 12 rfl rfl rfl) (ex_tup (by decide) (ax_consA (ex_var L 7 7 rfl rfl rfl) (ax_cons (ex_op_aa op_addD rs_add (ex_var L 8 8 rfl rfl rfl) (ex_var L 13 13 rfl rfl rfl)) (fun x38 => (ax_cons (ex_and (ex_not_a (ex_var L 10 10 rfl rfl rfl)) (ex_one (ex_cmp_aa (op_eqZ L.un) rs_eq (ex_var L 13 13 rfl rfl rfl) ex_int (nomark _)))) (fun x41 => ax_nil))))))) (fun x43 => (ax_consA (ex_var L 9 9 rfl rfl rfl) ax_nil)))) (fun z37 => ?_)
    refine bs_set L 8 8 rfl rfl (ex_op op_addD rs_add (ex_op_aa op_addD rs_add (ex_var L 8 8 rfl rfl rfl) (ex_var L 13 13 rfl rfl rfl)) (ex_callB L 3 rfl z_len PySem.boot_len call_len rs_len (ax_cons (ex_ix_aa (ex_var L 12 12 rfl rfl rfl) ex_int (fun _ _ => rfl)) (fun x44 => ax_nil)))) (fun x47 => ?_)
    refine bs_set_a L 10 10 rfl rfl ex_bool ?_
    refine bs_set L 11 11 rfl rfl (ex_ix_aa (ex_var L 12 12 rfl rfl rfl) ex_int (fun _ _ => rfl)) (fun x48 => ?_)
    refine bs_one (ss_ifR (S := (fun (t56 : D) => [.ow .l (some v0) t56, .fz a1, .fz a2, .fz a3, .fz r6.1, .fz ((.list [(.tuple [(S "mark"), (S "+")]), (.tuple [(S "number"), (S "1")]), (.tuple [(S "word"), (S "number")]), (.tuple [(S "mark"), (S ";")]), (.tuple [(S "mark"), (S ")")]), (.tuple [(S "word"), (S "if")])])), .ow .l none z37, .fz n23.1, .fz x47, .fz n23.2.2.2.1, .fz (.bool false), .fz x48, .fz x14, .fz n36, .no])) (txe_w (wxe_andR (txe_pure (tx_borrow 6 rfl (tx_cmp_xa (op_ltZ L.un) rs_lt (ex_callB L 3 rfl z_len PySem.boot_len call_len rs_len (ax_consA (ex_var L 6 6 rfl rfl rfl) ax_nil)) (ex_var L 3 3 rfl rfl rfl) (nomark _)))) (fun r51 => (wxe_and1 (txe_cmp (op_eqZ L.un) rs_eq (exe_callO1 L 1 0 0 rfl rfl rfl h__law_take (Nat.le_refl _) (fun _ => rfl) (fun _ _ => rfl) (axe_consA ex_int axe_nil)) (fun r52 => (exe_atom ex_int)) (nomark _)))))) (fun r55 => ?_) (fun r55 => ?_))
    · 
      refine bs_setE (S := (fun (t78 : D) => [.ow .l (some v0) t78, .fz a1, .fz a2, .fz a3, .fz r6.1, .fz ((.list [(.tuple [(S "mark"), (S "+")]), (.tuple [(S "number"), (S "1")]), (.tuple [(S "word"), (S "number")]), (.tuple [(S "mark"), (S ";")]), (.tuple [(S "mark"), (S ")")]), (.tuple [(S "word"), (S "if")])])), .ow .l none z37, .fz n23.1, .fz x47, .fz n23.2.2.2.1, .fz (.bool false), .fz x48, .fz x14, .fz n36, .no])) L 14 14 rfl rfl (exe_ifR (txe_cmp (op_eqZ L.un) rs_eq (exe_callO1 L 1 0 0 rfl rfl rfl h__law_take (Nat.le_refl _) (fun _ => rfl) (fun _ _ => rfl) (axe_consA ex_int axe_nil)) (fun r57 => (exe_atom ex_int)) (nomark _)) (fun r60 => (exe_ix (exe_atom (ex_var (x := (.list [(.tuple [(S "mark"), (S "+")]), (.tuple [(S "number"), (S "1")]), (.tuple [(S "word"), (S "number")]), (.tuple [(S "mark"), (S ";")]), (.tuple [(S "mark"), (S ")")]), (.tuple [(S "word"), (S "if")])])) L 5 5 rfl rfl rfl)) (fun r61 => (exe_callO1 L 1 0 0 rfl rfl rfl h__law_take (Nat.le_refl _) (fun _ => rfl) (fun _ _ => rfl) (axe_consA ex_int axe_nil))) (fun _ _ => rfl))) (fun r60 => (exe_atom (ex_var L 12 12 rfl rfl rfl)))) (fun r64 => ?_)
      refine bs_appE (S := (fun (t77 : D) => [.ow .l (some v0) t77, .fz a1, .fz a2, .fz a3, .fz r6.1, .fz ((.list [(.tuple [(S "mark"), (S "+")]), (.tuple [(S "number"), (S "1")]), (.tuple [(S "word"), (S "number")]), (.tuple [(S "mark"), (S ";")]), (.tuple [(S "mark"), (S ")")]), (.tuple [(S "word"), (S "if")])])), .ow .l none z37, .fz n23.1, .fz x47, .fz n23.2.2.2.1, .fz (.bool false), .fz x48, .fz x14, .fz n36, .fz r64.1])) L 6 6 rfl rfl (fun t => z37) (fun _ => rfl) (exe_tup (by decide) (axe_cons (exe_op op_addD rs_add (exe_atom (ex_var L 14 14 rfl rfl rfl)) (fun r66 => (exe_tup (by decide) (axe_consP (ex_op_aa op_addD rs_add (ex_var L 7 7 rfl rfl rfl) ex_int) (fun x67 => (axe_cons (exe_callO1 L 1 0 0 rfl rfl rfl h__law_take (Nat.le_refl _) (fun _ => rfl) (fun _ _ => rfl) (axe_consA ex_int axe_nil)) (fun r68 => (axe_consA ex_bool axe_nil)))))))) (fun r71 => (axe_cons (exe_callO1 L 4 0 0 rfl rfl rfl h__law_switch_diagram (Nat.le_refl _) (fun _ => rfl) (fun _ _ => rfl) (axe_consA (ex_var L 2 2 rfl rfl rfl) axe_nil)) (fun r72 => axe_nil))))) (fun r73 z65 => ?_)
      refine bs_set L 7 7 rfl rfl (ex_op_aa op_addD rs_add (ex_var L 7 7 rfl rfl rfl) ex_int) (fun x74 => ?_)
      refine bs_setE (S := (fun (t76 : D) => [.ow .l (some v0) t76, .fz a1, .fz a2, .fz a3, .fz r6.1, .fz ((.list [(.tuple [(S "mark"), (S "+")]), (.tuple [(S "number"), (S "1")]), (.tuple [(S "word"), (S "number")]), (.tuple [(S "mark"), (S ";")]), (.tuple [(S "mark"), (S ")")]), (.tuple [(S "word"), (S "if")])])), .ow .l none z65, .fz x74, .fz x47, .fz n23.2.2.2.1, .fz (.bool false), .fz x48, .fz x14, .fz n36, .fz r64.1])) L 8 8 rfl rfl (exe_callO1 L 1 0 0 rfl rfl rfl h__law_take (Nat.le_refl _) (fun _ => rfl) (fun _ _ => rfl) (axe_consA ex_int axe_nil)) (fun r75 => ?_)
      refine bs_set_a L 10 10 rfl rfl ex_bool ?_
      exact bs_nil (.same (.same (.same (.same (.same (.same (.same (.same (.same (.same (.same (.same (.no (.no (.no .nil)))))))))))))))
    · 
      exact bs_nil (.same (.same (.same (.same (.same (.same (.same (.same (.same (.same (.same (.same (.no (.no (.no .nil)))))))))))))))
  intro s85
  refine bs_freeze 6 rfl ?_
  exact bs_ret (mk := fun x88 => (x88, s85.2.2.2.2.2.1)) (ex_sl_an (ex_var L 6 6 rfl rfl rfl) (xo_some_a (ex_var L 3 3 rfl rfl rfl))) (fun _ => rfl) (fun _ => (.same (.no (.no (.no (.no (.no (.no (.no (.no (.no (.no (.no (.no (.no (.no .nil))))))))))))))))

theorem f__law_folded {E : ME} {kk : Nat} (hd : DefAt E "_law_folded" "_law_folded" s__law_folded ["_law_tape_here", "_law_grammar_here", "_law_count", "_law_most"]) (z_len : Free E "len") (h__law_diagram : FnM E kk "_law_diagram" (CO1 .l (fun t => g1 (m__law_diagram t)))) (h__law_sentence : FnM E kk "_law_sentence" (CO1 .l (fun t => g3 (m__law_sentence 8 t)))) (h__law_switch_diagram : FnM E kk "_law_switch_diagram" (CO1 .l (fun t => g1 (m__law_switch_diagram t)))) (h__law_take : FnM E kk "_law_take" (CO1 .l (fun t => g1 (m__law_take t)))) : FnM E (kk + 1) "_law_folded" (CO1 .l (fun t => g3 (m__law_folded t))) :=
  hd.fn (N := ["_law_tape_here", "_law_grammar_here", "_law_count", "_law_most", "_law_words", "_law_extra", "_law_found", "_law_row", "_law_column", "_law_diagram_here", "_law_first_here", "_law_before", "_law_word_here", "_law_gap", "_law_other"]) (W := ["_law_tape_here", "_law_grammar_here", "_law_count", "_law_most", "_law_words", "_law_extra", "_law_found", "_law_row", "_law_column", "_law_diagram_here", "_law_first_here", "_law_before", "_law_word_here", "_law_gap", "_law_other"]) (G := ["_law_sentence", "_law_take", "_law_diagram", "len", "_law_switch_diagram"]) (Sl := ["_law_tape_here", "_law_grammar_here", "_law_count", "_law_most", "_law_words", "_law_extra", "_law_found", "_law_row", "_law_column", "_law_diagram_here", "_law_first_here", "_law_before", "_law_word_here", "_law_gap", "_law_other"]) ⟨rfl, rfl, rfl, by decide +kernel, rfl, by decide +kernel, by decide +kernel⟩ (by decide +kernel) (by decide +kernel)
    (fun Γ0 r Γ1 ⟨v, x, xs, y, h1, h2, h3⟩ => match xs, h2 with | [_, _, _], _ => by subst h1; rfl)
    fun X L Γ0 r Γ1 ⟨v0, a0, xs, y, h1, h2, h3⟩ => match xs, h2 with
      | [a1, a2, a3], h2 => by
        subst h1 h3
        exact body_of (d := Empty.elim) (rr := (r, y)) (b__law_folded L z_len h__law_diagram h__law_sentence h__law_switch_diagram h__law_take v0 a0 a1 a2 a3) h2 (.ow (.no (.no (.no .nil)))) (fun n => n.elim)

abbrev s__law_world : Stmt := top 67

def m__law_world_b (a0 : D) (a1 : D) : Option (Ctl Empty Empty (D × D)) :=
  ((some ((.int 1), a0)).bind fun r1 => (m__law_take r1.2 (.int 3)).bind fun r2 => (pAdd r1.1 r2.1).map fun z3 => (z3, r2.2)).bind fun r4 => Ctl.seq (((m__law_take r4.2 (.int 8)).bind fun r5 => (some ((.int 0), r5.2)).bind fun r6 => ((pEq r5.1 r6.1).bind dBool).map fun z7 => (z7, r6.2)).bind fun r8 => if r8.1 = true then ((some ((.int 4), r8.2)).bind fun r11 => (m__law_take r11.2 (.int 2)).bind fun r12 => (pAdd r11.1 r12.1).map fun z13 => (z13, r12.2)).bind fun r14 => (pMin2 a1 (.int 3)).bind fun x15 => some (.nx (r14.1, r14.2, x15)) else some (.nx (r4.1, r8.2, a1)) : Option (Ctl (D × D × D) Empty (D × D))) fun (n10 : D × D × D) => (m__law_grammar n10.2.1 n10.1).bind fun r17 => (((some ((.int 1), r17.2)).bind fun r18 => (m__law_take r18.2 n10.2.2).bind fun r19 => (pAdd r18.1 r19.1).map fun z20 => (z20, r19.2)).bind fun r21 => m__law_folded r21.2 r17.1 n10.1 r21.1).bind fun r22 => some (.rt ((.tuple [n10.1, r17.1, r22.1]), r22.2))
def m__law_world (a0 : D) (a1 : D) : Option (D × D) := Ctl.fin Empty.elim (m__law_world_b a0 a1)

theorem b__law_world {X : Cx} {E : ME} {kk : Nat} (L : LX X E kk ["_law_tape_here", "_law_most", "_law_count", "_law_grammar_here", "_law_folded_here"] ["_law_tape_here", "_law_most", "_law_count", "_law_grammar_here", "_law_folded_here"] ["_law_take", "min", "_law_grammar", "_law_folded"] ["_law_tape_here", "_law_most", "_law_count", "_law_grammar_here", "_law_folded_here"] (defScope s__law_world)) (z_min : Free E "min") (h__law_folded : FnM E kk "_law_folded" (CO1 .l (fun t => g3 (m__law_folded t)))) (h__law_grammar : FnM E kk "_law_grammar" (CO1 .l (fun t => g1 (m__law_grammar t)))) (h__law_take : FnM E kk "_law_take" (CO1 .l (fun t => g1 (m__law_take t)))) (v0 : V) (a0 : D) (a1 : D) :
    BS X [.ow .l (some v0) a0, .fz a1, .no, .no, .no] (defBody s__law_world) (m__law_world_b a0 a1) Empty.elim Empty.elim (fun (r : (D × D)) => [.ow .l (some v0) r.2, .no, .no, .no, .no]) (fun r => r.1) := by
  unfold m__law_world_b
  refine bs_setE (S := (fun (t26 : D) => [.ow .l (some v0) t26, .fz a1, .no, .no, .no])) L 2 2 rfl rfl (exe_op op_addD rs_add (exe_atom ex_int) (fun r1 => (exe_callO1 L 0 0 0 rfl rfl rfl h__law_take (Nat.le_refl _) (fun _ => rfl) (fun _ _ => rfl) (axe_consA ex_int axe_nil)))) (fun r4 => ?_)
  refine bs_seq (gN' := (fun (n10 : D × D × D) => [.ow .l (some v0) n10.2.1, .fz n10.2.2, .fz n10.1, .no, .no])) (ss_ifR (S := (fun (t9 : D) => [.ow .l (some v0) t9, .fz a1, .fz r4.1, .no, .no])) (txe_cmp (op_eqZ L.un) rs_eq (exe_callO1 L 0 0 0 rfl rfl rfl h__law_take (Nat.le_refl _) (fun _ => rfl) (fun _ _ => rfl) (axe_consA ex_int axe_nil)) (fun r5 => (exe_atom ex_int)) (nomark _)) (fun r8 => ?_) (fun r8 => ?_)) ?_
  · 
      refine bs_setE (S := (fun (t16 : D) => [.ow .l (some v0) t16, .fz a1, .fz r4.1, .no, .no])) L 2 2 rfl rfl (exe_op op_addD rs_add (exe_atom ex_int) (fun r11 => (exe_callO1 L 0 0 0 rfl rfl rfl h__law_take (Nat.le_refl _) (fun _ => rfl) (fun _ _ => rfl) (axe_consA ex_int axe_nil)))) (fun r14 => ?_)
      refine bs_set L 1 1 rfl rfl (ex_callB L 1 rfl z_min PyProof.Rows.boot_min (call_min2 L.calm) rs_min2 (ax_consA (ex_var L 1 1 rfl rfl rfl) (ax_consA ex_int ax_nil))) (fun x15 => ?_)
      exact bs_nil (.same (.same (.same (.no (.no .nil)))))
  · 
      exact bs_nil (.same (.same (.same (.no (.no .nil)))))
  intro n10
  refine bs_setE (S := (fun (t25 : D) => [.ow .l (some v0) t25, .fz n10.2.2, .fz n10.1, .no, .no])) L 3 3 rfl rfl (exe_callO1 L 2 0 0 rfl rfl rfl h__law_grammar (Nat.le_refl _) (fun _ => rfl) (fun _ _ => rfl) (axe_consA (ex_var L 2 2 rfl rfl rfl) axe_nil)) (fun r17 => ?_)
  refine bs_setE (S := (fun (t24 : D) => [.ow .l (some v0) t24, .fz n10.2.2, .fz n10.1, .fz r17.1, .no])) L 4 4 rfl rfl (exe_callO1 L 3 0 0 rfl rfl rfl h__law_folded (Nat.le_refl _) (fun _ => rfl) (fun _ _ => rfl) (axe_consA (ex_var L 3 3 rfl rfl rfl) (axe_consA (ex_var L 2 2 rfl rfl rfl) (axe_cons (exe_op op_addD rs_add (exe_atom ex_int) (fun r18 => (exe_callO1 L 0 0 0 rfl rfl rfl h__law_take (Nat.le_refl _) (fun _ => rfl) (fun _ _ => rfl) (axe_consA (ex_var L 1 1 rfl rfl rfl) axe_nil)))) (fun r21 => axe_nil))))) (fun r22 => ?_)
  exact bs_ret_a (mk := fun x23 => (x23, r22.2)) (ex_tup (by decide) (ax_consA (ex_var L 2 2 rfl rfl rfl) (ax_consA (ex_var L 3 3 rfl rfl rfl) (ax_consA (ex_var L 4 4 rfl rfl rfl) ax_nil)))) (fun _ => rfl) (fun _ => (.same (.no (.no (.no (.no .nil))))))

theorem f__law_world {E : ME} {kk : Nat} (hd : DefAt E "_law_world" "_law_world" s__law_world ["_law_tape_here", "_law_most"]) (z_min : Free E "min") (h__law_folded : FnM E kk "_law_folded" (CO1 .l (fun t => g3 (m__law_folded t)))) (h__law_grammar : FnM E kk "_law_grammar" (CO1 .l (fun t => g1 (m__law_grammar t)))) (h__law_take : FnM E kk "_law_take" (CO1 .l (fun t => g1 (m__law_take t)))) : FnM E (kk + 1) "_law_world" (CO1 .l (fun t => g1 (m__law_world t))) :=
  hd.fn (N := ["_law_tape_here", "_law_most", "_law_count", "_law_grammar_here", "_law_folded_here"]) (W := ["_law_tape_here", "_law_most", "_law_count", "_law_grammar_here", "_law_folded_here"]) (G := ["_law_take", "min", "_law_grammar", "_law_folded"]) (Sl := ["_law_tape_here", "_law_most", "_law_count", "_law_grammar_here", "_law_folded_here"]) ⟨rfl, rfl, rfl, by decide +kernel, rfl, by decide +kernel, by decide +kernel⟩ (by decide +kernel) (by decide +kernel)
    (fun Γ0 r Γ1 ⟨v, x, xs, y, h1, h2, h3⟩ => match xs, h2 with | [_], _ => by subst h1; rfl)
    fun X L Γ0 r Γ1 ⟨v0, a0, xs, y, h1, h2, h3⟩ => match xs, h2 with
      | [a1], h2 => by
        subst h1 h3
        exact body_of (d := Empty.elim) (rr := (r, y)) (b__law_world L z_min h__law_folded h__law_grammar h__law_take v0 a0 a1) h2 (.ow (.no .nil)) (fun n => n.elim)

abbrev s_is_index : Stmt := top 16

def m_is_index_b (a0 : D) (a1 : D) : Option (Ctl Empty Empty D) :=
  (if (PyData.isInt a0) = true then if (!(PyData.isBool a0)) = true then (some (.int 0)).bind fun x1 => (some a0).bind fun y2 => ((pLe x1 y2).bind dBool).bind fun k4 => if k4 = true then (some a1).bind fun z3 => (pLt y2 z3) else some (.bool false) else some (.bool (!(PyData.isBool a0))) else some (.bool (PyData.isInt a0))).bind fun x5 => some (.rt x5)
def m_is_index (a0 : D) (a1 : D) : Option D := Ctl.fin Empty.elim (m_is_index_b a0 a1)

theorem b_is_index {X : Cx} {E : ME} {kk : Nat} (L : LX X E kk ["value", "count"] ["value", "count"] ["isinstance", "int", "bool"] ["value", "count"] (defScope s_is_index)) (z_bool : Free E "bool") (z_int : Free E "int") (z_isinstance : Free E "isinstance") (a0 : D) (a1 : D) :
    BS X [.fz a0, .fz a1] (defBody s_is_index) (m_is_index_b a0 a1) Empty.elim Empty.elim (fun (_ : D) => [.no, .no]) (fun x => x) := by
  unfold m_is_index_b
  exact bs_ret (mk := fun x5 => x5) (ex_and_a (ex_isa_a isa_int L 0 1 rfl z_isinstance rfl z_int PyProof.Rows.boot_int (ex_var L 0 0 rfl rfl rfl)) (ex_and_a (ex_not_b (ex_isa_a isa_bool L 0 2 rfl z_isinstance rfl z_bool PyProof.Rows.boot_bool (ex_var L 0 0 rfl rfl rfl))) (ex_one (ex_chain (op_leZ L.un) rs_le (op_ltZ L.un) rs_lt ex_int (ex_var L 0 0 rfl rfl rfl) (ex_var L 1 1 rfl rfl rfl))))) (fun _ => rfl) (fun _ => (.no (.no .nil)))

theorem f_is_index {E : ME} {kk : Nat} (hd : DefAt E "is_index" "is_index" s_is_index ["value", "count"]) (z_bool : Free E "bool") (z_int : Free E "int") (z_isinstance : Free E "isinstance") : FnM E (kk + 1) "is_index" (CP (g2 m_is_index)) :=
  hd.fn (N := ["value", "count"]) (W := ["value", "count"]) (G := ["isinstance", "int", "bool"]) (Sl := ["value", "count"]) ⟨rfl, rfl, rfl, by decide +kernel, rfl, by decide +kernel, by decide +kernel⟩ (by decide +kernel) (by decide +kernel)
    (fun Γ0 r Γ1 ⟨xs, h1, h2, h3⟩ => match xs, h2 with | [_, _], _ => by subst h1; rfl)
    fun X L Γ0 r Γ1 ⟨xs, h1, h2, h3⟩ => match xs, h2 with
      | [a0, a1], h2 => by
        subst h1 h3
        exact body_of (d := Empty.elim) (b_is_index L z_bool z_int z_isinstance a0 a1) h2 (.no (.no .nil)) (fun n => n.elim)

abbrev s_same : Stmt := top 1

def m_same_b (a0 : D) (a1 : D) : Option (Ctl Empty Empty D) :=
  ((pEq a0 a1).bind fun x1 => (pTru x1).bind fun k2 => if k2 = true then pEq (.bool (PyData.isTuple a0)) (.bool (PyData.isTuple a1)) else some x1).bind fun x3 => some (.rt x3)
def m_same (a0 : D) (a1 : D) : Option D := Ctl.fin Empty.elim (m_same_b a0 a1)

theorem b_same {X : Cx} {E : ME} {kk : Nat} (L : LX X E kk ["d", "e"] ["d", "e"] ["isinstance", "tuple"] ["d", "e"] (defScope s_same)) (z_isinstance : Free E "isinstance") (z_tuple : Free E "tuple") (a0 : D) (a1 : D) :
    BS X [.fz a0, .fz a1] (defBody s_same) (m_same_b a0 a1) Empty.elim Empty.elim (fun (_ : D) => [.no, .no]) (fun x => x) := by
  unfold m_same_b
  exact bs_ret (mk := fun x3 => x3) (ex_and (ex_cmp_aa (op_eqZ L.un) rs_eq (ex_var L 0 0 rfl rfl rfl) (ex_var L 1 1 rfl rfl rfl) (nomark _)) (ex_one (ex_cmp_aa (op_eqZ L.un) rs_eq (ex_isa_a isa_tuple L 0 1 rfl z_isinstance rfl z_tuple PyProof.Rows.boot_tuple (ex_var L 0 0 rfl rfl rfl)) (ex_isa_a isa_tuple L 0 1 rfl z_isinstance rfl z_tuple PyProof.Rows.boot_tuple (ex_var L 1 1 rfl rfl rfl)) (nomark _)))) (fun _ => rfl) (fun _ => (.no (.no .nil)))

theorem f_same {E : ME} {kk : Nat} (hd : DefAt E "same" "same" s_same ["d", "e"]) (z_isinstance : Free E "isinstance") (z_tuple : Free E "tuple") : FnM E (kk + 1) "same" (CP (g2 m_same)) :=
  hd.fn (N := ["d", "e"]) (W := ["d", "e"]) (G := ["isinstance", "tuple"]) (Sl := ["d", "e"]) ⟨rfl, rfl, rfl, by decide +kernel, rfl, by decide +kernel, by decide +kernel⟩ (by decide +kernel) (by decide +kernel)
    (fun Γ0 r Γ1 ⟨xs, h1, h2, h3⟩ => match xs, h2 with | [_, _], _ => by subst h1; rfl)
    fun X L Γ0 r Γ1 ⟨xs, h1, h2, h3⟩ => match xs, h2 with
      | [a0, a1], h2 => by
        subst h1 h3
        exact body_of (d := Empty.elim) (b_same L z_isinstance z_tuple a0 a1) h2 (.no (.no .nil)) (fun n => n.elim)

abbrev s_is_below : Stmt := top 2

def m_is_below_b (m_is_below : D → D → D → Option D) (a0 : D) (a1 : D) (a2 : D) : Option (Ctl Empty Empty D) :=
  if (PyData.isBool a0) = true then Ctl.ex (some (.rt (.bool true)) : Option (Ctl Unit Empty D)) else (if (!(PyData.isTuple a0)) = true then some true else ((pLen a0).bind fun x2 => (pNe x2 (.int 3)).bind dBool).bind fun k6 => if k6 = true then some true else ((((pIdx a0 (.int 0)).map fun x3 => .bool (PyData.isInt x3)).bind pTru).map (!·)).bind fun k5 => if k5 = true then some true else ((pIdx a0 (.int 0)).map fun x4 => .bool (PyData.isBool x4)).bind pTru).bind fun k26 => if k26 = true then Ctl.ex (some (.rt (.bool false)) : Option (Ctl Unit Empty D)) else (((some a1).bind fun x8 => (pIdx a0 (.int 0)).bind fun y9 => ((pLe x8 y9).bind dBool).bind fun k11 => if k11 = true then (some a2).bind fun z10 => (pLt y9 z10).bind dBool else some false).map (!·)).bind fun k25 => if k25 = true then Ctl.ex (some (.rt (.bool false)) : Option (Ctl Unit Empty D)) else (((((pIdx a0 (.int 1)).bind fun x13 => ((pIdx a0 (.int 0)).bind fun x14 => pAdd x14 (.int 1)).bind fun x15 => m_is_below x13 x15 a2).bind pTru).map (!·)).bind fun k19 => if k19 = true then some true else (((pIdx a0 (.int 2)).bind fun x16 => ((pIdx a0 (.int 0)).bind fun x17 => pAdd x17 (.int 1)).bind fun x18 => m_is_below x16 x18 a2).bind pTru).map (!·)).bind fun k24 => if k24 = true then Ctl.ex (some (.rt (.bool false)) : Option (Ctl Unit Empty D)) else (((pIdx a0 (.int 1)).bind fun x21 => (pIdx a0 (.int 2)).bind fun x22 => m_same x21 x22).bind pNot).bind fun x23 => some (.rt x23)

def m_is_below : Nat → D → D → D → Option D
  | 0 => fun _ _ _ => none
  | n + 1 => fun a0 a1 a2 => Ctl.fin Empty.elim (m_is_below_b (m_is_below n) a0 a1 a2)

theorem b_is_below {X : Cx} {E : ME} {kk : Nat} {m_is_below : D → D → D → Option D} (L : LX X E kk ["value", "first", "count"] ["value", "first", "count"] ["isinstance", "bool", "tuple", "len", "int", "is_below", "same"] ["value", "first", "count"] (defScope s_is_below)) (z_bool : Free E "bool") (z_int : Free E "int") (z_isinstance : Free E "isinstance") (z_len : Free E "len") (z_tuple : Free E "tuple") (h_same : FnM E kk "same" (CP (g2 m_same))) (h_is_below : FnM E kk "is_below" (CP (g3 m_is_below))) (a0 : D) (a1 : D) (a2 : D) :
    BS X [.fz a0, .fz a1, .fz a2] (defBody s_is_below) (m_is_below_b m_is_below a0 a1 a2) Empty.elim Empty.elim (fun (_ : D) => [.no, .no, .no]) (fun x => x) := by
  unfold m_is_below_b
  refine bs_ifx_a (gN' := fun (_ : Unit) => []) (tx_bool (ex_isa_a isa_bool L 0 1 rfl z_isinstance rfl z_bool PyProof.Rows.boot_bool (ex_var L 0 0 rfl rfl rfl)) (fun _ => rfl)) ?_ ?_
  · 
    exact bs_ret_a (mk := fun x1 => x1) ex_bool (fun _ => rfl) (fun _ => (.no (.no (.no .nil))))
  refine bs_ifx (gN' := fun (_ : Unit) => []) (tx_w (wx_or_a (tx_not_a (tx_bool (ex_isa_a isa_tuple L 0 2 rfl z_isinstance rfl z_tuple PyProof.Rows.boot_tuple (ex_var L 0 0 rfl rfl rfl)) (fun _ => rfl))) (wx_or (tx_cmp_xa (op_neZ L.un) rs_ne (ex_callB L 3 rfl z_len PySem.boot_len call_len rs_len (ax_consA (ex_var L 0 0 rfl rfl rfl) ax_nil)) ex_int (nomark _)) (wx_or (tx_not (tx_val (ex_isa isa_int L 0 4 rfl z_isinstance rfl z_int PyProof.Rows.boot_int (ex_ix_aa (ex_var L 0 0 rfl rfl rfl) ex_int (fun _ _ => rfl))) (fun _ => rfl))) (wx_or1 (tx_val (ex_isa isa_bool L 0 1 rfl z_isinstance rfl z_bool PyProof.Rows.boot_bool (ex_ix_aa (ex_var L 0 0 rfl rfl rfl) ex_int (fun _ _ => rfl))) (fun _ => rfl))))))) ?_ ?_
  · 
    exact bs_ret_a (mk := fun x7 => x7) ex_bool (fun _ => rfl) (fun _ => (.no (.no (.no .nil))))
  refine bs_ifx (gN' := fun (_ : Unit) => []) (tx_not (tx_chain (op_leZ L.un) rs_le (op_ltZ L.un) rs_lt (ex_var L 1 1 rfl rfl rfl) (ex_ix_aa (ex_var L 0 0 rfl rfl rfl) ex_int (fun _ _ => rfl)) (ex_var L 2 2 rfl rfl rfl))) ?_ ?_
  · 
    exact bs_ret_a (mk := fun x12 => x12) ex_bool (fun _ => rfl) (fun _ => (.no (.no (.no .nil))))
  refine bs_ifx (gN' := fun (_ : Unit) => []) (tx_w (wx_or (tx_not (tx_val (ex_call L 5 rfl h_is_below (Nat.le_refl _) (ax_cons (ex_ix_aa (ex_var L 0 0 rfl rfl rfl) ex_int (fun _ _ => rfl)) (fun x13 => (ax_cons (ex_op_xa op_addD rs_add (ex_ix_aa (ex_var L 0 0 rfl rfl rfl) ex_int (fun _ _ => rfl)) ex_int) (fun x15 => (ax_consA (ex_var L 2 2 rfl rfl rfl) ax_nil)))))) (fun _ => rfl))) (wx_or1 (tx_not (tx_val (ex_call L 5 rfl h_is_below (Nat.le_refl _) (ax_cons (ex_ix_aa (ex_var L 0 0 rfl rfl rfl) ex_int (fun _ _ => rfl)) (fun x16 => (ax_cons (ex_op_xa op_addD rs_add (ex_ix_aa (ex_var L 0 0 rfl rfl rfl) ex_int (fun _ _ => rfl)) ex_int) (fun x18 => (ax_consA (ex_var L 2 2 rfl rfl rfl) ax_nil)))))) (fun _ => rfl)))))) ?_ ?_
  · 
    exact bs_ret_a (mk := fun x20 => x20) ex_bool (fun _ => rfl) (fun _ => (.no (.no (.no .nil))))
  exact bs_ret (mk := fun x23 => x23) (ex_not (ex_call L 6 rfl h_same (Nat.le_refl _) (ax_cons (ex_ix_aa (ex_var L 0 0 rfl rfl rfl) ex_int (fun _ _ => rfl)) (fun x21 => (ax_cons (ex_ix_aa (ex_var L 0 0 rfl rfl rfl) ex_int (fun _ _ => rfl)) (fun x22 => ax_nil)))))) (fun _ => rfl) (fun _ => (.no (.no (.no .nil))))

theorem f_is_below {E : ME} {kk : Nat} {n : Nat} (hd : DefAt E "is_below" "is_below" s_is_below ["value", "first", "count"]) (z_bool : Free E "bool") (z_int : Free E "int") (z_isinstance : Free E "isinstance") (z_len : Free E "len") (z_tuple : Free E "tuple") (h_same : FnM E kk "same" (CP (g2 m_same))) (h_is_below : FnM E kk "is_below" (CP (g3 (m_is_below n)))) : FnM E (kk + 1) "is_below" (CP (g3 (m_is_below (n + 1)))) :=
  hd.fn (N := ["value", "first", "count"]) (W := ["value", "first", "count"]) (G := ["isinstance", "bool", "tuple", "len", "int", "is_below", "same"]) (Sl := ["value", "first", "count"]) ⟨rfl, rfl, rfl, by decide +kernel, rfl, by decide +kernel, by decide +kernel⟩ (by decide +kernel) (by decide +kernel)
    (fun Γ0 r Γ1 ⟨xs, h1, h2, h3⟩ => match xs, h2 with | [_, _, _], _ => by subst h1; rfl)
    fun X L Γ0 r Γ1 ⟨xs, h1, h2, h3⟩ => match xs, h2 with
      | [a0, a1, a2], h2 => by
        subst h1 h3
        exact body_of (d := Empty.elim) (b_is_below L z_bool z_int z_isinstance z_len z_tuple h_same h_is_below a0 a1 a2) h2 (.no (.no (.no .nil))) (fun n => n.elim)

theorem r_is_below {E : ME} {kk : Nat} (hd_is_below : DefAt E "is_below" "is_below" s_is_below ["value", "first", "count"]) (z_bool : Free E "bool") (z_int : Free E "int") (z_isinstance : Free E "isinstance") (z_len : Free E "len") (z_tuple : Free E "tuple") (h_same : FnM E kk "same" (CP (g2 m_same))) : ∀ n : Nat, FnM E (kk + n) "is_below" (CP (g3 (m_is_below n)))
  | 0 => (hd_is_below.zero (cp_none (fun xs => match xs with | [_, _, _] => rfl | [] => rfl | [_] => rfl | [_, _] => rfl | _ :: _ :: _ :: _ :: _ => rfl))).mono (Nat.zero_le _)
  | n + 1 => by
    have ih := r_is_below (E := E) (kk := kk) hd_is_below z_bool z_int z_isinstance z_len z_tuple h_same n
    exact f_is_below hd_is_below z_bool z_int z_isinstance z_len z_tuple (h_same.mono (Nat.le_add_right _ _)) ih

abbrev s_is_diagram : Stmt := top 3

def m_is_diagram_b (a0 : D) (a1 : D) : Option (Ctl Empty Empty D) :=
  (m_is_below 12 a0 (.int 0) a1).bind fun x1 => some (.rt x1)
def m_is_diagram (a0 : D) (a1 : D) : Option D := Ctl.fin Empty.elim (m_is_diagram_b a0 a1)

theorem b_is_diagram {X : Cx} {E : ME} {kk : Nat} (L : LX X E kk ["value", "count"] ["value", "count"] ["is_below"] ["value", "count"] (defScope s_is_diagram)) (h_is_below : FnM E kk "is_below" (CP (g3 (m_is_below 12)))) (a0 : D) (a1 : D) :
    BS X [.fz a0, .fz a1] (defBody s_is_diagram) (m_is_diagram_b a0 a1) Empty.elim Empty.elim (fun (_ : D) => [.no, .no]) (fun x => x) := by
  unfold m_is_diagram_b
  exact bs_ret (mk := fun x1 => x1) (ex_call L 0 rfl h_is_below (Nat.le_refl _) (ax_consA (ex_var L 0 0 rfl rfl rfl) (ax_consA ex_int (ax_consA (ex_var L 1 1 rfl rfl rfl) ax_nil)))) (fun _ => rfl) (fun _ => (.no (.no .nil)))

theorem f_is_diagram {E : ME} {kk : Nat} (hd : DefAt E "is_diagram" "is_diagram" s_is_diagram ["value", "count"]) (h_is_below : FnM E kk "is_below" (CP (g3 (m_is_below 12)))) : FnM E (kk + 1) "is_diagram" (CP (g2 m_is_diagram)) :=
  hd.fn (N := ["value", "count"]) (W := ["value", "count"]) (G := ["is_below"]) (Sl := ["value", "count"]) ⟨rfl, rfl, rfl, by decide +kernel, rfl, by decide +kernel, by decide +kernel⟩ (by decide +kernel) (by decide +kernel)
    (fun Γ0 r Γ1 ⟨xs, h1, h2, h3⟩ => match xs, h2 with | [_, _], _ => by subst h1; rfl)
    fun X L Γ0 r Γ1 ⟨xs, h1, h2, h3⟩ => match xs, h2 with
      | [a0, a1], h2 => by
        subst h1 h3
        exact body_of (d := Empty.elim) (b_is_diagram L h_is_below a0 a1) h2 (.no (.no .nil)) (fun n => n.elim)

abbrev s_is_condition : Stmt := top 19

def m_is_condition_b (a0 : D) (a1 : D) : Option (Ctl Empty Empty D) :=
  ((m_is_diagram a0 a1).bind fun x1 => (pTru x1).bind fun k2 => if k2 = true then pIsNot a0 (.bool false) else some x1).bind fun x3 => some (.rt x3)
def m_is_condition (a0 : D) (a1 : D) : Option D := Ctl.fin Empty.elim (m_is_condition_b a0 a1)

theorem b_is_condition {X : Cx} {E : ME} {kk : Nat} (L : LX X E kk ["value", "count"] ["value", "count"] ["is_diagram"] ["value", "count"] (defScope s_is_condition)) (h_is_diagram : FnM E kk "is_diagram" (CP (g2 m_is_diagram))) (a0 : D) (a1 : D) :
    BS X [.fz a0, .fz a1] (defBody s_is_condition) (m_is_condition_b a0 a1) Empty.elim Empty.elim (fun (_ : D) => [.no, .no]) (fun x => x) := by
  unfold m_is_condition_b
  exact bs_ret (mk := fun x3 => x3) (ex_and (ex_call L 0 rfl h_is_diagram (Nat.le_refl _) (ax_consA (ex_var L 0 0 rfl rfl rfl) (ax_consA (ex_var L 1 1 rfl rfl rfl) ax_nil))) (ex_one (ex_cmp_aa op_isNotV rs_isNot (ex_var L 0 0 rfl rfl rfl) ex_bool (nomark _)))) (fun _ => rfl) (fun _ => (.no (.no .nil)))

theorem f_is_condition {E : ME} {kk : Nat} (hd : DefAt E "is_condition" "is_condition" s_is_condition ["value", "count"]) (h_is_diagram : FnM E kk "is_diagram" (CP (g2 m_is_diagram))) : FnM E (kk + 1) "is_condition" (CP (g2 m_is_condition)) :=
  hd.fn (N := ["value", "count"]) (W := ["value", "count"]) (G := ["is_diagram"]) (Sl := ["value", "count"]) ⟨rfl, rfl, rfl, by decide +kernel, rfl, by decide +kernel, by decide +kernel⟩ (by decide +kernel) (by decide +kernel)
    (fun Γ0 r Γ1 ⟨xs, h1, h2, h3⟩ => match xs, h2 with | [_, _], _ => by subst h1; rfl)
    fun X L Γ0 r Γ1 ⟨xs, h1, h2, h3⟩ => match xs, h2 with
      | [a0, a1], h2 => by
        subst h1 h3
        exact body_of (d := Empty.elim) (b_is_condition L h_is_diagram a0 a1) h2 (.no (.no .nil)) (fun n => n.elim)

abbrev s_is_bar : Stmt := top 21

def m_is_bar_b (a0 : D) (a1 : D) (a2 : D) : Option (Ctl Empty Empty D) :=
  (if (!(PyData.isTuple a0)) = true then some true else (pLen a0).bind fun x1 => (pNe x1 (.int 4)).bind dBool).bind fun k26 => if k26 = true then Ctl.ex (some (.rt (.bool false)) : Option (Ctl Unit Empty D)) else (((((pIdx a0 (.int 0)).bind fun x3 => (pLen a1).bind fun x4 => m_is_index x3 x4).bind pTru).map (!·)).bind fun k7 => if k7 = true then some true else (((pIdx a0 (.int 2)).bind fun x5 => (pLen a1).bind fun x6 => m_is_index x5 x6).bind pTru).map (!·)).bind fun k25 => if k25 = true then Ctl.ex (some (.rt (.bool false)) : Option (Ctl Unit Empty D)) else (((pIdx a0 (.int 0)).bind fun y9 => pIdx a1 y9).bind fun x10 => pIdx x10 (.int 1)).bind fun x11 => (((((pIdx a0 (.int 1)).bind fun x12 => (pLen x11).bind fun x13 => m_is_index x12 x13).bind pTru).map (!·)).bind fun k15 => if k15 = true then some true else (((pIdx a0 (.int 3)).bind fun x14 => m_is_condition x14 a2).bind pTru).map (!·)).bind fun k24 => if k24 = true then Ctl.ex (some (.rt (.bool false)) : Option (Ctl Unit Empty D)) else (((pIdx a0 (.int 1)).bind fun y17 => pIdx x11 y17).bind fun x21 => ((((pIdx a0 (.int 2)).bind fun y18 => pIdx a1 y18).bind fun x19 => pIdx x19 (.int 0)).bind fun x20 => some (.tuple [(S "symbol"), x20])).bind fun y22 => pEq x21 y22).bind fun x23 => some (.rt x23)
def m_is_bar (a0 : D) (a1 : D) (a2 : D) : Option D := Ctl.fin Empty.elim (m_is_bar_b a0 a1 a2)

theorem b_is_bar {X : Cx} {E : ME} {kk : Nat} (L : LX X E kk ["value", "rules", "count", "parts"] ["value", "rules", "count", "parts"] ["isinstance", "tuple", "len", "is_index", "is_condition"] ["value", "rules", "count", "parts"] (defScope s_is_bar)) (z_isinstance : Free E "isinstance") (z_len : Free E "len") (z_tuple : Free E "tuple") (h_is_condition : FnM E kk "is_condition" (CP (g2 m_is_condition))) (h_is_index : FnM E kk "is_index" (CP (g2 m_is_index))) (a0 : D) (a1 : D) (a2 : D) :
    BS X [.fz a0, .fz a1, .fz a2, .no] (defBody s_is_bar) (m_is_bar_b a0 a1 a2) Empty.elim Empty.elim (fun (_ : D) => [.no, .no, .no, .no]) (fun x => x) := by
  unfold m_is_bar_b
  refine bs_ifx (gN' := fun (_ : Unit) => []) (tx_w (wx_or_a (tx_not_a (tx_bool (ex_isa_a isa_tuple L 0 1 rfl z_isinstance rfl z_tuple PyProof.Rows.boot_tuple (ex_var L 0 0 rfl rfl rfl)) (fun _ => rfl))) (wx_or1 (tx_cmp_xa (op_neZ L.un) rs_ne (ex_callB L 2 rfl z_len PySem.boot_len call_len rs_len (ax_consA (ex_var L 0 0 rfl rfl rfl) ax_nil)) ex_int (nomark _))))) ?_ ?_
  · 
    exact bs_ret_a (mk := fun x2 => x2) ex_bool (fun _ => rfl) (fun _ => (.no (.no (.no (.no .nil)))))
  refine bs_ifx (gN' := fun (_ : Unit) => []) (tx_w (wx_or (tx_not (tx_val (ex_call L 3 rfl h_is_index (Nat.le_refl _) (ax_cons (ex_ix_aa (ex_var L 0 0 rfl rfl rfl) ex_int (fun _ _ => rfl)) (fun x3 => (ax_cons (ex_callB L 2 rfl z_len PySem.boot_len call_len rs_len (ax_consA (ex_var L 1 1 rfl rfl rfl) ax_nil)) (fun x4 => ax_nil))))) (fun _ => rfl))) (wx_or1 (tx_not (tx_val (ex_call L 3 rfl h_is_index (Nat.le_refl _) (ax_cons (ex_ix_aa (ex_var L 0 0 rfl rfl rfl) ex_int (fun _ _ => rfl)) (fun x5 => (ax_cons (ex_callB L 2 rfl z_len PySem.boot_len call_len rs_len (ax_consA (ex_var L 1 1 rfl rfl rfl) ax_nil)) (fun x6 => ax_nil))))) (fun _ => rfl)))))) ?_ ?_
  · 
    exact bs_ret_a (mk := fun x8 => x8) ex_bool (fun _ => rfl) (fun _ => (.no (.no (.no (.no .nil)))))
  refine bs_set L 3 3 rfl rfl (ex_ix_xa (ex_ix_ax (ex_var L 1 1 rfl rfl rfl) (ex_ix_aa (ex_var L 0 0 rfl rfl rfl) ex_int (fun _ _ => rfl)) (fun _ _ => rfl)) ex_int (fun _ _ => rfl)) (fun x11 => ?_)
  refine bs_ifx (gN' := fun (_ : Unit) => []) (tx_w (wx_or (tx_not (tx_val (ex_call L 3 rfl h_is_index (Nat.le_refl _) (ax_cons (ex_ix_aa (ex_var L 0 0 rfl rfl rfl) ex_int (fun _ _ => rfl)) (fun x12 => (ax_cons (ex_callB L 2 rfl z_len PySem.boot_len call_len rs_len (ax_consA (ex_var L 3 3 rfl rfl rfl) ax_nil)) (fun x13 => ax_nil))))) (fun _ => rfl))) (wx_or1 (tx_not (tx_val (ex_call L 4 rfl h_is_condition (Nat.le_refl _) (ax_cons (ex_ix_aa (ex_var L 0 0 rfl rfl rfl) ex_int (fun _ _ => rfl)) (fun x14 => (ax_consA (ex_var L 2 2 rfl rfl rfl) ax_nil)))) (fun _ => rfl)))))) ?_ ?_
  · 
    exact bs_ret_a (mk := fun x16 => x16) ex_bool (fun _ => rfl) (fun _ => (.no (.no (.no (.no .nil)))))
  exact bs_ret (mk := fun x23 => x23) (ex_cmp (op_eqZ L.un) rs_eq (ex_ix_ax (ex_var L 3 3 rfl rfl rfl) (ex_ix_aa (ex_var L 0 0 rfl rfl rfl) ex_int (fun _ _ => rfl)) (fun _ _ => rfl)) (ex_tup (by decide) (ax_consA ex_str (ax_cons (ex_ix_xa (ex_ix_ax (ex_var L 1 1 rfl rfl rfl) (ex_ix_aa (ex_var L 0 0 rfl rfl rfl) ex_int (fun _ _ => rfl)) (fun _ _ => rfl)) ex_int (fun _ _ => rfl)) (fun x20 => ax_nil)))) (nomark _)) (fun _ => rfl) (fun _ => (.no (.no (.no (.no .nil)))))

theorem f_is_bar {E : ME} {kk : Nat} (hd : DefAt E "is_bar" "is_bar" s_is_bar ["value", "rules", "count"]) (z_isinstance : Free E "isinstance") (z_len : Free E "len") (z_tuple : Free E "tuple") (h_is_condition : FnM E kk "is_condition" (CP (g2 m_is_condition))) (h_is_index : FnM E kk "is_index" (CP (g2 m_is_index))) : FnM E (kk + 1) "is_bar" (CP (g3 m_is_bar)) :=
  hd.fn (N := ["value", "rules", "count", "parts"]) (W := ["value", "rules", "count", "parts"]) (G := ["isinstance", "tuple", "len", "is_index", "is_condition"]) (Sl := ["value", "rules", "count", "parts"]) ⟨rfl, rfl, rfl, by decide +kernel, rfl, by decide +kernel, by decide +kernel⟩ (by decide +kernel) (by decide +kernel)
    (fun Γ0 r Γ1 ⟨xs, h1, h2, h3⟩ => match xs, h2 with | [_, _, _], _ => by subst h1; rfl)
    fun X L Γ0 r Γ1 ⟨xs, h1, h2, h3⟩ => match xs, h2 with
      | [a0, a1, a2], h2 => by
        subst h1 h3
        exact body_of (d := Empty.elim) (b_is_bar L z_isinstance z_len z_tuple h_is_condition h_is_index a0 a1 a2) h2 (.no (.no (.no .nil))) (fun n => n.elim)

abbrev s_are_bars : Stmt := top 27

def m_are_bars_b (a0 : D) (a1 : D) (a2 : D) : Option (Ctl Empty Empty D) :=
  (if (!(PyData.isTuple a0)) = true then some true else (pLen a0).bind fun x1 => (pGt x1 c_MAX_BARS).bind dBool).bind fun k24 => if k24 = true then Ctl.ex (some (.rt (.bool false)) : Option (Ctl Unit Empty D)) else (((((pIter a0).bind fun xs4 => (lcM (fun x5 => m_is_bar x5 a1 a2) xs4).map .list).bind fun x6 => pAll x6).bind pTru).map (!·)).bind fun k23 => if k23 = true then Ctl.ex (some (.rt (.bool false)) : Option (Ctl Unit Empty D)) else (((((pLen a0).bind fun x8 => pSub x8 (.int 1)).bind pRg1).bind fun xs10 => (lcM (fun x11 => ((pIdx a0 x11).bind fun x14 => (some none).bind fun l12 => (pOpt (.int 3)).bind fun h13 => pSl x14 l12 h13).bind fun x19 => (((pAdd x11 (.int 1)).bind fun y15 => pIdx a0 y15).bind fun x18 => (some none).bind fun l16 => (pOpt (.int 3)).bind fun h17 => pSl x18 l16 h17).bind fun y20 => pLt x19 y20) xs10).map .list).bind fun x21 => pAll x21).bind fun x22 => some (.rt x22)
def m_are_bars (a0 : D) (a1 : D) (a2 : D) : Option D := Ctl.fin Empty.elim (m_are_bars_b a0 a1 a2)

theorem b_are_bars {X : Cx} {E : ME} {kk : Nat} (L : LX X E kk ["value", "rules", "count", "bar", "at"] ["value", "rules", "count"] ["isinstance", "tuple", "len", "MAX_BARS", "all", "range"] ["value", "rules", "count"] (defScope s_are_bars)) (z_all : Free E "all") (z_isinstance : Free E "isinstance") (z_len : Free E "len") (z_range : Free E "range") (z_tuple : Free E "tuple") (k_MAX_BARS : GConst E "MAX_BARS" c_MAX_BARS) (h_is_bar : FnM E kk "is_bar" (CP (g3 m_is_bar))) (a0 : D) (a1 : D) (a2 : D) :
    BS X [.fz a0, .fz a1, .fz a2, .no, .no] (defBody s_are_bars) (m_are_bars_b a0 a1 a2) Empty.elim Empty.elim (fun (_ : D) => [.no, .no, .no, .no, .no]) (fun x => x) := by
  unfold m_are_bars_b
  refine bs_ifx (gN' := fun (_ : Unit) => []) (tx_w (wx_or_a (tx_not_a (tx_bool (ex_isa_a isa_tuple L 0 1 rfl z_isinstance rfl z_tuple PyProof.Rows.boot_tuple (ex_var L 0 0 rfl rfl rfl)) (fun _ => rfl))) (wx_or1 (tx_cmp_xa (op_gtZ L.un) rs_gt (ex_callB L 2 rfl z_len PySem.boot_len call_len rs_len (ax_consA (ex_var L 0 0 rfl rfl rfl) ax_nil)) (ex_glob L 3 rfl k_MAX_BARS) (nomark _))))) ?_ ?_
  · 
    exact bs_ret_a (mk := fun x2 => x2) ex_bool (fun _ => rfl) (fun _ => (.no (.no (.no (.no (.no .nil))))))
  refine bs_ifx (gN' := fun (_ : Unit) => []) (tx_not (tx_val (ex_callB L 4 rfl z_all (by decide +kernel) (cr_all L.calm) rs_all (ax_cons ((ex_lc1 (Wb := ["bar", "count", "rules"]) (Gb := ["is_bar"]) (Sb := ["bar"]) L 3 0 rfl rfl (by decide +kernel) (xi_val_a (ex_var L 0 0 rfl rfl rfl)) (fun _ L3 x5 => (ex_call L3 0 rfl h_is_bar (Nat.le_refl _) (ax_consA (ex_var L3 3 0 rfl rfl rfl) (ax_consA (ex_var L3 1 2 rfl rfl rfl) (ax_consA (ex_var L3 2 1 rfl rfl rfl) ax_nil))))))).pe (fun x6 => ax_nil))) (fun _ => rfl))) ?_ ?_
  · 
    exact bs_ret_a (mk := fun x7 => x7) ex_bool (fun _ => rfl) (fun _ => (.no (.no (.no (.no (.no .nil))))))
  exact bs_ret (mk := fun x22 => x22) (ex_callB L 4 rfl z_all (by decide +kernel) (cr_all L.calm) rs_all (ax_cons ((ex_lc1 (Wb := ["at", "value"]) (Gb := []) (Sb := ["at"]) L 4 0 rfl rfl (by decide +kernel) (xi_rg1 L 5 rfl z_range (ex_op_xa op_sub rs_sub (ex_callB L 2 rfl z_len PySem.boot_len call_len rs_len (ax_consA (ex_var L 0 0 rfl rfl rfl) ax_nil)) ex_int)) (fun _ L9 x11 => (ex_cmp (op_ltZ L9.un) rs_lt (ex_sl (ex_ix_aa (ex_var L9 0 1 rfl rfl rfl) (ex_var L9 4 0 rfl rfl rfl) (fun _ _ => rfl)) xo_none (xo_some_a ex_int)) (ex_sl (ex_ix_ax (ex_var L9 0 1 rfl rfl rfl) (ex_op_aa op_addD rs_add (ex_var L9 4 0 rfl rfl rfl) ex_int) (fun _ _ => rfl)) xo_none (xo_some_a ex_int)) (nomark _))))).pe (fun x21 => ax_nil))) (fun _ => rfl) (fun _ => (.no (.no (.no (.no (.no .nil))))))

theorem f_are_bars {E : ME} {kk : Nat} (hd : DefAt E "are_bars" "are_bars" s_are_bars ["value", "rules", "count"]) (z_all : Free E "all") (z_isinstance : Free E "isinstance") (z_len : Free E "len") (z_range : Free E "range") (z_tuple : Free E "tuple") (k_MAX_BARS : GConst E "MAX_BARS" c_MAX_BARS) (h_is_bar : FnM E kk "is_bar" (CP (g3 m_is_bar))) : FnM E (kk + 1) "are_bars" (CP (g3 m_are_bars)) :=
  hd.fn (N := ["value", "rules", "count", "bar", "at"]) (W := ["value", "rules", "count"]) (G := ["isinstance", "tuple", "len", "MAX_BARS", "all", "range"]) (Sl := ["value", "rules", "count"]) ⟨rfl, rfl, rfl, by decide +kernel, rfl, by decide +kernel, by decide +kernel⟩ (by decide +kernel) (by decide +kernel)
    (fun Γ0 r Γ1 ⟨xs, h1, h2, h3⟩ => match xs, h2 with | [_, _, _], _ => by subst h1; rfl)
    fun X L Γ0 r Γ1 ⟨xs, h1, h2, h3⟩ => match xs, h2 with
      | [a0, a1, a2], h2 => by
        subst h1 h3
        exact body_of (d := Empty.elim) (b_are_bars L z_all z_isinstance z_len z_range z_tuple k_MAX_BARS h_is_bar a0 a1 a2) h2 (.no (.no (.no .nil))) (fun n => n.elim)

abbrev s_is_symbol : Stmt := top 13

def m_is_symbol_b (a0 : D) : Option (Ctl Empty Empty D) :=
  (if (!(PyData.isStr a0)) = true then some true else (((some (.int 1)).bind fun x1 => (pLen a0).bind fun y2 => ((pLe x1 y2).bind dBool).bind fun k4 => if k4 = true then (some (.int 6)).bind fun z3 => (pLe y2 z3).bind dBool else some false).map (!·)).bind fun k6 => if k6 = true then some true else (pIdx a0 (.int 0)).bind fun x5 => (pNotIn x5 c_CAPITAL).bind dBool).bind fun k14 => if k14 = true then Ctl.ex (some (.rt (.bool false)) : Option (Ctl Unit Empty D)) else (((pIter a0).bind fun xs9 => (lcM (fun x10 => (pAdd c_SMALL c_CAPITAL).bind fun y11 => pIn x10 y11) xs9).map .list).bind fun x12 => pAll x12).bind fun x13 => some (.rt x13)
def m_is_symbol (a0 : D) : Option D := Ctl.fin Empty.elim (m_is_symbol_b a0)

theorem b_is_symbol {X : Cx} {E : ME} {kk : Nat} (L : LX X E kk ["value", "sign"] ["value"] ["isinstance", "str", "len", "CAPITAL", "all"] ["value"] (defScope s_is_symbol)) (z_all : Free E "all") (z_isinstance : Free E "isinstance") (z_len : Free E "len") (z_str : Free E "str") (k_CAPITAL : GConst E "CAPITAL" c_CAPITAL) (k_SMALL : GConst E "SMALL" c_SMALL) (a0 : D) :
    BS X [.fz a0, .no] (defBody s_is_symbol) (m_is_symbol_b a0) Empty.elim Empty.elim (fun (_ : D) => [.no, .no]) (fun x => x) := by
  unfold m_is_symbol_b
  refine bs_ifx (gN' := fun (_ : Unit) => []) (tx_w (wx_or_a (tx_not_a (tx_bool (ex_isa_a isa_str L 0 1 rfl z_isinstance rfl z_str PyProof.Rows.boot_str (ex_var L 0 0 rfl rfl rfl)) (fun _ => rfl))) (wx_or (tx_not (tx_chain (op_leZ L.un) rs_le (op_leZ L.un) rs_le ex_int (ex_callB L 2 rfl z_len PySem.boot_len call_len rs_len (ax_consA (ex_var L 0 0 rfl rfl rfl) ax_nil)) ex_int)) (wx_or1 (tx_cmp_xa (op_notInA L.un) rs_notIn (ex_ix_aa (ex_var L 0 0 rfl rfl rfl) ex_int (fun _ _ => rfl)) (ex_glob L 3 rfl k_CAPITAL) (by rfl)))))) ?_ ?_
  · 
    exact bs_ret_a (mk := fun x7 => x7) ex_bool (fun _ => rfl) (fun _ => (.no (.no .nil)))
  exact bs_ret (mk := fun x13 => x13) (ex_callB L 4 rfl z_all (by decide +kernel) (cr_all L.calm) rs_all (ax_cons ((ex_lc1 (Wb := ["sign"]) (Gb := ["SMALL", "CAPITAL"]) (Sb := ["sign"]) L 1 0 rfl rfl (by decide +kernel) (xi_val_a (ex_var L 0 0 rfl rfl rfl)) (fun _ L8 x10 => (ex_cmp_ax (op_inA L8.un) rs_in (ex_var L8 1 0 rfl rfl rfl) (ex_op_aa op_addD rs_add (ex_glob L8 0 rfl k_SMALL) (ex_glob L8 1 rfl k_CAPITAL)) (by rfl))))).pe (fun x12 => ax_nil))) (fun _ => rfl) (fun _ => (.no (.no .nil)))

theorem f_is_symbol {E : ME} {kk : Nat} (hd : DefAt E "is_symbol" "is_symbol" s_is_symbol ["value"]) (z_all : Free E "all") (z_isinstance : Free E "isinstance") (z_len : Free E "len") (z_str : Free E "str") (k_CAPITAL : GConst E "CAPITAL" c_CAPITAL) (k_SMALL : GConst E "SMALL" c_SMALL) : FnM E (kk + 1) "is_symbol" (CP (g1 m_is_symbol)) :=
  hd.fn (N := ["value", "sign"]) (W := ["value"]) (G := ["isinstance", "str", "len", "CAPITAL", "all"]) (Sl := ["value"]) ⟨rfl, rfl, rfl, by decide +kernel, rfl, by decide +kernel, by decide +kernel⟩ (by decide +kernel) (by decide +kernel)
    (fun Γ0 r Γ1 ⟨xs, h1, h2, h3⟩ => match xs, h2 with | [_], _ => by subst h1; rfl)
    fun X L Γ0 r Γ1 ⟨xs, h1, h2, h3⟩ => match xs, h2 with
      | [a0], h2 => by
        subst h1 h3
        exact body_of (d := Empty.elim) (b_is_symbol L z_all z_isinstance z_len z_str k_CAPITAL k_SMALL a0) h2 (.no .nil) (fun n => n.elim)

abbrev s_knows : Stmt := top 25

def m_knows_b (a0 : D) (a1 : D) : Option (Ctl Empty Empty D) :=
  (((pIter a0).bind fun xs2 => (lcM (fun x3 => (pIdx x3 (.int 0)).bind fun x4 => pEq x4 a1) xs2).map .list).bind fun x5 => pAny x5).bind fun x6 => some (.rt x6)
def m_knows (a0 : D) (a1 : D) : Option D := Ctl.fin Empty.elim (m_knows_b a0 a1)

theorem b_knows {X : Cx} {E : ME} {kk : Nat} (L : LX X E kk ["rules", "symbol", "rule"] ["rules", "symbol"] ["any"] ["rules", "symbol"] (defScope s_knows)) (z_any : Free E "any") (a0 : D) (a1 : D) :
    BS X [.fz a0, .fz a1, .no] (defBody s_knows) (m_knows_b a0 a1) Empty.elim Empty.elim (fun (_ : D) => [.no, .no, .no]) (fun x => x) := by
  unfold m_knows_b
  exact bs_ret (mk := fun x6 => x6) (ex_callB L 0 rfl z_any (by decide +kernel) (cr_any L.calm) rs_any (ax_cons ((ex_lc1 (Wb := ["rule", "symbol"]) (Gb := []) (Sb := ["rule"]) L 2 0 rfl rfl (by decide +kernel) (xi_val_a (ex_var L 0 0 rfl rfl rfl)) (fun _ L1 x3 => (ex_cmp_xa (op_eqZ L1.un) rs_eq (ex_ix_aa (ex_var L1 2 0 rfl rfl rfl) ex_int (fun _ _ => rfl)) (ex_var L1 1 1 rfl rfl rfl) (nomark _))))).pe (fun x5 => ax_nil))) (fun _ => rfl) (fun _ => (.no (.no (.no .nil))))

theorem f_knows {E : ME} {kk : Nat} (hd : DefAt E "knows" "knows" s_knows ["rules", "symbol"]) (z_any : Free E "any") : FnM E (kk + 1) "knows" (CP (g2 m_knows)) :=
  hd.fn (N := ["rules", "symbol", "rule"]) (W := ["rules", "symbol"]) (G := ["any"]) (Sl := ["rules", "symbol"]) ⟨rfl, rfl, rfl, by decide +kernel, rfl, by decide +kernel, by decide +kernel⟩ (by decide +kernel) (by decide +kernel)
    (fun Γ0 r Γ1 ⟨xs, h1, h2, h3⟩ => match xs, h2 with | [_, _], _ => by subst h1; rfl)
    fun X L Γ0 r Γ1 ⟨xs, h1, h2, h3⟩ => match xs, h2 with
      | [a0, a1], h2 => by
        subst h1 h3
        exact body_of (d := Empty.elim) (b_knows L z_any a0 a1) h2 (.no (.no .nil)) (fun n => n.elim)

abbrev s_unknown_in : Stmt := top 26

def m_unknown_in_b (a0 : D) (a1 : D) : Option (Ctl Empty Empty D) :=
  ((((pIdx a1 (.int 1)).bind pIter).bind fun xs2 => (lcM (fun x3 => ((pIdx x3 (.int 0)).bind fun x4 => pEq x4 (S "symbol")).bind fun x6 => (pTru x6).bind fun k7 => if k7 = true then ((pIdx x3 (.int 1)).bind fun x5 => m_knows a0 x5).bind pNot else some x6) xs2).map .list).bind fun x8 => pAny x8).bind fun x9 => some (.rt x9)
def m_unknown_in (a0 : D) (a1 : D) : Option D := Ctl.fin Empty.elim (m_unknown_in_b a0 a1)

theorem b_unknown_in {X : Cx} {E : ME} {kk : Nat} (L : LX X E kk ["rules", "rule", "part"] ["rules", "rule"] ["any"] ["rules", "rule"] (defScope s_unknown_in)) (z_any : Free E "any") (h_knows : FnM E kk "knows" (CP (g2 m_knows))) (a0 : D) (a1 : D) :
    BS X [.fz a0, .fz a1, .no] (defBody s_unknown_in) (m_unknown_in_b a0 a1) Empty.elim Empty.elim (fun (_ : D) => [.no, .no, .no]) (fun x => x) := by
  unfold m_unknown_in_b
  exact bs_ret (mk := fun x9 => x9) (ex_callB L 0 rfl z_any (by decide +kernel) (cr_any L.calm) rs_any (ax_cons ((ex_lc1 (Wb := ["part", "rules"]) (Gb := ["knows"]) (Sb := ["part"]) L 2 0 rfl rfl (by decide +kernel) (xi_val (ex_ix_aa (ex_var L 1 1 rfl rfl rfl) ex_int (fun _ _ => rfl))) (fun _ L1 x3 => (ex_and (ex_cmp_xa (op_eqZ L1.un) rs_eq (ex_ix_aa (ex_var L1 2 0 rfl rfl rfl) ex_int (fun _ _ => rfl)) ex_str (nomark _)) (ex_one (ex_not (ex_call L1 0 rfl h_knows (Nat.le_refl _) (ax_consA (ex_var L1 0 1 rfl rfl rfl) (ax_cons (ex_ix_aa (ex_var L1 2 0 rfl rfl rfl) ex_int (fun _ _ => rfl)) (fun x5 => ax_nil)))))))))).pe (fun x8 => ax_nil))) (fun _ => rfl) (fun _ => (.no (.no (.no .nil))))

theorem f_unknown_in {E : ME} {kk : Nat} (hd : DefAt E "unknown_in" "unknown_in" s_unknown_in ["rules", "rule"]) (z_any : Free E "any") (h_knows : FnM E kk "knows" (CP (g2 m_knows))) : FnM E (kk + 1) "unknown_in" (CP (g2 m_unknown_in)) :=
  hd.fn (N := ["rules", "rule", "part"]) (W := ["rules", "rule"]) (G := ["any"]) (Sl := ["rules", "rule"]) ⟨rfl, rfl, rfl, by decide +kernel, rfl, by decide +kernel, by decide +kernel⟩ (by decide +kernel) (by decide +kernel)
    (fun Γ0 r Γ1 ⟨xs, h1, h2, h3⟩ => match xs, h2 with | [_, _], _ => by subst h1; rfl)
    fun X L Γ0 r Γ1 ⟨xs, h1, h2, h3⟩ => match xs, h2 with
      | [a0, a1], h2 => by
        subst h1 h3
        exact body_of (d := Empty.elim) (b_unknown_in L z_any h_knows a0 a1) h2 (.no (.no .nil)) (fun n => n.elim)

abbrev s_unit_pairs : Stmt := top 22

def m_unit_pairs_b (a0 : D) : Option (Ctl Empty Empty D) :=
  ((pIter a0).bind fun xs2 => (lcI (fun x3 => (((pIdx x3 (.int 1)).bind fun x8 => pLen x8).bind fun x9 => (pEq x9 (.int 1)).bind dBool).bind fun k13 => if k13 = true then (((pIdx x3 (.int 1)).bind fun x10 => pIdx x10 (.int 0)).bind fun x11 => pIdx x11 (.int 0)).bind fun x12 => (pEq x12 (S "symbol")).bind dBool else some false) (fun x3 => (pIdx x3 (.int 0)).bind fun x4 => (((pIdx x3 (.int 1)).bind fun x5 => pIdx x5 (.int 0)).bind fun x6 => pIdx x6 (.int 1)).bind fun x7 => some (.tuple [x4, x7])) xs2).map .list).bind fun x14 => some (.rt x14)
def m_unit_pairs (a0 : D) : Option D := Ctl.fin Empty.elim (m_unit_pairs_b a0)

theorem b_unit_pairs {X : Cx} {E : ME} {kk : Nat} (L : LX X E kk ["rules", "rule"] ["rules"] [] ["rules"] (defScope s_unit_pairs)) (z_len : Free E "len") (a0 : D) :
    BS X [.fz a0, .no] (defBody s_unit_pairs) (m_unit_pairs_b a0) Empty.elim Empty.elim (fun (_ : D) => [.no, .no]) (fun x => x) := by
  unfold m_unit_pairs_b
  exact bs_ret (mk := fun x14 => x14) ((ex_lcI1 (Wb := ["rule"]) (Gb := ["len"]) (Sb := ["rule"]) L 1 0 rfl rfl (by decide +kernel) (xi_val_a (ex_var L 0 0 rfl rfl rfl)) (fun _ L1 x3 => (tx_w (wx_and (tx_cmp_xa (op_eqZ L1.un) rs_eq (ex_callB L1 0 rfl z_len PySem.boot_len call_len rs_len (ax_cons (ex_ix_aa (ex_var L1 1 0 rfl rfl rfl) ex_int (fun _ _ => rfl)) (fun x8 => ax_nil))) ex_int (nomark _)) (wx_and1 (tx_cmp_xa (op_eqZ L1.un) rs_eq (ex_ix_xa (ex_ix_xa (ex_ix_aa (ex_var L1 1 0 rfl rfl rfl) ex_int (fun _ _ => rfl)) ex_int (fun _ _ => rfl)) ex_int (fun _ _ => rfl)) ex_str (nomark _)))))) (fun _ L1 x3 => (ex_tup (by decide) (ax_cons (ex_ix_aa (ex_var L1 1 0 rfl rfl rfl) ex_int (fun _ _ => rfl)) (fun x4 => (ax_cons (ex_ix_xa (ex_ix_xa (ex_ix_aa (ex_var L1 1 0 rfl rfl rfl) ex_int (fun _ _ => rfl)) ex_int (fun _ _ => rfl)) ex_int (fun _ _ => rfl)) (fun x7 => ax_nil)))))))).pe (fun _ => rfl) (fun _ => (.no (.no .nil)))

theorem f_unit_pairs {E : ME} {kk : Nat} (hd : DefAt E "unit_pairs" "unit_pairs" s_unit_pairs ["rules"]) (z_len : Free E "len") : FnM E (kk + 1) "unit_pairs" (CP (g1 m_unit_pairs)) :=
  hd.fn (N := ["rules", "rule"]) (W := ["rules"]) (G := []) (Sl := ["rules"]) ⟨rfl, rfl, rfl, by decide +kernel, rfl, by decide +kernel, by decide +kernel⟩ (by decide +kernel) (by decide +kernel)
    (fun Γ0 r Γ1 ⟨xs, h1, h2, h3⟩ => match xs, h2 with | [_], _ => by subst h1; rfl)
    fun X L Γ0 r Γ1 ⟨xs, h1, h2, h3⟩ => match xs, h2 with
      | [a0], h2 => by
        subst h1 h3
        exact body_of (d := Empty.elim) (b_unit_pairs L z_len a0) h2 (.no .nil) (fun n => n.elim)

abbrev s_symbol_order : Stmt := top 23

def m_symbol_order_b (a0 : D) : Option (Ctl Empty Empty D) :=
  Ctl.seq ((pIter a0).bind fun xs7 => forC (fun x2 s1 => (((pIdx x2 (.int 0)).bind fun x3 => (pNotIn x3 s1).bind dBool).bind fun k6 => if k6 = true then (pIdx x2 (.int 0)).bind fun y5 => (pApp s1 y5).bind fun z4 => some (.nx z4) else some (.nx s1) : Option (Ctl D D D))) xs7 (.list []) : Option (Ctl D Empty D)) fun (s8 : D) => (m_unit_pairs a0).bind fun x9 => Ctl.seq (((pLen s8).bind pRg1).bind fun xs30 => forC (fun x11 s10 => (((pIter s10.1).bind fun xs13 => (lcI (fun x14 => ((((pIter x9).bind fun xs16 => (lcM (fun x17 => ((pIdx x17 (.int 0)).bind fun x18 => pEq x18 x14).bind fun x20 => (pTru x20).bind fun k21 => if k21 = true then (pIdx x17 (.int 1)).bind fun x19 => pIn x19 s10.1 else some x20) xs16).map .list).bind fun x22 => pAny x22).bind pTru).map (!·)) (fun x14 => some x14) xs13).map .list).bind fun x23 => (some x23).bind fun y29 => (pExt s10.2 y29).bind fun z24 => ((pIter s10.1).bind fun xs26 => (lcI (fun x27 => (pNotIn x27 x23).bind dBool) (fun x27 => some x27) xs26).map .list).bind fun x28 => some (.nx (x28, z24)) : Option (Ctl (D × D) (D × D) D))) xs30 (s8, (.list [])) : Option (Ctl (D × D) Empty D)) fun (s31 : D × D) => some (.rt s31.2)
def m_symbol_order (a0 : D) : Option D := Ctl.fin Empty.elim (m_symbol_order_b a0)

theorem b_symbol_order {X : Cx} {E : ME} {kk : Nat} (L : LX X E kk ["rules", "left", "rule", "pairs", "order", "_", "free", "symbol", "pair"] ["rules", "left", "rule", "pairs", "order", "_", "free"] ["unit_pairs", "range", "len"] ["rules", "left", "rule", "pairs", "order", "_", "free"] (defScope s_symbol_order)) (z_any : Free E "any") (z_len : Free E "len") (z_range : Free E "range") (h_unit_pairs : FnM E kk "unit_pairs" (CP (g1 m_unit_pairs))) (a0 : D) :
    BS X [.fz a0, .no, .no, .no, .no, .no, .no, .no, .no] (defBody s_symbol_order) (m_symbol_order_b a0) Empty.elim Empty.elim (fun (_ : D) => [.no, .no, .no, .no, .no, .no, .no, .no, .no]) (fun x => x) := by
  unfold m_symbol_order_b
  refine bs_newl_a L 1 1 rfl rfl (by decide) ax_nil ?_
  refine bs_seq (gN' := (fun (s1 : D) => [.fz a0, .ow .l none s1, .no, .no, .no, .no, .no, .no, .no])) (ss_for1 (gS := (fun (s1 : D) => [.fz a0, .ow .l none s1, .no, .no, .no, .no, .no, .no, .no])) L 2 2 rfl rfl (.same (.same (.no (.no (.no (.no (.no (.no (.no .nil))))))))) (xi_val_a (ex_var L 0 0 rfl rfl rfl)) (fun s1 x2 => ?_)) ?_
  · 
    refine bs_one (ss_if (tx_borrow 1 rfl (tx_cmp_xa (op_notInA L.un) rs_notIn (ex_ix_aa (ex_var L 2 2 rfl rfl rfl) ex_int (fun _ _ => rfl)) (ex_var L 1 1 rfl rfl rfl) (by rfl))) ?_ ?_)
    · 
      refine bs_app L 1 1 rfl rfl rfl (ex_ix_aa (ex_var L 2 2 rfl rfl rfl) ex_int (fun _ _ => rfl)) (fun z4 => ?_)
      exact bs_nil (.same (.same (.no (.no (.no (.no (.no (.no (.no .nil)))))))))
    · 
      exact bs_nil (.same (.same (.no (.no (.no (.no (.no (.no (.no .nil)))))))))
  intro s8
  refine bs_set L 3 3 rfl rfl (ex_call L 0 rfl h_unit_pairs (Nat.le_refl _) (ax_consA (ex_var L 0 0 rfl rfl rfl) ax_nil)) (fun x9 => ?_)
  refine bs_newl_a L 4 4 rfl rfl (by decide) ax_nil ?_
  refine bs_freeze 1 rfl ?_
  refine bs_seq (gN' := (fun (s10 : D × D) => [.fz a0, .fz s10.1, .no, .fz x9, .ow .l none s10.2, .no, .no, .no, .no])) (ss_for1 (gS := (fun (s10 : D × D) => [.fz a0, .fz s10.1, .no, .fz x9, .ow .l none s10.2, .no, .no, .no, .no])) L 5 5 rfl rfl (.same (.same (.no (.same (.same (.no (.no (.no (.no .nil))))))))) (xi_rg1 L 1 rfl z_range (ex_callB L 2 rfl z_len PySem.boot_len call_len rs_len (ax_consA (ex_var L 1 1 rfl rfl rfl) ax_nil))) (fun s10 x11 => ?_)) ?_
  · 
    refine bs_set L 6 6 rfl rfl ((ex_lcI1 (Wb := ["symbol", "left", "pairs"]) (Gb := ["any"]) (Sb := ["symbol"]) L 7 0 rfl rfl (by decide +kernel) (xi_val_a (ex_var L 1 1 rfl rfl rfl)) (fun _ L12 x14 => (tx_not (tx_val (ex_callB L12 0 rfl z_any (by decide +kernel) (cr_any L12.calm) rs_any (ax_cons ((ex_lc1 (Wb := ["pair", "left", "symbol"]) (Gb := []) (Sb := ["pair"]) L12 8 0 rfl rfl (by decide +kernel) (xi_val_a (ex_var L12 3 2 rfl rfl rfl)) (fun _ L15 x17 => (ex_and (ex_cmp_xa (op_eqZ L15.un) rs_eq (ex_ix_aa (ex_var L15 8 0 rfl rfl rfl) ex_int (fun _ _ => rfl)) (ex_var L15 7 2 rfl rfl rfl) (nomark _)) (ex_one (ex_cmp_xa (op_inA L15.un) rs_in (ex_ix_aa (ex_var L15 8 0 rfl rfl rfl) ex_int (fun _ _ => rfl)) (ex_var L15 1 1 rfl rfl rfl) (by rfl))))))).pe (fun x22 => ax_nil))) (fun _ => rfl)))) (fun _ L12 x14 => (ex_var L12 7 0 rfl rfl rfl)))).pe (fun x23 => ?_) (swF L (by decide +kernel) (by decide +kernel))
    refine bs_ext L 4 4 rfl rfl rfl (ex_var L 6 6 rfl rfl rfl) (fun z24 => ?_)
    refine bs_set L 1 1 rfl rfl ((ex_lcI1 (Wb := ["symbol", "free"]) (Gb := []) (Sb := ["symbol"]) L 7 0 rfl rfl (by decide +kernel) (xi_val_a (ex_var L 1 1 rfl rfl rfl)) (fun _ L25 x27 => (tx_cmp_aa (op_notInA L25.un) rs_notIn (ex_var L25 7 0 rfl rfl rfl) (ex_var L25 6 1 rfl rfl rfl) (by rfl))) (fun _ L25 x27 => (ex_var L25 7 0 rfl rfl rfl)))).pe (fun x28 => ?_) (swF L (by decide +kernel) (by decide +kernel))
    exact bs_nil (.same (.same (.no (.same (.same (.no (.no (.no (.no .nil)))))))))
  intro s31
  refine bs_freeze 4 rfl ?_
  exact bs_ret_a (mk := fun x32 => x32) (ex_var L 4 4 rfl rfl rfl) (fun _ => rfl) (fun _ => (.no (.no (.no (.no (.no (.no (.no (.no (.no .nil))))))))))

theorem f_symbol_order {E : ME} {kk : Nat} (hd : DefAt E "symbol_order" "symbol_order" s_symbol_order ["rules"]) (z_any : Free E "any") (z_len : Free E "len") (z_range : Free E "range") (h_unit_pairs : FnM E kk "unit_pairs" (CP (g1 m_unit_pairs))) : FnM E (kk + 1) "symbol_order" (CP (g1 m_symbol_order)) :=
  hd.fn (N := ["rules", "left", "rule", "pairs", "order", "_", "free", "symbol", "pair"]) (W := ["rules", "left", "rule", "pairs", "order", "_", "free"]) (G := ["unit_pairs", "range", "len"]) (Sl := ["rules", "left", "rule", "pairs", "order", "_", "free"]) ⟨rfl, rfl, rfl, by decide +kernel, rfl, by decide +kernel, by decide +kernel⟩ (by decide +kernel) (by decide +kernel)
    (fun Γ0 r Γ1 ⟨xs, h1, h2, h3⟩ => match xs, h2 with | [_], _ => by subst h1; rfl)
    fun X L Γ0 r Γ1 ⟨xs, h1, h2, h3⟩ => match xs, h2 with
      | [a0], h2 => by
        subst h1 h3
        exact body_of (d := Empty.elim) (b_symbol_order L z_any z_len z_range h_unit_pairs a0) h2 (.no .nil) (fun n => n.elim)

abbrev s_lefts : Stmt := top 24

def m_lefts_b (a0 : D) : Option (Ctl Empty Empty D) :=
  Ctl.seq ((pIter a0).bind fun xs7 => forC (fun x2 s1 => (((pIdx x2 (.int 0)).bind fun x3 => (pNotIn x3 s1).bind dBool).bind fun k6 => if k6 = true then (pIdx x2 (.int 0)).bind fun y5 => (pApp s1 y5).bind fun z4 => some (.nx z4) else some (.nx s1) : Option (Ctl D D D))) xs7 (.list []) : Option (Ctl D Empty D)) fun (s8 : D) => some (.rt s8)
def m_lefts (a0 : D) : Option D := Ctl.fin Empty.elim (m_lefts_b a0)

theorem b_lefts {X : Cx} {E : ME} {kk : Nat} (L : LX X E kk ["rules", "found", "rule"] ["rules", "found", "rule"] [] ["rules", "found", "rule"] (defScope s_lefts)) (a0 : D) :
    BS X [.fz a0, .no, .no] (defBody s_lefts) (m_lefts_b a0) Empty.elim Empty.elim (fun (_ : D) => [.no, .no, .no]) (fun x => x) := by
  unfold m_lefts_b
  refine bs_newl_a L 1 1 rfl rfl (by decide) ax_nil ?_
  refine bs_seq (gN' := (fun (s1 : D) => [.fz a0, .ow .l none s1, .no])) (ss_for1 (gS := (fun (s1 : D) => [.fz a0, .ow .l none s1, .no])) L 2 2 rfl rfl (.same (.same (.no .nil))) (xi_val_a (ex_var L 0 0 rfl rfl rfl)) (fun s1 x2 => ?_)) ?_
  · 
    refine bs_one (ss_if (tx_borrow 1 rfl (tx_cmp_xa (op_notInA L.un) rs_notIn (ex_ix_aa (ex_var L 2 2 rfl rfl rfl) ex_int (fun _ _ => rfl)) (ex_var L 1 1 rfl rfl rfl) (by rfl))) ?_ ?_)
    · 
      refine bs_app L 1 1 rfl rfl rfl (ex_ix_aa (ex_var L 2 2 rfl rfl rfl) ex_int (fun _ _ => rfl)) (fun z4 => ?_)
      exact bs_nil (.same (.same (.no .nil)))
    · 
      exact bs_nil (.same (.same (.no .nil)))
  intro s8
  refine bs_freeze 1 rfl ?_
  exact bs_ret_a (mk := fun x9 => x9) (ex_var L 1 1 rfl rfl rfl) (fun _ => rfl) (fun _ => (.no (.no (.no .nil))))

theorem f_lefts {E : ME} {kk : Nat} (hd : DefAt E "lefts" "lefts" s_lefts ["rules"]) : FnM E (kk + 1) "lefts" (CP (g1 m_lefts)) :=
  hd.fn (N := ["rules", "found", "rule"]) (W := ["rules", "found", "rule"]) (G := []) (Sl := ["rules", "found", "rule"]) ⟨rfl, rfl, rfl, by decide +kernel, rfl, by decide +kernel, by decide +kernel⟩ (by decide +kernel) (by decide +kernel)
    (fun Γ0 r Γ1 ⟨xs, h1, h2, h3⟩ => match xs, h2 with | [_], _ => by subst h1; rfl)
    fun X L Γ0 r Γ1 ⟨xs, h1, h2, h3⟩ => match xs, h2 with
      | [a0], h2 => by
        subst h1 h3
        exact body_of (d := Empty.elim) (b_lefts L a0) h2 (.no .nil) (fun n => n.elim)

abbrev s_is_demand : Stmt := top 17

def m_is_demand_b (a0 : D) (a1 : D) : Option (Ctl Empty Empty D) :=
  (if (!(PyData.isTuple a0)) = true then some true else ((pLen a0).bind fun x1 => (pLt x1 (.int 2)).bind dBool).bind fun k8 => if k8 = true then some true else ((((((pOpt (.int 1)).bind fun l2 => pSl a0 l2 none).bind pIter).bind fun xs5 => (lcM (fun x6 => m_is_index x6 a1) xs5).map .list).bind fun x7 => pAll x7).bind pTru).map (!·)).bind fun k23 => if k23 = true then Ctl.ex (some (.rt (.bool false)) : Option (Ctl Unit Empty D)) else ((pIdx a0 (.int 0)).bind fun x10 => (pEq x10 (S "glued")).bind dBool).bind fun k22 => if k22 = true then Ctl.ex (((pLen a0).bind fun x11 => pEq x11 (.int 2)).bind fun x12 => some (.rt x12) : Option (Ctl Unit Empty D)) else (((pIdx a0 (.int 0)).bind fun x13 => pIn x13 (.tuple [(S "same"), (S "right"), (S "row")])).bind fun x19 => (pTru x19).bind fun k20 => if k20 = true then ((pLen a0).bind fun x14 => pEq x14 (.int 3)).bind fun x17 => (pTru x17).bind fun k18 => if k18 = true then (pIdx a0 (.int 1)).bind fun x15 => (pIdx a0 (.int 2)).bind fun y16 => pNe x15 y16 else some x17 else some x19).bind fun x21 => some (.rt x21)
def m_is_demand (a0 : D) (a1 : D) : Option D := Ctl.fin Empty.elim (m_is_demand_b a0 a1)

theorem b_is_demand {X : Cx} {E : ME} {kk : Nat} (L : LX X E kk ["value", "many", "place"] ["value", "many"] ["isinstance", "tuple", "len", "all"] ["value", "many"] (defScope s_is_demand)) (z_all : Free E "all") (z_isinstance : Free E "isinstance") (z_len : Free E "len") (z_tuple : Free E "tuple") (h_is_index : FnM E kk "is_index" (CP (g2 m_is_index))) (a0 : D) (a1 : D) :
    BS X [.fz a0, .fz a1, .no] (defBody s_is_demand) (m_is_demand_b a0 a1) Empty.elim Empty.elim (fun (_ : D) => [.no, .no, .no]) (fun x => x) := by
  unfold m_is_demand_b
  refine bs_ifx (gN' := fun (_ : Unit) => []) (tx_w (wx_or_a (tx_not_a (tx_bool (ex_isa_a isa_tuple L 0 1 rfl z_isinstance rfl z_tuple PyProof.Rows.boot_tuple (ex_var L 0 0 rfl rfl rfl)) (fun _ => rfl))) (wx_or (tx_cmp_xa (op_ltZ L.un) rs_lt (ex_callB L 2 rfl z_len PySem.boot_len call_len rs_len (ax_consA (ex_var L 0 0 rfl rfl rfl) ax_nil)) ex_int (nomark _)) (wx_or1 (tx_not (tx_val (ex_callB L 3 rfl z_all (by decide +kernel) (cr_all L.calm) rs_all (ax_cons ((ex_lc1 (Wb := ["place", "many"]) (Gb := ["is_index"]) (Sb := ["place"]) L 2 0 rfl rfl (by decide +kernel) (xi_val (ex_sl_aan (ex_var L 0 0 rfl rfl rfl) (xo_some_a ex_int))) (fun _ L4 x6 => (ex_call L4 0 rfl h_is_index (Nat.le_refl _) (ax_consA (ex_var L4 2 0 rfl rfl rfl) (ax_consA (ex_var L4 1 1 rfl rfl rfl) ax_nil)))))).pe (fun x7 => ax_nil))) (fun _ => rfl))))))) ?_ ?_
  · 
    exact bs_ret_a (mk := fun x9 => x9) ex_bool (fun _ => rfl) (fun _ => (.no (.no (.no .nil))))
  refine bs_ifx (gN' := fun (_ : Unit) => []) (tx_cmp_xa (op_eqZ L.un) rs_eq (ex_ix_aa (ex_var L 0 0 rfl rfl rfl) ex_int (fun _ _ => rfl)) ex_str (nomark _)) ?_ ?_
  · 
    exact bs_ret (mk := fun x12 => x12) (ex_cmp_xa (op_eqZ L.un) rs_eq (ex_callB L 2 rfl z_len PySem.boot_len call_len rs_len (ax_consA (ex_var L 0 0 rfl rfl rfl) ax_nil)) ex_int (nomark _)) (fun _ => rfl) (fun _ => (.no (.no (.no .nil))))
  exact bs_ret (mk := fun x21 => x21) (ex_and (ex_cmp_xa (op_inA L.un) rs_in (ex_ix_aa (ex_var L 0 0 rfl rfl rfl) ex_int (fun _ _ => rfl)) (ex_tup (by decide) (ax_consA ex_str (ax_consA ex_str (ax_consA ex_str ax_nil)))) (by rfl)) (ex_and (ex_cmp_xa (op_eqZ L.un) rs_eq (ex_callB L 2 rfl z_len PySem.boot_len call_len rs_len (ax_consA (ex_var L 0 0 rfl rfl rfl) ax_nil)) ex_int (nomark _)) (ex_one (ex_cmp (op_neZ L.un) rs_ne (ex_ix_aa (ex_var L 0 0 rfl rfl rfl) ex_int (fun _ _ => rfl)) (ex_ix_aa (ex_var L 0 0 rfl rfl rfl) ex_int (fun _ _ => rfl)) (nomark _))))) (fun _ => rfl) (fun _ => (.no (.no (.no .nil))))

theorem f_is_demand {E : ME} {kk : Nat} (hd : DefAt E "is_demand" "is_demand" s_is_demand ["value", "many"]) (z_all : Free E "all") (z_isinstance : Free E "isinstance") (z_len : Free E "len") (z_tuple : Free E "tuple") (h_is_index : FnM E kk "is_index" (CP (g2 m_is_index))) : FnM E (kk + 1) "is_demand" (CP (g2 m_is_demand)) :=
  hd.fn (N := ["value", "many", "place"]) (W := ["value", "many"]) (G := ["isinstance", "tuple", "len", "all"]) (Sl := ["value", "many"]) ⟨rfl, rfl, rfl, by decide +kernel, rfl, by decide +kernel, by decide +kernel⟩ (by decide +kernel) (by decide +kernel)
    (fun Γ0 r Γ1 ⟨xs, h1, h2, h3⟩ => match xs, h2 with | [_, _], _ => by subst h1; rfl)
    fun X L Γ0 r Γ1 ⟨xs, h1, h2, h3⟩ => match xs, h2 with
      | [a0, a1], h2 => by
        subst h1 h3
        exact body_of (d := Empty.elim) (b_is_demand L z_all z_isinstance z_len z_tuple h_is_index a0 a1) h2 (.no (.no .nil)) (fun n => n.elim)

abbrev s_are_demands : Stmt := top 18

def m_are_demands_b (a0 : D) (a1 : D) : Option (Ctl Empty Empty D) :=
  (if (!(PyData.isTuple a0)) = true then some true else (pLen a0).bind fun x1 => (pGt x1 c_MAX_DEMANDS).bind dBool).bind fun k15 => if k15 = true then Ctl.ex (some (.rt (.bool false)) : Option (Ctl Unit Empty D)) else ((((pLen a0).bind pRg1).bind fun xs4 => (lcM (fun x5 => ((pIdx a0 x5).bind fun x6 => m_is_demand x6 a1).bind fun x11 => (pTru x11).bind fun k12 => if k12 = true then (pIdx a0 x5).bind fun x9 => ((pOpt x5).bind fun h8 => pSl a0 none h8).bind fun y10 => pNotIn x9 y10 else some x11) xs4).map .list).bind fun x13 => pAll x13).bind fun x14 => some (.rt x14)
def m_are_demands (a0 : D) (a1 : D) : Option D := Ctl.fin Empty.elim (m_are_demands_b a0 a1)

theorem b_are_demands {X : Cx} {E : ME} {kk : Nat} (L : LX X E kk ["value", "many", "at"] ["value", "many"] ["isinstance", "tuple", "len", "MAX_DEMANDS", "all", "range"] ["value", "many"] (defScope s_are_demands)) (z_all : Free E "all") (z_isinstance : Free E "isinstance") (z_len : Free E "len") (z_range : Free E "range") (z_tuple : Free E "tuple") (k_MAX_DEMANDS : GConst E "MAX_DEMANDS" c_MAX_DEMANDS) (h_is_demand : FnM E kk "is_demand" (CP (g2 m_is_demand))) (a0 : D) (a1 : D) :
    BS X [.fz a0, .fz a1, .no] (defBody s_are_demands) (m_are_demands_b a0 a1) Empty.elim Empty.elim (fun (_ : D) => [.no, .no, .no]) (fun x => x) := by
  unfold m_are_demands_b
  refine bs_ifx (gN' := fun (_ : Unit) => []) (tx_w (wx_or_a (tx_not_a (tx_bool (ex_isa_a isa_tuple L 0 1 rfl z_isinstance rfl z_tuple PyProof.Rows.boot_tuple (ex_var L 0 0 rfl rfl rfl)) (fun _ => rfl))) (wx_or1 (tx_cmp_xa (op_gtZ L.un) rs_gt (ex_callB L 2 rfl z_len PySem.boot_len call_len rs_len (ax_consA (ex_var L 0 0 rfl rfl rfl) ax_nil)) (ex_glob L 3 rfl k_MAX_DEMANDS) (nomark _))))) ?_ ?_
  · 
    exact bs_ret_a (mk := fun x2 => x2) ex_bool (fun _ => rfl) (fun _ => (.no (.no (.no .nil))))
  exact bs_ret (mk := fun x14 => x14) (ex_callB L 4 rfl z_all (by decide +kernel) (cr_all L.calm) rs_all (ax_cons ((ex_lc1 (Wb := ["at", "many", "value"]) (Gb := ["is_demand"]) (Sb := ["at"]) L 2 0 rfl rfl (by decide +kernel) (xi_rg1 L 5 rfl z_range (ex_callB L 2 rfl z_len PySem.boot_len call_len rs_len (ax_consA (ex_var L 0 0 rfl rfl rfl) ax_nil))) (fun _ L3 x5 => (ex_and (ex_call L3 0 rfl h_is_demand (Nat.le_refl _) (ax_cons (ex_ix_aa (ex_var L3 0 2 rfl rfl rfl) (ex_var L3 2 0 rfl rfl rfl) (fun _ _ => rfl)) (fun x6 => (ax_consA (ex_var L3 1 1 rfl rfl rfl) ax_nil)))) (ex_one (ex_cmp (op_notInA L3.un) rs_notIn (ex_ix_aa (ex_var L3 0 2 rfl rfl rfl) (ex_var L3 2 0 rfl rfl rfl) (fun _ _ => rfl)) (ex_sl_an (ex_var L3 0 2 rfl rfl rfl) (xo_some_a (ex_var L3 2 0 rfl rfl rfl))) (by rfl))))))).pe (fun x13 => ax_nil))) (fun _ => rfl) (fun _ => (.no (.no (.no .nil))))

theorem f_are_demands {E : ME} {kk : Nat} (hd : DefAt E "are_demands" "are_demands" s_are_demands ["value", "many"]) (z_all : Free E "all") (z_isinstance : Free E "isinstance") (z_len : Free E "len") (z_range : Free E "range") (z_tuple : Free E "tuple") (k_MAX_DEMANDS : GConst E "MAX_DEMANDS" c_MAX_DEMANDS) (h_is_demand : FnM E kk "is_demand" (CP (g2 m_is_demand))) : FnM E (kk + 1) "are_demands" (CP (g2 m_are_demands)) :=
  hd.fn (N := ["value", "many", "at"]) (W := ["value", "many"]) (G := ["isinstance", "tuple", "len", "MAX_DEMANDS", "all", "range"]) (Sl := ["value", "many"]) ⟨rfl, rfl, rfl, by decide +kernel, rfl, by decide +kernel, by decide +kernel⟩ (by decide +kernel) (by decide +kernel)
    (fun Γ0 r Γ1 ⟨xs, h1, h2, h3⟩ => match xs, h2 with | [_, _], _ => by subst h1; rfl)
    fun X L Γ0 r Γ1 ⟨xs, h1, h2, h3⟩ => match xs, h2 with
      | [a0, a1], h2 => by
        subst h1 h3
        exact body_of (d := Empty.elim) (b_are_demands L z_all z_isinstance z_len z_range z_tuple k_MAX_DEMANDS h_is_demand a0 a1) h2 (.no (.no .nil)) (fun n => n.elim)

abbrev s_is_text : Stmt := top 14

def m_is_text_b (a0 : D) : Option (Ctl Empty Empty D) :=
  (if (!(PyData.isStr a0)) = true then some true else ((some (.int 1)).bind fun x1 => (pLen a0).bind fun y2 => ((pLe x1 y2).bind dBool).bind fun k4 => if k4 = true then (some (.int 8)).bind fun z3 => (pLe y2 z3).bind dBool else some false).map (!·)).bind fun k21 => if k21 = true then Ctl.ex (some (.rt (.bool false)) : Option (Ctl Unit Empty D)) else (((pLen a0).bind fun x6 => (pEq x6 (.int 1)).bind dBool).bind fun k7 => if k7 = true then (pIn a0 c_MARKS).bind dBool else some false).bind fun k20 => if k20 = true then Ctl.ex (some (.rt (.bool true)) : Option (Ctl Unit Empty D)) else (((pIdx a0 (.int 0)).bind fun x9 => (pAdd c_SMALL c_CAPITAL).bind fun y10 => pIn x9 y10).bind fun x17 => (pTru x17).bind fun k18 => if k18 = true then ((pIter a0).bind fun xs12 => (lcM (fun x13 => ((pAdd c_SMALL c_CAPITAL).bind fun x14 => pAdd x14 c_FIGURES).bind fun y15 => pIn x13 y15) xs12).map .list).bind fun x16 => pAll x16 else some x17).bind fun x19 => some (.rt x19)
def m_is_text (a0 : D) : Option D := Ctl.fin Empty.elim (m_is_text_b a0)

theorem b_is_text {X : Cx} {E : ME} {kk : Nat} (L : LX X E kk ["value", "sign"] ["value"] ["isinstance", "str", "len", "MARKS", "SMALL", "CAPITAL", "all"] ["value"] (defScope s_is_text)) (z_all : Free E "all") (z_isinstance : Free E "isinstance") (z_len : Free E "len") (z_str : Free E "str") (k_CAPITAL : GConst E "CAPITAL" c_CAPITAL) (k_FIGURES : GConst E "FIGURES" c_FIGURES) (k_MARKS : GConst E "MARKS" c_MARKS) (k_SMALL : GConst E "SMALL" c_SMALL) (a0 : D) :
    BS X [.fz a0, .no] (defBody s_is_text) (m_is_text_b a0) Empty.elim Empty.elim (fun (_ : D) => [.no, .no]) (fun x => x) := by
  unfold m_is_text_b
  refine bs_ifx (gN' := fun (_ : Unit) => []) (tx_w (wx_or_a (tx_not_a (tx_bool (ex_isa_a isa_str L 0 1 rfl z_isinstance rfl z_str PyProof.Rows.boot_str (ex_var L 0 0 rfl rfl rfl)) (fun _ => rfl))) (wx_or1 (tx_not (tx_chain (op_leZ L.un) rs_le (op_leZ L.un) rs_le ex_int (ex_callB L 2 rfl z_len PySem.boot_len call_len rs_len (ax_consA (ex_var L 0 0 rfl rfl rfl) ax_nil)) ex_int))))) ?_ ?_
  · 
    exact bs_ret_a (mk := fun x5 => x5) ex_bool (fun _ => rfl) (fun _ => (.no (.no .nil)))
  refine bs_ifx (gN' := fun (_ : Unit) => []) (tx_w (wx_and (tx_cmp_xa (op_eqZ L.un) rs_eq (ex_callB L 2 rfl z_len PySem.boot_len call_len rs_len (ax_consA (ex_var L 0 0 rfl rfl rfl) ax_nil)) ex_int (nomark _)) (wx_and1 (tx_cmp_aa (op_inA L.un) rs_in (ex_var L 0 0 rfl rfl rfl) (ex_glob L 3 rfl k_MARKS) (by rfl))))) ?_ ?_
  · 
    exact bs_ret_a (mk := fun x8 => x8) ex_bool (fun _ => rfl) (fun _ => (.no (.no .nil)))
  exact bs_ret (mk := fun x19 => x19) (ex_and (ex_cmp (op_inA L.un) rs_in (ex_ix_aa (ex_var L 0 0 rfl rfl rfl) ex_int (fun _ _ => rfl)) (ex_op_aa op_addD rs_add (ex_glob L 4 rfl k_SMALL) (ex_glob L 5 rfl k_CAPITAL)) (by rfl)) (ex_one (ex_callB L 6 rfl z_all (by decide +kernel) (cr_all L.calm) rs_all (ax_cons ((ex_lc1 (Wb := ["sign"]) (Gb := ["SMALL", "CAPITAL", "FIGURES"]) (Sb := ["sign"]) L 1 0 rfl rfl (by decide +kernel) (xi_val_a (ex_var L 0 0 rfl rfl rfl)) (fun _ L11 x13 => (ex_cmp_ax (op_inA L11.un) rs_in (ex_var L11 1 0 rfl rfl rfl) (ex_op_xa op_addD rs_add (ex_op_aa op_addD rs_add (ex_glob L11 0 rfl k_SMALL) (ex_glob L11 1 rfl k_CAPITAL)) (ex_glob L11 2 rfl k_FIGURES)) (by rfl))))).pe (fun x16 => ax_nil))))) (fun _ => rfl) (fun _ => (.no (.no .nil)))

theorem f_is_text {E : ME} {kk : Nat} (hd : DefAt E "is_text" "is_text" s_is_text ["value"]) (z_all : Free E "all") (z_isinstance : Free E "isinstance") (z_len : Free E "len") (z_str : Free E "str") (k_CAPITAL : GConst E "CAPITAL" c_CAPITAL) (k_FIGURES : GConst E "FIGURES" c_FIGURES) (k_MARKS : GConst E "MARKS" c_MARKS) (k_SMALL : GConst E "SMALL" c_SMALL) : FnM E (kk + 1) "is_text" (CP (g1 m_is_text)) :=
  hd.fn (N := ["value", "sign"]) (W := ["value"]) (G := ["isinstance", "str", "len", "MARKS", "SMALL", "CAPITAL", "all"]) (Sl := ["value"]) ⟨rfl, rfl, rfl, by decide +kernel, rfl, by decide +kernel, by decide +kernel⟩ (by decide +kernel) (by decide +kernel)
    (fun Γ0 r Γ1 ⟨xs, h1, h2, h3⟩ => match xs, h2 with | [_], _ => by subst h1; rfl)
    fun X L Γ0 r Γ1 ⟨xs, h1, h2, h3⟩ => match xs, h2 with
      | [a0], h2 => by
        subst h1 h3
        exact body_of (d := Empty.elim) (b_is_text L z_all z_isinstance z_len z_str k_CAPITAL k_FIGURES k_MARKS k_SMALL a0) h2 (.no .nil) (fun n => n.elim)

abbrev s_is_part : Stmt := top 15

def m_is_part_b (a0 : D) : Option (Ctl Empty Empty D) :=
  (if (!(PyData.isTuple a0)) = true then some true else (pLen a0).bind fun x1 => (pNe x1 (.int 2)).bind dBool).bind fun k16 => if k16 = true then Ctl.ex (some (.rt (.bool false)) : Option (Ctl Unit Empty D)) else ((pIdx a0 (.int 0)).bind fun x3 => (pEq x3 (S "kind")).bind dBool).bind fun k15 => if k15 = true then Ctl.ex (((pIdx a0 (.int 1)).bind fun x4 => pIn x4 (.tuple [(S "word"), (S "number")])).bind fun x5 => some (.rt x5) : Option (Ctl Unit Empty D)) else ((pIdx a0 (.int 0)).bind fun x6 => (pEq x6 (S "text")).bind dBool).bind fun k14 => if k14 = true then Ctl.ex (((pIdx a0 (.int 1)).bind fun x7 => m_is_text x7).bind fun x8 => some (.rt x8) : Option (Ctl Unit Empty D)) else (((pIdx a0 (.int 0)).bind fun x9 => pEq x9 (S "symbol")).bind fun x11 => (pTru x11).bind fun k12 => if k12 = true then (pIdx a0 (.int 1)).bind fun x10 => m_is_symbol x10 else some x11).bind fun x13 => some (.rt x13)
def m_is_part (a0 : D) : Option D := Ctl.fin Empty.elim (m_is_part_b a0)

theorem b_is_part {X : Cx} {E : ME} {kk : Nat} (L : LX X E kk ["value"] ["value"] ["isinstance", "tuple", "len", "is_text", "is_symbol"] ["value"] (defScope s_is_part)) (z_isinstance : Free E "isinstance") (z_len : Free E "len") (z_tuple : Free E "tuple") (h_is_symbol : FnM E kk "is_symbol" (CP (g1 m_is_symbol))) (h_is_text : FnM E kk "is_text" (CP (g1 m_is_text))) (a0 : D) :
    BS X [.fz a0] (defBody s_is_part) (m_is_part_b a0) Empty.elim Empty.elim (fun (_ : D) => [.no]) (fun x => x) := by
  unfold m_is_part_b
  refine bs_ifx (gN' := fun (_ : Unit) => []) (tx_w (wx_or_a (tx_not_a (tx_bool (ex_isa_a isa_tuple L 0 1 rfl z_isinstance rfl z_tuple PyProof.Rows.boot_tuple (ex_var L 0 0 rfl rfl rfl)) (fun _ => rfl))) (wx_or1 (tx_cmp_xa (op_neZ L.un) rs_ne (ex_callB L 2 rfl z_len PySem.boot_len call_len rs_len (ax_consA (ex_var L 0 0 rfl rfl rfl) ax_nil)) ex_int (nomark _))))) ?_ ?_
  · 
    exact bs_ret_a (mk := fun x2 => x2) ex_bool (fun _ => rfl) (fun _ => (.no .nil))
  refine bs_ifx (gN' := fun (_ : Unit) => []) (tx_cmp_xa (op_eqZ L.un) rs_eq (ex_ix_aa (ex_var L 0 0 rfl rfl rfl) ex_int (fun _ _ => rfl)) ex_str (nomark _)) ?_ ?_
  · 
    exact bs_ret (mk := fun x5 => x5) (ex_cmp_xa (op_inA L.un) rs_in (ex_ix_aa (ex_var L 0 0 rfl rfl rfl) ex_int (fun _ _ => rfl)) (ex_tup (by decide) (ax_consA ex_str (ax_consA ex_str ax_nil))) (by rfl)) (fun _ => rfl) (fun _ => (.no .nil))
  refine bs_ifx (gN' := fun (_ : Unit) => []) (tx_cmp_xa (op_eqZ L.un) rs_eq (ex_ix_aa (ex_var L 0 0 rfl rfl rfl) ex_int (fun _ _ => rfl)) ex_str (nomark _)) ?_ ?_
  · 
    exact bs_ret (mk := fun x8 => x8) (ex_call L 3 rfl h_is_text (Nat.le_refl _) (ax_cons (ex_ix_aa (ex_var L 0 0 rfl rfl rfl) ex_int (fun _ _ => rfl)) (fun x7 => ax_nil))) (fun _ => rfl) (fun _ => (.no .nil))
  exact bs_ret (mk := fun x13 => x13) (ex_and (ex_cmp_xa (op_eqZ L.un) rs_eq (ex_ix_aa (ex_var L 0 0 rfl rfl rfl) ex_int (fun _ _ => rfl)) ex_str (nomark _)) (ex_one (ex_call L 4 rfl h_is_symbol (Nat.le_refl _) (ax_cons (ex_ix_aa (ex_var L 0 0 rfl rfl rfl) ex_int (fun _ _ => rfl)) (fun x10 => ax_nil))))) (fun _ => rfl) (fun _ => (.no .nil))

theorem f_is_part {E : ME} {kk : Nat} (hd : DefAt E "is_part" "is_part" s_is_part ["value"]) (z_isinstance : Free E "isinstance") (z_len : Free E "len") (z_tuple : Free E "tuple") (h_is_symbol : FnM E kk "is_symbol" (CP (g1 m_is_symbol))) (h_is_text : FnM E kk "is_text" (CP (g1 m_is_text))) : FnM E (kk + 1) "is_part" (CP (g1 m_is_part)) :=
  hd.fn (N := ["value"]) (W := ["value"]) (G := ["isinstance", "tuple", "len", "is_text", "is_symbol"]) (Sl := ["value"]) ⟨rfl, rfl, rfl, by decide +kernel, rfl, by decide +kernel, by decide +kernel⟩ (by decide +kernel) (by decide +kernel)
    (fun Γ0 r Γ1 ⟨xs, h1, h2, h3⟩ => match xs, h2 with | [_], _ => by subst h1; rfl)
    fun X L Γ0 r Γ1 ⟨xs, h1, h2, h3⟩ => match xs, h2 with
      | [a0], h2 => by
        subst h1 h3
        exact body_of (d := Empty.elim) (b_is_part L z_isinstance z_len z_tuple h_is_symbol h_is_text a0) h2 (.no .nil) (fun n => n.elim)

abbrev s_is_rule : Stmt := top 20

def m_is_rule_b (a0 : D) (a1 : D) : Option (Ctl Empty Empty D) :=
  (if (!(PyData.isTuple a0)) = true then some true else ((pLen a0).bind fun x1 => (pNe x1 (.int 4)).bind dBool).bind fun k3 => if k3 = true then some true else (((pIdx a0 (.int 0)).bind fun x2 => m_is_symbol x2).bind pTru).map (!·)).bind fun k23 => if k23 = true then Ctl.ex (some (.rt (.bool false)) : Option (Ctl Unit Empty D)) else (pIdx a0 (.int 1)).bind fun x5 => (if (!(PyData.isTuple x5)) = true then some true else (((some (.int 1)).bind fun x6 => (pLen x5).bind fun y7 => ((pLe x6 y7).bind dBool).bind fun k9 => if k9 = true then (some c_MAX_PARTS).bind fun z8 => (pLe y7 z8).bind dBool else some false).map (!·)).bind fun k14 => if k14 = true then some true else ((((pIter x5).bind fun xs11 => (lcM (fun x12 => m_is_part x12) xs11).map .list).bind fun x13 => pAll x13).bind pTru).map (!·)).bind fun k22 => if k22 = true then Ctl.ex (some (.rt (.bool false)) : Option (Ctl Unit Empty D)) else (((pIdx a0 (.int 2)).bind fun x16 => m_is_condition x16 a1).bind fun x19 => (pTru x19).bind fun k20 => if k20 = true then (pIdx a0 (.int 3)).bind fun x17 => (pLen x5).bind fun x18 => m_are_demands x17 x18 else some x19).bind fun x21 => some (.rt x21)
def m_is_rule (a0 : D) (a1 : D) : Option D := Ctl.fin Empty.elim (m_is_rule_b a0 a1)

theorem b_is_rule {X : Cx} {E : ME} {kk : Nat} (L : LX X E kk ["value", "count", "parts", "part"] ["value", "count", "parts"] ["isinstance", "tuple", "len", "is_symbol", "MAX_PARTS", "all", "is_condition", "are_demands"] ["value", "count", "parts"] (defScope s_is_rule)) (z_all : Free E "all") (z_isinstance : Free E "isinstance") (z_len : Free E "len") (z_tuple : Free E "tuple") (k_MAX_PARTS : GConst E "MAX_PARTS" c_MAX_PARTS) (h_are_demands : FnM E kk "are_demands" (CP (g2 m_are_demands))) (h_is_condition : FnM E kk "is_condition" (CP (g2 m_is_condition))) (h_is_part : FnM E kk "is_part" (CP (g1 m_is_part))) (h_is_symbol : FnM E kk "is_symbol" (CP (g1 m_is_symbol))) (a0 : D) (a1 : D) :
    BS X [.fz a0, .fz a1, .no, .no] (defBody s_is_rule) (m_is_rule_b a0 a1) Empty.elim Empty.elim (fun (_ : D) => [.no, .no, .no, .no]) (fun x => x) := by
  unfold m_is_rule_b
  refine bs_ifx (gN' := fun (_ : Unit) => []) (tx_w (wx_or_a (tx_not_a (tx_bool (ex_isa_a isa_tuple L 0 1 rfl z_isinstance rfl z_tuple PyProof.Rows.boot_tuple (ex_var L 0 0 rfl rfl rfl)) (fun _ => rfl))) (wx_or (tx_cmp_xa (op_neZ L.un) rs_ne (ex_callB L 2 rfl z_len PySem.boot_len call_len rs_len (ax_consA (ex_var L 0 0 rfl rfl rfl) ax_nil)) ex_int (nomark _)) (wx_or1 (tx_not (tx_val (ex_call L 3 rfl h_is_symbol (Nat.le_refl _) (ax_cons (ex_ix_aa (ex_var L 0 0 rfl rfl rfl) ex_int (fun _ _ => rfl)) (fun x2 => ax_nil))) (fun _ => rfl))))))) ?_ ?_
  · 
    exact bs_ret_a (mk := fun x4 => x4) ex_bool (fun _ => rfl) (fun _ => (.no (.no (.no (.no .nil)))))
  refine bs_set L 2 2 rfl rfl (ex_ix_aa (ex_var L 0 0 rfl rfl rfl) ex_int (fun _ _ => rfl)) (fun x5 => ?_)
  refine bs_ifx (gN' := fun (_ : Unit) => []) (tx_w (wx_or_a (tx_not_a (tx_bool (ex_isa_a isa_tuple L 0 1 rfl z_isinstance rfl z_tuple PyProof.Rows.boot_tuple (ex_var L 2 2 rfl rfl rfl)) (fun _ => rfl))) (wx_or (tx_not (tx_chain (op_leZ L.un) rs_le (op_leZ L.un) rs_le ex_int (ex_callB L 2 rfl z_len PySem.boot_len call_len rs_len (ax_consA (ex_var L 2 2 rfl rfl rfl) ax_nil)) (ex_glob L 4 rfl k_MAX_PARTS))) (wx_or1 (tx_not (tx_val (ex_callB L 5 rfl z_all (by decide +kernel) (cr_all L.calm) rs_all (ax_cons ((ex_lc1 (Wb := ["part"]) (Gb := ["is_part"]) (Sb := ["part"]) L 3 0 rfl rfl (by decide +kernel) (xi_val_a (ex_var L 2 2 rfl rfl rfl)) (fun _ L10 x12 => (ex_call L10 0 rfl h_is_part (Nat.le_refl _) (ax_consA (ex_var L10 3 0 rfl rfl rfl) ax_nil))))).pe (fun x13 => ax_nil))) (fun _ => rfl))))))) ?_ ?_
  · 
    exact bs_ret_a (mk := fun x15 => x15) ex_bool (fun _ => rfl) (fun _ => (.no (.no (.no (.no .nil)))))
  exact bs_ret (mk := fun x21 => x21) (ex_and (ex_call L 6 rfl h_is_condition (Nat.le_refl _) (ax_cons (ex_ix_aa (ex_var L 0 0 rfl rfl rfl) ex_int (fun _ _ => rfl)) (fun x16 => (ax_consA (ex_var L 1 1 rfl rfl rfl) ax_nil)))) (ex_one (ex_call L 7 rfl h_are_demands (Nat.le_refl _) (ax_cons (ex_ix_aa (ex_var L 0 0 rfl rfl rfl) ex_int (fun _ _ => rfl)) (fun x17 => (ax_cons (ex_callB L 2 rfl z_len PySem.boot_len call_len rs_len (ax_consA (ex_var L 2 2 rfl rfl rfl) ax_nil)) (fun x18 => ax_nil))))))) (fun _ => rfl) (fun _ => (.no (.no (.no (.no .nil)))))

theorem f_is_rule {E : ME} {kk : Nat} (hd : DefAt E "is_rule" "is_rule" s_is_rule ["value", "count"]) (z_all : Free E "all") (z_isinstance : Free E "isinstance") (z_len : Free E "len") (z_tuple : Free E "tuple") (k_MAX_PARTS : GConst E "MAX_PARTS" c_MAX_PARTS) (h_are_demands : FnM E kk "are_demands" (CP (g2 m_are_demands))) (h_is_condition : FnM E kk "is_condition" (CP (g2 m_is_condition))) (h_is_part : FnM E kk "is_part" (CP (g1 m_is_part))) (h_is_symbol : FnM E kk "is_symbol" (CP (g1 m_is_symbol))) : FnM E (kk + 1) "is_rule" (CP (g2 m_is_rule)) :=
  hd.fn (N := ["value", "count", "parts", "part"]) (W := ["value", "count", "parts"]) (G := ["isinstance", "tuple", "len", "is_symbol", "MAX_PARTS", "all", "is_condition", "are_demands"]) (Sl := ["value", "count", "parts"]) ⟨rfl, rfl, rfl, by decide +kernel, rfl, by decide +kernel, by decide +kernel⟩ (by decide +kernel) (by decide +kernel)
    (fun Γ0 r Γ1 ⟨xs, h1, h2, h3⟩ => match xs, h2 with | [_, _], _ => by subst h1; rfl)
    fun X L Γ0 r Γ1 ⟨xs, h1, h2, h3⟩ => match xs, h2 with
      | [a0, a1], h2 => by
        subst h1 h3
        exact body_of (d := Empty.elim) (b_is_rule L z_all z_isinstance z_len z_tuple k_MAX_PARTS h_are_demands h_is_condition h_is_part h_is_symbol a0 a1) h2 (.no (.no .nil)) (fun n => n.elim)

abbrev s_is_grammar : Stmt := top 28

def m_is_grammar_b (a0 : D) (a1 : D) : Option (Ctl Empty Empty D) :=
  (if (!(PyData.isTuple a0)) = true then some true else ((pLen a0).bind fun x1 => (pNe x1 (.int 3)).bind dBool).bind fun k3 => if k3 = true then some true else (((pIdx a0 (.int 0)).bind fun x2 => m_is_symbol x2).bind pTru).map (!·)).bind fun k33 => if k33 = true then Ctl.ex (some (.rt (.bool false)) : Option (Ctl Unit Empty D)) else (pIdx a0 (.int 1)).bind fun x5 => (if (!(PyData.isTuple x5)) = true then some true else ((some (.int 1)).bind fun x6 => (pLen x5).bind fun y7 => ((pLe x6 y7).bind dBool).bind fun k9 => if k9 = true then (some c_MAX_RULES).bind fun z8 => (pLe y7 z8).bind dBool else some false).map (!·)).bind fun k32 => if k32 = true then Ctl.ex (some (.rt (.bool false)) : Option (Ctl Unit Empty D)) else ((((((pIter x5).bind fun xs12 => (lcM (fun x13 => m_is_rule x13 a1) xs12).map .list).bind fun x14 => pAll x14).bind pTru).map (!·)).bind fun k16 => if k16 = true then some true else (((pIdx a0 (.int 0)).bind fun x15 => m_knows x5 x15).bind pTru).map (!·)).bind fun k31 => if k31 = true then Ctl.ex (some (.rt (.bool false)) : Option (Ctl Unit Empty D)) else (((((pIter x5).bind fun xs19 => (lcM (fun x20 => m_unknown_in x5 x20) xs19).map .list).bind fun x21 => pAny x21).bind pTru).bind fun k26 => if k26 = true then some true else ((m_symbol_order x5).bind fun x22 => pLen x22).bind fun x24 => ((m_lefts x5).bind fun x23 => pLen x23).bind fun y25 => (pLt x24 y25).bind dBool).bind fun k30 => if k30 = true then Ctl.ex (some (.rt (.bool false)) : Option (Ctl Unit Empty D)) else ((pIdx a0 (.int 2)).bind fun x28 => m_are_bars x28 x5 a1).bind fun x29 => some (.rt x29)
def m_is_grammar (a0 : D) (a1 : D) : Option D := Ctl.fin Empty.elim (m_is_grammar_b a0 a1)

theorem b_is_grammar {X : Cx} {E : ME} {kk : Nat} (L : LX X E kk ["value", "count", "rules", "rule"] ["value", "count", "rules"] ["isinstance", "tuple", "len", "is_symbol", "MAX_RULES", "all", "knows", "any", "symbol_order", "lefts", "are_bars"] ["value", "count", "rules"] (defScope s_is_grammar)) (z_all : Free E "all") (z_any : Free E "any") (z_isinstance : Free E "isinstance") (z_len : Free E "len") (z_tuple : Free E "tuple") (k_MAX_RULES : GConst E "MAX_RULES" c_MAX_RULES) (h_are_bars : FnM E kk "are_bars" (CP (g3 m_are_bars))) (h_is_rule : FnM E kk "is_rule" (CP (g2 m_is_rule))) (h_is_symbol : FnM E kk "is_symbol" (CP (g1 m_is_symbol))) (h_knows : FnM E kk "knows" (CP (g2 m_knows))) (h_lefts : FnM E kk "lefts" (CP (g1 m_lefts))) (h_symbol_order : FnM E kk "symbol_order" (CP (g1 m_symbol_order))) (h_unknown_in : FnM E kk "unknown_in" (CP (g2 m_unknown_in))) (a0 : D) (a1 : D) :
    BS X [.fz a0, .fz a1, .no, .no] (defBody s_is_grammar) (m_is_grammar_b a0 a1) Empty.elim Empty.elim (fun (_ : D) => [.no, .no, .no, .no]) (fun x => x) := by
  unfold m_is_grammar_b
  refine bs_ifx (gN' := fun (_ : Unit) => []) (tx_w (wx_or_a (tx_not_a (tx_bool (ex_isa_a isa_tuple L 0 1 rfl z_isinstance rfl z_tuple PyProof.Rows.boot_tuple (ex_var L 0 0 rfl rfl rfl)) (fun _ => rfl))) (wx_or (tx_cmp_xa (op_neZ L.un) rs_ne (ex_callB L 2 rfl z_len PySem.boot_len call_len rs_len (ax_consA (ex_var L 0 0 rfl rfl rfl) ax_nil)) ex_int (nomark _)) (wx_or1 (tx_not (tx_val (ex_call L 3 rfl h_is_symbol (Nat.le_refl _) (ax_cons (ex_ix_aa (ex_var L 0 0 rfl rfl rfl) ex_int (fun _ _ => rfl)) (fun x2 => ax_nil))) (fun _ => rfl))))))) ?_ ?_
  · 
    exact bs_ret_a (mk := fun x4 => x4) ex_bool (fun _ => rfl) (fun _ => (.no (.no (.no (.no .nil)))))
  refine bs_set L 2 2 rfl rfl (ex_ix_aa (ex_var L 0 0 rfl rfl rfl) ex_int (fun _ _ => rfl)) (fun x5 => ?_)
  refine bs_ifx (gN' := fun (_ : Unit) => []) (tx_w (wx_or_a (tx_not_a (tx_bool (ex_isa_a isa_tuple L 0 1 rfl z_isinstance rfl z_tuple PyProof.Rows.boot_tuple (ex_var L 2 2 rfl rfl rfl)) (fun _ => rfl))) (wx_or1 (tx_not (tx_chain (op_leZ L.un) rs_le (op_leZ L.un) rs_le ex_int (ex_callB L 2 rfl z_len PySem.boot_len call_len rs_len (ax_consA (ex_var L 2 2 rfl rfl rfl) ax_nil)) (ex_glob L 4 rfl k_MAX_RULES)))))) ?_ ?_
  · 
    exact bs_ret_a (mk := fun x10 => x10) ex_bool (fun _ => rfl) (fun _ => (.no (.no (.no (.no .nil)))))
  refine bs_ifx (gN' := fun (_ : Unit) => []) (tx_w (wx_or (tx_not (tx_val (ex_callB L 5 rfl z_all (by decide +kernel) (cr_all L.calm) rs_all (ax_cons ((ex_lc1 (Wb := ["rule", "count"]) (Gb := ["is_rule"]) (Sb := ["rule"]) L 3 0 rfl rfl (by decide +kernel) (xi_val_a (ex_var L 2 2 rfl rfl rfl)) (fun _ L11 x13 => (ex_call L11 0 rfl h_is_rule (Nat.le_refl _) (ax_consA (ex_var L11 3 0 rfl rfl rfl) (ax_consA (ex_var L11 1 1 rfl rfl rfl) ax_nil)))))).pe (fun x14 => ax_nil))) (fun _ => rfl))) (wx_or1 (tx_not (tx_val (ex_call L 6 rfl h_knows (Nat.le_refl _) (ax_consA (ex_var L 2 2 rfl rfl rfl) (ax_cons (ex_ix_aa (ex_var L 0 0 rfl rfl rfl) ex_int (fun _ _ => rfl)) (fun x15 => ax_nil)))) (fun _ => rfl)))))) ?_ ?_
  · 
    exact bs_ret_a (mk := fun x17 => x17) ex_bool (fun _ => rfl) (fun _ => (.no (.no (.no (.no .nil)))))
  refine bs_ifx (gN' := fun (_ : Unit) => []) (tx_w (wx_or (tx_val (ex_callB L 7 rfl z_any (by decide +kernel) (cr_any L.calm) rs_any (ax_cons ((ex_lc1 (Wb := ["rule", "rules"]) (Gb := ["unknown_in"]) (Sb := ["rule"]) L 3 0 rfl rfl (by decide +kernel) (xi_val_a (ex_var L 2 2 rfl rfl rfl)) (fun _ L18 x20 => (ex_call L18 0 rfl h_unknown_in (Nat.le_refl _) (ax_consA (ex_var L18 2 1 rfl rfl rfl) (ax_consA (ex_var L18 3 0 rfl rfl rfl) ax_nil)))))).pe (fun x21 => ax_nil))) (fun _ => rfl)) (wx_or1 (tx_cmp (op_ltZ L.un) rs_lt (ex_callB L 2 rfl z_len PySem.boot_len call_len rs_len (ax_cons (ex_call L 8 rfl h_symbol_order (Nat.le_refl _) (ax_consA (ex_var L 2 2 rfl rfl rfl) ax_nil)) (fun x22 => ax_nil))) (ex_callB L 2 rfl z_len PySem.boot_len call_len rs_len (ax_cons (ex_call L 9 rfl h_lefts (Nat.le_refl _) (ax_consA (ex_var L 2 2 rfl rfl rfl) ax_nil)) (fun x23 => ax_nil))) (nomark _))))) ?_ ?_
  · 
    exact bs_ret_a (mk := fun x27 => x27) ex_bool (fun _ => rfl) (fun _ => (.no (.no (.no (.no .nil)))))
  exact bs_ret (mk := fun x29 => x29) (ex_call L 10 rfl h_are_bars (Nat.le_refl _) (ax_cons (ex_ix_aa (ex_var L 0 0 rfl rfl rfl) ex_int (fun _ _ => rfl)) (fun x28 => (ax_consA (ex_var L 2 2 rfl rfl rfl) (ax_consA (ex_var L 1 1 rfl rfl rfl) ax_nil))))) (fun _ => rfl) (fun _ => (.no (.no (.no (.no .nil)))))

theorem f_is_grammar {E : ME} {kk : Nat} (hd : DefAt E "is_grammar" "is_grammar" s_is_grammar ["value", "count"]) (z_all : Free E "all") (z_any : Free E "any") (z_isinstance : Free E "isinstance") (z_len : Free E "len") (z_tuple : Free E "tuple") (k_MAX_RULES : GConst E "MAX_RULES" c_MAX_RULES) (h_are_bars : FnM E kk "are_bars" (CP (g3 m_are_bars))) (h_is_rule : FnM E kk "is_rule" (CP (g2 m_is_rule))) (h_is_symbol : FnM E kk "is_symbol" (CP (g1 m_is_symbol))) (h_knows : FnM E kk "knows" (CP (g2 m_knows))) (h_lefts : FnM E kk "lefts" (CP (g1 m_lefts))) (h_symbol_order : FnM E kk "symbol_order" (CP (g1 m_symbol_order))) (h_unknown_in : FnM E kk "unknown_in" (CP (g2 m_unknown_in))) : FnM E (kk + 1) "is_grammar" (CP (g2 m_is_grammar)) :=
  hd.fn (N := ["value", "count", "rules", "rule"]) (W := ["value", "count", "rules"]) (G := ["isinstance", "tuple", "len", "is_symbol", "MAX_RULES", "all", "knows", "any", "symbol_order", "lefts", "are_bars"]) (Sl := ["value", "count", "rules"]) ⟨rfl, rfl, rfl, by decide +kernel, rfl, by decide +kernel, by decide +kernel⟩ (by decide +kernel) (by decide +kernel)
    (fun Γ0 r Γ1 ⟨xs, h1, h2, h3⟩ => match xs, h2 with | [_, _], _ => by subst h1; rfl)
    fun X L Γ0 r Γ1 ⟨xs, h1, h2, h3⟩ => match xs, h2 with
      | [a0, a1], h2 => by
        subst h1 h3
        exact body_of (d := Empty.elim) (b_is_grammar L z_all z_any z_isinstance z_len z_tuple k_MAX_RULES h_are_bars h_is_rule h_is_symbol h_knows h_lefts h_symbol_order h_unknown_in a0 a1) h2 (.no (.no .nil)) (fun n => n.elim)

abbrev s__law_bad_rule : Stmt := top 68

def m__law_bad_rule_b (a0 : D) (a1 : D) (a2 : D) : Option (Ctl Empty Empty (D × D)) :=
  (some a1).bind fun x2 => (pUn4 x2).bind fun p1 => ((some ((.int 1), a0)).bind fun r3 => (m__law_take r3.2 (.int 30)).bind fun r4 => (pAdd r3.1 r4.1).map fun z5 => (z5, r4.2)).bind fun r6 => (((((((pOpt (.int 1)).bind fun l7 => pSl p1.2.1 l7 none).bind fun y9 => pAdd (.tuple [(.tuple [(S "kind"), (S "mark")])]) y9).bind fun x10 => some (.tuple [p1.1, x10, p1.2.2.1, (.tuple [])])).bind fun x11 => ((((pOpt (.int 1)).bind fun l12 => pSl p1.2.1 l12 none).bind fun y14 => pAdd (.tuple [(.tuple [(S "text"), (S "")])]) y14).bind fun x15 => some (.tuple [p1.1, x15, p1.2.2.1, (.tuple [])])).bind fun x16 => ((((pOpt (.int 1)).bind fun l17 => pSl p1.2.1 l17 none).bind fun y19 => pAdd (.tuple [(.tuple [(S "text"), (S "++")])]) y19).bind fun x20 => some (.tuple [p1.1, x20, p1.2.2.1, (.tuple [])])).bind fun x21 => ((((pOpt (.int 1)).bind fun l22 => pSl p1.2.1 l22 none).bind fun y24 => pAdd (.tuple [(.tuple [(S "text"), (S "1")])]) y24).bind fun x25 => some (.tuple [p1.1, x25, p1.2.2.1, (.tuple [])])).bind fun x26 => ((((pOpt (.int 1)).bind fun l27 => pSl p1.2.1 l27 none).bind fun y29 => pAdd (.tuple [(.tuple [(S "symbol"), (S "Nowher")])]) y29).bind fun x30 => some (.tuple [p1.1, x30, p1.2.2.1, (.tuple [])])).bind fun x31 => ((((pLen p1.2.1).bind fun x32 => some (.tuple [(S "glued"), x32])).bind fun x33 => some (.tuple [x33])).bind fun x34 => some (.tuple [p1.1, p1.2.1, p1.2.2.1, x34])).bind fun x35 => ((((pNeg r6.1).bind fun x36 => some (.tuple [(S "glued"), x36])).bind fun x37 => some (.tuple [x37])).bind fun x38 => some (.tuple [p1.1, p1.2.1, p1.2.2.1, x38])).bind fun x39 => (((pMulD (.tuple [(.tuple [(S "kind"), (S "word")])]) (.int 3)).bind fun y40 => pAdd p1.2.1 y40).bind fun x41 => some (.tuple [p1.1, x41, p1.2.2.1, (.tuple [])])).bind fun x42 => ((((pOpt (.int 1)).bind fun l43 => pSl p1.2.1 l43 none).bind fun y45 => pAdd (.tuple [(.tuple [(S "text"), (S "abcdefghi")])]) y45).bind fun x46 => some (.tuple [p1.1, x46, p1.2.2.1, (.tuple [])])).bind fun x47 => ((((pOpt (.int 1)).bind fun l48 => pSl p1.2.1 l48 none).bind fun y50 => pAdd (.tuple [(.tuple [(S "word")])]) y50).bind fun x51 => some (.tuple [p1.1, x51, p1.2.2.1, (.tuple [])])).bind fun x52 => some (.list [(.tuple [(S "small"), p1.2.1, p1.2.2.1, p1.2.2.2]), (.tuple [(S "Longname"), p1.2.1, p1.2.2.1, p1.2.2.2]), (.tuple [p1.1, (.tuple []), p1.2.2.1, (.tuple [])]), (.tuple [p1.1, p1.2.1, (.bool false), p1.2.2.2]), x11, x16, (.tuple [p1.1, p1.2.1, p1.2.2.1]), x21, x26, (.tuple [p1.1, p1.2.1, (.tuple [a2, (.bool false), (.bool true)]), p1.2.2.2]), x31, x35, (.tuple [p1.1, p1.2.1, p1.2.2.1, (.tuple [(.tuple [(S "same"), (.int 0), (.int 0)])])]), (.tuple [p1.1, p1.2.1, p1.2.2.1, (.tuple [(.tuple [(S "glued"), (.int 0)]), (.tuple [(S "glued"), (.int 0)])])]), (.tuple [p1.1, p1.2.1, p1.2.2.1, (.tuple [(.tuple [(S "near"), (.int 0)])])]), x39, x42, (.tuple [p1.1, p1.2.1, (.tuple [(.int 0), (.bool true), (.bool true)]), p1.2.2.2]), (.int 7), (.tuple [p1.1, (S "parts"), p1.2.2.1, (.tuple [])]), x47, x52, (.tuple [p1.1, p1.2.1, p1.2.2.1, (.tuple [(.tuple [(S "row"), (.int 0)])])])])).map fun x53 => (x53, r6.2)).bind fun r54 => (m__law_take r54.2 (.int 23)).bind fun r55 => (pIdx r54.1 r55.1).map fun z56 => (z56, r55.2)).bind fun r57 => some (.rt (r57.1, r57.2))
def m__law_bad_rule (a0 : D) (a1 : D) (a2 : D) : Option (D × D) := Ctl.fin Empty.elim (m__law_bad_rule_b a0 a1 a2)

theorem b__law_bad_rule {X : Cx} {E : ME} {kk : Nat} (L : LX X E kk ["_law_tape_here", "_law_rule", "_law_count", "_law_left", "_law_parts", "_law_diagram_here", "_law_demands_here", "_law_n"] ["_law_tape_here", "_law_rule", "_law_count", "_law_left", "_law_parts", "_law_diagram_here", "_law_demands_here", "_law_n"] ["_law_take", "len"] ["_law_tape_here", "_law_rule", "_law_count", "_law_left", "_law_parts", "_law_diagram_here", "_law_demands_here", "_law_n"] (defScope s__law_bad_rule)) (z_len : Free E "len") (h__law_take : FnM E kk "_law_take" (CO1 .l (fun t => g1 (m__law_take t)))) (v0 : V) (a0 : D) (a1 : D) (a2 : D) :
    BS X [.ow .l (some v0) a0, .fz a1, .fz a2, .no, .no, .no, .no, .no] (defBody s__law_bad_rule) (m__law_bad_rule_b a0 a1 a2) Empty.elim Empty.elim (fun (r : (D × D)) => [.ow .l (some v0) r.2, .no, .no, .no, .no, .no, .no, .no]) (fun r => r.1) := by
  unfold m__law_bad_rule_b
  refine bs_asg (ex_var L 1 1 rfl rfl rfl) (gx_tup4 L 3 3 4 4 5 5 6 6 rfl rfl rfl rfl rfl rfl rfl rfl) (fun p1 => ?_)
  refine bs_setE (S := (fun (t59 : D) => [.ow .l (some v0) t59, .fz a1, .fz a2, .fz p1.1, .fz p1.2.1, .fz p1.2.2.1, .fz p1.2.2.2, .no])) L 7 7 rfl rfl (exe_op op_addD rs_add (exe_atom ex_int) (fun r3 => (exe_callO1 L 0 0 0 rfl rfl rfl h__law_take (Nat.le_refl _) (fun _ => rfl) (fun _ _ => rfl) (axe_consA ex_int axe_nil)))) (fun r6 => ?_)
  exact bs_retE (S := (fun (t58 : D) => [.ow .l (some v0) t58, .fz a1, .fz a2, .fz p1.1, .fz p1.2.1, .fz p1.2.2.1, .fz p1.2.2.2, .fz r6.1])) (mk := fun r57 => (r57.1, r57.2)) (exe_ix (exe_pure (ex_lst (by decide) (ax_consA (ex_tup (by decide) (ax_consA ex_str (ax_consA (ex_var L 4 4 rfl rfl rfl) (ax_consA (ex_var L 5 5 rfl rfl rfl) (ax_consA (ex_var L 6 6 rfl rfl rfl) ax_nil))))) (ax_consA (ex_tup (by decide) (ax_consA ex_str (ax_consA (ex_var L 4 4 rfl rfl rfl) (ax_consA (ex_var L 5 5 rfl rfl rfl) (ax_consA (ex_var L 6 6 rfl rfl rfl) ax_nil))))) (ax_consA (ex_tup (by decide) (ax_consA (ex_var L 3 3 rfl rfl rfl) (ax_consA (ex_tup (by decide) ax_nil) (ax_consA (ex_var L 5 5 rfl rfl rfl) (ax_consA (ex_tup (by decide) ax_nil) ax_nil))))) (ax_consA (ex_tup (by decide) (ax_consA (ex_var L 3 3 rfl rfl rfl) (ax_consA (ex_var L 4 4 rfl rfl rfl) (ax_consA ex_bool (ax_consA (ex_var L 6 6 rfl rfl rfl) ax_nil))))) (ax_cons (ex_tup (by decide) (ax_consA (ex_var L 3 3 rfl rfl rfl) (ax_cons (ex_op_ax op_addD rs_add (ex_tup (by decide) (ax_consA (ex_tup (by decide) (ax_consA ex_str (ax_consA ex_str ax_nil))) ax_nil)) (ex_sl_aan (ex_var L 4 4 rfl rfl rfl) (xo_some_a ex_int))) (fun x10 => (ax_consA (ex_var L 5 5 rfl rfl rfl) (ax_consA (ex_tup (by decide) ax_nil) ax_nil)))))) (fun x11 => (ax_cons (ex_tup (by decide) (ax_consA (ex_var L 3 3 rfl rfl rfl) (ax_cons (ex_op_ax op_addD rs_add (ex_tup (by decide) (ax_consA (ex_tup (by decide) (ax_consA ex_str (ax_consA ex_str ax_nil))) ax_nil)) (ex_sl_aan (ex_var L 4 4 rfl rfl rfl) (xo_some_a ex_int))) (fun x15 => (ax_consA (ex_var L 5 5 rfl rfl rfl) (ax_consA (ex_tup (by decide) ax_nil) ax_nil)))))) (fun x16 => (ax_consA (ex_tup (by decide) (ax_consA (ex_var L 3 3 rfl rfl rfl) (ax_consA (ex_var L 4 4 rfl rfl rfl) (ax_consA (ex_var L 5 5 rfl rfl rfl) ax_nil)))) (ax_cons (ex_tup (by decide) (ax_consA (ex_var L 3 3 rfl rfl rfl) (ax_cons (ex_op_ax op_addD rs_add (ex_tup (by decide) (ax_consA (ex_tup (by decide) (ax_consA ex_str (ax_consA ex_str ax_nil))) ax_nil)) (ex_sl_aan (ex_var L 4 4 rfl rfl rfl) (xo_some_a ex_int))) (fun x20 => (ax_consA (ex_var L 5 5 rfl rfl rfl) (ax_consA (ex_tup (by decide) ax_nil) ax_nil)))))) (fun x21 => (ax_cons (ex_tup (by decide) (ax_consA (ex_var L 3 3 rfl rfl rfl) (ax_cons (ex_op_ax op_addD rs_add (ex_tup (by decide) (ax_consA (ex_tup (by decide) (ax_consA ex_str (ax_consA ex_str ax_nil))) ax_nil)) (ex_sl_aan (ex_var L 4 4 rfl rfl rfl) (xo_some_a ex_int))) (fun x25 => (ax_consA (ex_var L 5 5 rfl rfl rfl) (ax_consA (ex_tup (by decide) ax_nil) ax_nil)))))) (fun x26 => (ax_consA (ex_tup (by decide) (ax_consA (ex_var L 3 3 rfl rfl rfl) (ax_consA (ex_var L 4 4 rfl rfl rfl) (ax_consA (ex_tup (by decide) (ax_consA (ex_var L 2 2 rfl rfl rfl) (ax_consA ex_bool (ax_consA ex_bool ax_nil)))) (ax_consA (ex_var L 6 6 rfl rfl rfl) ax_nil))))) (ax_cons (ex_tup (by decide) (ax_consA (ex_var L 3 3 rfl rfl rfl) (ax_cons (ex_op_ax op_addD rs_add (ex_tup (by decide) (ax_consA (ex_tup (by decide) (ax_consA ex_str (ax_consA ex_str ax_nil))) ax_nil)) (ex_sl_aan (ex_var L 4 4 rfl rfl rfl) (xo_some_a ex_int))) (fun x30 => (ax_consA (ex_var L 5 5 rfl rfl rfl) (ax_consA (ex_tup (by decide) ax_nil) ax_nil)))))) (fun x31 => (ax_cons (ex_tup (by decide) (ax_consA (ex_var L 3 3 rfl rfl rfl) (ax_consA (ex_var L 4 4 rfl rfl rfl) (ax_consA (ex_var L 5 5 rfl rfl rfl) (ax_cons (ex_tup (by decide) (ax_cons (ex_tup (by decide) (ax_consA ex_str (ax_cons (ex_callB L 1 rfl z_len PySem.boot_len call_len rs_len (ax_consA (ex_var L 4 4 rfl rfl rfl) ax_nil)) (fun x32 => ax_nil)))) (fun x33 => ax_nil))) (fun x34 => ax_nil)))))) (fun x35 => (ax_consA (ex_tup (by decide) (ax_consA (ex_var L 3 3 rfl rfl rfl) (ax_consA (ex_var L 4 4 rfl rfl rfl) (ax_consA (ex_var L 5 5 rfl rfl rfl) (ax_consA (ex_tup (by decide) (ax_consA (ex_tup (by decide) (ax_consA ex_str (ax_consA ex_int (ax_consA ex_int ax_nil)))) ax_nil)) ax_nil))))) (ax_consA (ex_tup (by decide) (ax_consA (ex_var L 3 3 rfl rfl rfl) (ax_consA (ex_var L 4 4 rfl rfl rfl) (ax_consA (ex_var L 5 5 rfl rfl rfl) (ax_consA (ex_tup (by decide) (ax_consA (ex_tup (by decide) (ax_consA ex_str (ax_consA ex_int ax_nil))) (ax_consA (ex_tup (by decide) (ax_consA ex_str (ax_consA ex_int ax_nil))) ax_nil))) ax_nil))))) (ax_consA (ex_tup (by decide) (ax_consA (ex_var L 3 3 rfl rfl rfl) (ax_consA (ex_var L 4 4 rfl rfl rfl) (ax_consA (ex_var L 5 5 rfl rfl rfl) (ax_consA (ex_tup (by decide) (ax_consA (ex_tup (by decide) (ax_consA ex_str (ax_consA ex_int ax_nil))) ax_nil)) ax_nil))))) (ax_cons (ex_tup (by decide) (ax_consA (ex_var L 3 3 rfl rfl rfl) (ax_consA (ex_var L 4 4 rfl rfl rfl) (ax_consA (ex_var L 5 5 rfl rfl rfl) (ax_cons (ex_tup (by decide) (ax_cons (ex_tup (by decide) (ax_consA ex_str (ax_cons (ex_neg_a (ex_var L 7 7 rfl rfl rfl)) (fun x36 => ax_nil)))) (fun x37 => ax_nil))) (fun x38 => ax_nil)))))) (fun x39 => (ax_cons (ex_tup (by decide) (ax_consA (ex_var L 3 3 rfl rfl rfl) (ax_cons (ex_op_ax op_addD rs_add (ex_var L 4 4 rfl rfl rfl) (ex_op_aa op_mulD rs_mulD (ex_tup (by decide) (ax_consA (ex_tup (by decide) (ax_consA ex_str (ax_consA ex_str ax_nil))) ax_nil)) ex_int)) (fun x41 => (ax_consA (ex_var L 5 5 rfl rfl rfl) (ax_consA (ex_tup (by decide) ax_nil) ax_nil)))))) (fun x42 => (ax_consA (ex_tup (by decide) (ax_consA (ex_var L 3 3 rfl rfl rfl) (ax_consA (ex_var L 4 4 rfl rfl rfl) (ax_consA (ex_tup (by decide) (ax_consA ex_int (ax_consA ex_bool (ax_consA ex_bool ax_nil)))) (ax_consA (ex_var L 6 6 rfl rfl rfl) ax_nil))))) (ax_consA ex_int (ax_consA (ex_tup (by decide) (ax_consA (ex_var L 3 3 rfl rfl rfl) (ax_consA ex_str (ax_consA (ex_var L 5 5 rfl rfl rfl) (ax_consA (ex_tup (by decide) ax_nil) ax_nil))))) (ax_cons (ex_tup (by decide) (ax_consA (ex_var L 3 3 rfl rfl rfl) (ax_cons (ex_op_ax op_addD rs_add (ex_tup (by decide) (ax_consA (ex_tup (by decide) (ax_consA ex_str (ax_consA ex_str ax_nil))) ax_nil)) (ex_sl_aan (ex_var L 4 4 rfl rfl rfl) (xo_some_a ex_int))) (fun x46 => (ax_consA (ex_var L 5 5 rfl rfl rfl) (ax_consA (ex_tup (by decide) ax_nil) ax_nil)))))) (fun x47 => (ax_cons (ex_tup (by decide) (ax_consA (ex_var L 3 3 rfl rfl rfl) (ax_cons (ex_op_ax op_addD rs_add (ex_tup (by decide) (ax_consA (ex_tup (by decide) (ax_consA ex_str ax_nil)) ax_nil)) (ex_sl_aan (ex_var L 4 4 rfl rfl rfl) (xo_some_a ex_int))) (fun x51 => (ax_consA (ex_var L 5 5 rfl rfl rfl) (ax_consA (ex_tup (by decide) ax_nil) ax_nil)))))) (fun x52 => (ax_consA (ex_tup (by decide) (ax_consA (ex_var L 3 3 rfl rfl rfl) (ax_consA (ex_var L 4 4 rfl rfl rfl) (ax_consA (ex_var L 5 5 rfl rfl rfl) (ax_consA (ex_tup (by decide) (ax_consA (ex_tup (by decide) (ax_consA ex_str (ax_consA ex_int ax_nil))) ax_nil)) ax_nil))))) ax_nil))))))))))))))))))))))))))))))))))) (fun r54 => (exe_callO1 L 0 0 0 rfl rfl rfl h__law_take (Nat.le_refl _) (fun _ => rfl) (fun _ _ => rfl) (axe_consA ex_int axe_nil))) (fun _ _ => rfl)) (fun _ => rfl) (fun _ => (.same (.no (.no (.no (.no (.no (.no (.no .nil)))))))))

theorem f__law_bad_rule {E : ME} {kk : Nat} (hd : DefAt E "_law_bad_rule" "_law_bad_rule" s__law_bad_rule ["_law_tape_here", "_law_rule", "_law_count"]) (z_len : Free E "len") (h__law_take : FnM E kk "_law_take" (CO1 .l (fun t => g1 (m__law_take t)))) : FnM E (kk + 1) "_law_bad_rule" (CO1 .l (fun t => g2 (m__law_bad_rule t))) :=
  hd.fn (N := ["_law_tape_here", "_law_rule", "_law_count", "_law_left", "_law_parts", "_law_diagram_here", "_law_demands_here", "_law_n"]) (W := ["_law_tape_here", "_law_rule", "_law_count", "_law_left", "_law_parts", "_law_diagram_here", "_law_demands_here", "_law_n"]) (G := ["_law_take", "len"]) (Sl := ["_law_tape_here", "_law_rule", "_law_count", "_law_left", "_law_parts", "_law_diagram_here", "_law_demands_here", "_law_n"]) ⟨rfl, rfl, rfl, by decide +kernel, rfl, by decide +kernel, by decide +kernel⟩ (by decide +kernel) (by decide +kernel)
    (fun Γ0 r Γ1 ⟨v, x, xs, y, h1, h2, h3⟩ => match xs, h2 with | [_, _], _ => by subst h1; rfl)
    fun X L Γ0 r Γ1 ⟨v0, a0, xs, y, h1, h2, h3⟩ => match xs, h2 with
      | [a1, a2], h2 => by
        subst h1 h3
        exact body_of (d := Empty.elim) (rr := (r, y)) (b__law_bad_rule L z_len h__law_take v0 a0 a1 a2) h2 (.ow (.no (.no .nil))) (fun n => n.elim)

abbrev s__law_bad : Stmt := top 69

def m__law_bad_b (a0 : D) (a1 : D) (a2 : D) : Option (Ctl Empty Empty (D × D)) :=
  (some a1).bind fun x2 => (pUn3 x2).bind fun p1 => ((pLen p1.2.1).bind fun x3 => m__law_take a0 x3).bind fun r4 => (((((pLen p1.2.1).bind fun x5 => some (.tuple [(.int 0), (.int 0), x5, (.bool true)])).bind fun x6 => some (.tuple [x6])).bind fun x7 => some (.tuple [p1.1, p1.2.1, x7])).bind fun x8 => some (.list [(.tuple [p1.1, p1.2.1]), (.tuple [(S "Nowher"), p1.2.1, p1.2.2]), (.tuple [p1.1, (.tuple []), (.tuple [])]), x8, (.tuple [p1.1, p1.2.1, (.tuple [(.tuple [(.int 0), (.int 3), (.int 0), (.bool true)])])]), (.int 5)])).bind fun w_rows9 => ((some w_rows9).bind fun x14 => (((pAdd p1.2.1 (.tuple [(.tuple [p1.1, (.tuple [(.tuple [(S "symbol"), p1.1])]), (.bool true), (.tuple [])])])).bind fun x10 => some (.tuple [p1.1, x10, p1.2.2])).bind fun x11 => ((pAdd p1.2.2 (.tuple [(.tuple [(.int 0), (.int 0), (.int 0), (.bool false)])])).bind fun x12 => some (.tuple [p1.1, p1.2.1, x12])).bind fun x13 => some (.list [x11, x13, (.tuple [p1.1, p1.2.1, (.int 3)])])).bind fun y15 => pCat x14 y15).bind fun x16 => ((some x16).bind fun x27 => (((((pIdx p1.2.1 (.int 0)).bind fun x17 => some (.tuple [x17])).bind fun x18 => pMulD x18 (.int 13)).bind fun x19 => some (.tuple [p1.1, x19, (.tuple [])])).bind fun x20 => (((((pOpt (.int (-1))).bind fun l21 => pSl p1.2.2 l21 none).bind fun y23 => pAdd p1.2.2 y23).bind fun x24 => pAdd x24 (.tuple [(.int 4)])).bind fun x25 => some (.tuple [p1.1, p1.2.1, x25])).bind fun x26 => some (.list [x20, (.tuple [p1.1, p1.2.1, (.tuple [(.tuple [(.int (-1)), (.int 0), (.int 0), (.bool true)])])]), (.tuple [(S "start"), p1.2.1, p1.2.2]), x26])).bind fun y28 => pCat x27 y28).bind fun x29 => (((pTuple (.list [(.tuple [(S "Ring"), (.tuple [(.tuple [(S "symbol"), p1.1])]), (.bool true), (.tuple [])]), (.tuple [p1.1, (.tuple [(.tuple [(S "symbol"), (S "Ring")])]), (.bool true), (.tuple [])])])).bind fun y31 => pAdd p1.2.1 y31).bind fun x32 => some (.tuple [p1.1, x32, p1.2.2])).bind fun y61 => (pApp x29 y61).bind fun z30 => ((m__law_take r4.2 (.int 2)).bind fun r33 => (some ((.int 0), r33.2)).bind fun r34 => ((pEq r33.1 r34.1).bind dBool).map fun z35 => (z35, r34.2)).bind fun r36 => if r36.1 = true then Ctl.ex (((((((pOpt r4.1).bind fun h39 => pSl p1.2.1 none h39).map fun x40 => (x40, r36.2)).bind fun r41 => (((pIdx p1.2.1 r4.1).bind fun x42 => m__law_bad_rule r41.2 x42 a2).bind fun r43 => some (.tuple [r43.1], r43.2)).bind fun r44 => (pAdd r41.1 r44.1).map fun z45 => (z45, r44.2)).bind fun r46 => ((((pAdd r4.1 (.int 1)).bind pOpt).bind fun l47 => pSl p1.2.1 l47 none).map fun x49 => (x49, r46.2)).bind fun r50 => (pAdd r46.1 r50.1).map fun z51 => (z51, r50.2)).bind fun r52 => some (.tuple [p1.1, r52.1, (.tuple [])], r52.2)).bind fun r53 => some (.rt (r53.1, r53.2)) : Option (Ctl Unit Empty (D × D))) else ((some (z30, r36.2)).bind fun r55 => ((pLen z30).bind fun x56 => m__law_take r55.2 x56).bind fun r57 => (pIdx r55.1 r57.1).map fun z58 => (z58, r57.2)).bind fun r59 => some (.rt (r59.1, r59.2))
def m__law_bad (a0 : D) (a1 : D) (a2 : D) : Option (D × D) := Ctl.fin Empty.elim (m__law_bad_b a0 a1 a2)

theorem b__law_bad {X : Cx} {E : ME} {kk : Nat} (L : LX X E kk ["_law_tape_here", "_law_grammar_here", "_law_count", "_law_start", "_law_rules", "_law_bars_here", "_law_at", "_law_rows", "_law_other"] ["_law_tape_here", "_law_grammar_here", "_law_count", "_law_start", "_law_rules", "_law_bars_here", "_law_at", "_law_rows", "_law_other"] ["_law_take", "len", "tuple", "_law_bad_rule"] ["_law_tape_here", "_law_grammar_here", "_law_count", "_law_start", "_law_rules", "_law_bars_here", "_law_at", "_law_rows", "_law_other"] (defScope s__law_bad)) (z_len : Free E "len") (z_tuple : Free E "tuple") (h__law_bad_rule : FnM E kk "_law_bad_rule" (CO1 .l (fun t => g2 (m__law_bad_rule t)))) (h__law_take : FnM E kk "_law_take" (CO1 .l (fun t => g1 (m__law_take t)))) (v0 : V) (a0 : D) (a1 : D) (a2 : D) :
    BS X [.ow .l (some v0) a0, .fz a1, .fz a2, .no, .no, .no, .no, .no, .no] (defBody s__law_bad) (m__law_bad_b a0 a1 a2) Empty.elim Empty.elim (fun (r : (D × D)) => [.ow .l (some v0) r.2, .no, .no, .no, .no, .no, .no, .no, .no]) (fun r => r.1) := by
  unfold m__law_bad_b
  refine bs_asg (ex_var L 1 1 rfl rfl rfl) (gx_tup3 L 3 3 4 4 5 5 rfl rfl rfl rfl rfl rfl) (fun p1 => ?_)
  refine bs_setE (S := (fun (t62 : D) => [.ow .l (some v0) t62, .fz a1, .fz a2, .fz p1.1, .fz p1.2.1, .fz p1.2.2, .no, .no, .no])) L 6 6 rfl rfl (exe_callO1 L 0 0 0 rfl rfl rfl h__law_take (Nat.le_refl _) (fun _ => rfl) (fun _ _ => rfl) (axe_consP (ex_callB L 1 rfl z_len PySem.boot_len call_len rs_len (ax_consA (ex_var L 4 4 rfl rfl rfl) ax_nil)) (fun x3 => axe_nil))) (fun r4 => ?_)
  refine bs_newl L 7 7 rfl rfl (by decide) (ax_consA (ex_tup (by decide) (ax_consA (ex_var L 3 3 rfl rfl rfl) (ax_consA (ex_var L 4 4 rfl rfl rfl) ax_nil))) (ax_consA (ex_tup (by decide) (ax_consA ex_str (ax_consA (ex_var L 4 4 rfl rfl rfl) (ax_consA (ex_var L 5 5 rfl rfl rfl) ax_nil)))) (ax_consA (ex_tup (by decide) (ax_consA (ex_var L 3 3 rfl rfl rfl) (ax_consA (ex_tup (by decide) ax_nil) (ax_consA (ex_tup (by decide) ax_nil) ax_nil)))) (ax_cons (ex_tup (by decide) (ax_consA (ex_var L 3 3 rfl rfl rfl) (ax_consA (ex_var L 4 4 rfl rfl rfl) (ax_cons (ex_tup (by decide) (ax_cons (ex_tup (by decide) (ax_consA ex_int (ax_consA ex_int (ax_cons (ex_callB L 1 rfl z_len PySem.boot_len call_len rs_len (ax_consA (ex_var L 4 4 rfl rfl rfl) ax_nil)) (fun x5 => (ax_consA ex_bool ax_nil)))))) (fun x6 => ax_nil))) (fun x7 => ax_nil))))) (fun x8 => (ax_consA (ex_tup (by decide) (ax_consA (ex_var L 3 3 rfl rfl rfl) (ax_consA (ex_var L 4 4 rfl rfl rfl) (ax_consA (ex_tup (by decide) (ax_consA (ex_tup (by decide) (ax_consA ex_int (ax_consA ex_int (ax_consA ex_int (ax_consA ex_bool ax_nil))))) ax_nil)) ax_nil)))) (ax_consA ex_int ax_nil))))))) (fun w_rows9 => ?_)
  refine bs_freeze 7 rfl ?_
  refine bs_setF L 7 7 rfl rfl (exf_cat (ex_var L 7 7 rfl rfl rfl) (ex_lst (by decide) (ax_cons (ex_tup (by decide) (ax_consA (ex_var L 3 3 rfl rfl rfl) (ax_cons (ex_op_aa op_addD rs_add (ex_var L 4 4 rfl rfl rfl) (ex_tup (by decide) (ax_consA (ex_tup (by decide) (ax_consA (ex_var L 3 3 rfl rfl rfl) (ax_consA (ex_tup (by decide) (ax_consA (ex_tup (by decide) (ax_consA ex_str (ax_consA (ex_var L 3 3 rfl rfl rfl) ax_nil))) ax_nil)) (ax_consA ex_bool (ax_consA (ex_tup (by decide) ax_nil) ax_nil))))) ax_nil))) (fun x10 => (ax_consA (ex_var L 5 5 rfl rfl rfl) ax_nil))))) (fun x11 => (ax_cons (ex_tup (by decide) (ax_consA (ex_var L 3 3 rfl rfl rfl) (ax_consA (ex_var L 4 4 rfl rfl rfl) (ax_cons (ex_op_aa op_addD rs_add (ex_var L 5 5 rfl rfl rfl) (ex_tup (by decide) (ax_consA (ex_tup (by decide) (ax_consA ex_int (ax_consA ex_int (ax_consA ex_int (ax_consA ex_bool ax_nil))))) ax_nil))) (fun x12 => ax_nil))))) (fun x13 => (ax_consA (ex_tup (by decide) (ax_consA (ex_var L 3 3 rfl rfl rfl) (ax_consA (ex_var L 4 4 rfl rfl rfl) (ax_consA ex_int ax_nil)))) ax_nil))))))) (fun x16 => ?_)
  refine bs_freeze 7 rfl ?_
  refine bs_setF L 7 7 rfl rfl (exf_cat (ex_var L 7 7 rfl rfl rfl) (ex_lst (by decide) (ax_cons (ex_tup (by decide) (ax_consA (ex_var L 3 3 rfl rfl rfl) (ax_cons (ex_op_xa op_mulD rs_mulD (ex_tup (by decide) (ax_cons (ex_ix_aa (ex_var L 4 4 rfl rfl rfl) ex_int (fun _ _ => rfl)) (fun x17 => ax_nil))) ex_int) (fun x19 => (ax_consA (ex_tup (by decide) ax_nil) ax_nil))))) (fun x20 => (ax_consA (ex_tup (by decide) (ax_consA (ex_var L 3 3 rfl rfl rfl) (ax_consA (ex_var L 4 4 rfl rfl rfl) (ax_consA (ex_tup (by decide) (ax_consA (ex_tup (by decide) (ax_consA ex_negc (ax_consA ex_int (ax_consA ex_int (ax_consA ex_bool ax_nil))))) ax_nil)) ax_nil)))) (ax_consA (ex_tup (by decide) (ax_consA ex_str (ax_consA (ex_var L 4 4 rfl rfl rfl) (ax_consA (ex_var L 5 5 rfl rfl rfl) ax_nil)))) (ax_cons (ex_tup (by decide) (ax_consA (ex_var L 3 3 rfl rfl rfl) (ax_consA (ex_var L 4 4 rfl rfl rfl) (ax_cons (ex_op_xa op_addD rs_add (ex_op_ax op_addD rs_add (ex_var L 5 5 rfl rfl rfl) (ex_sl_aan (ex_var L 5 5 rfl rfl rfl) (xo_some_a ex_negc))) (ex_tup (by decide) (ax_consA ex_int ax_nil))) (fun x25 => ax_nil))))) (fun x26 => ax_nil)))))))) (fun x29 => ?_)
  refine bs_set_a L 8 8 rfl rfl (ex_lst (by decide) (ax_consA (ex_tup (by decide) (ax_consA ex_str (ax_consA (ex_tup (by decide) (ax_consA (ex_tup (by decide) (ax_consA ex_str (ax_consA (ex_var L 3 3 rfl rfl rfl) ax_nil))) ax_nil)) (ax_consA ex_bool (ax_consA (ex_tup (by decide) ax_nil) ax_nil))))) (ax_consA (ex_tup (by decide) (ax_consA (ex_var L 3 3 rfl rfl rfl) (ax_consA (ex_tup (by decide) (ax_consA (ex_tup (by decide) (ax_consA ex_str (ax_consA ex_str ax_nil))) ax_nil)) (ax_consA ex_bool (ax_consA (ex_tup (by decide) ax_nil) ax_nil))))) ax_nil))) ?_
  refine bs_app L 7 7 rfl rfl rfl (ex_tup (by decide) (ax_consA (ex_var L 3 3 rfl rfl rfl) (ax_cons (ex_op_ax op_addD rs_add (ex_var L 4 4 rfl rfl rfl) (ex_callT L 2 rfl z_tuple PyProof.Rows.boot_tuple call_tupleF rs_tuple (ax_consA (ex_var (x := (.list [(.tuple [(S "Ring"), (.tuple [(.tuple [(S "symbol"), p1.1])]), (.bool true), (.tuple [])]), (.tuple [p1.1, (.tuple [(.tuple [(S "symbol"), (S "Ring")])]), (.bool true), (.tuple [])])])) L 8 8 rfl rfl rfl) ax_nil))) (fun x32 => (ax_consA (ex_var L 5 5 rfl rfl rfl) ax_nil))))) (fun z30 => ?_)
  refine bs_ifxR (S := (fun (t37 : D) => [.ow .l (some v0) t37, .fz a1, .fz a2, .fz p1.1, .fz p1.2.1, .fz p1.2.2, .fz r4.1, .ow .l none z30, .fz (.list [(.tuple [(S "Ring"), (.tuple [(.tuple [(S "symbol"), p1.1])]), (.bool true), (.tuple [])]), (.tuple [p1.1, (.tuple [(.tuple [(S "symbol"), (S "Ring")])]), (.bool true), (.tuple [])])])])) (gN' := fun (_ : Unit) => []) (txe_cmp (op_eqZ L.un) rs_eq (exe_callO1 L 0 0 0 rfl rfl rfl h__law_take (Nat.le_refl _) (fun _ => rfl) (fun _ _ => rfl) (axe_consA ex_int axe_nil)) (fun r33 => (exe_atom ex_int)) (nomark _)) (fun r36 => ?_) (fun r36 => ?_)
  · 
    exact bs_retE (S := (fun (t54 : D) => [.ow .l (some v0) t54, .fz a1, .fz a2, .fz p1.1, .fz p1.2.1, .fz p1.2.2, .fz r4.1, .ow .l none z30, .fz (.list [(.tuple [(S "Ring"), (.tuple [(.tuple [(S "symbol"), p1.1])]), (.bool true), (.tuple [])]), (.tuple [p1.1, (.tuple [(.tuple [(S "symbol"), (S "Ring")])]), (.bool true), (.tuple [])])])])) (mk := fun r53 => (r53.1, r53.2)) (exe_tup (by decide) (axe_consA (ex_var L 3 3 rfl rfl rfl) (axe_cons (exe_op op_addD rs_add (exe_op op_addD rs_add (exe_pure (ex_sl_an (ex_var L 4 4 rfl rfl rfl) (xo_some_a (ex_var L 6 6 rfl rfl rfl)))) (fun r41 => (exe_tup (by decide) (axe_cons (exe_callO1 L 3 0 0 rfl rfl rfl h__law_bad_rule (Nat.le_refl _) (fun _ => rfl) (fun _ _ => rfl) (axe_consP (ex_ix_aa (ex_var L 4 4 rfl rfl rfl) (ex_var L 6 6 rfl rfl rfl) (fun _ _ => rfl)) (fun x42 => (axe_consA (ex_var L 2 2 rfl rfl rfl) axe_nil)))) (fun r43 => axe_nil))))) (fun r46 => (exe_pure (ex_sl_aan (ex_var L 4 4 rfl rfl rfl) (xo_some (ex_op_aa op_addD rs_add (ex_var L 6 6 rfl rfl rfl) ex_int)))))) (fun r52 => (axe_consA (ex_tup (by decide) ax_nil) axe_nil))))) (fun _ => rfl) (fun _ => (.same (.no (.no (.no (.no (.no (.no (.no (.no .nil))))))))))
  refine bs_freeze 7 rfl ?_
  exact bs_retE (S := (fun (t60 : D) => [.ow .l (some v0) t60, .fz a1, .fz a2, .fz p1.1, .fz p1.2.1, .fz p1.2.2, .fz r4.1, .fz z30, .fz (.list [(.tuple [(S "Ring"), (.tuple [(.tuple [(S "symbol"), p1.1])]), (.bool true), (.tuple [])]), (.tuple [p1.1, (.tuple [(.tuple [(S "symbol"), (S "Ring")])]), (.bool true), (.tuple [])])])])) (mk := fun r59 => (r59.1, r59.2)) (exe_ix (exe_atom (ex_var L 7 7 rfl rfl rfl)) (fun r55 => (exe_callO1 L 0 0 0 rfl rfl rfl h__law_take (Nat.le_refl _) (fun _ => rfl) (fun _ _ => rfl) (axe_consP (ex_callB L 1 rfl z_len PySem.boot_len call_len rs_len (ax_consA (ex_var L 7 7 rfl rfl rfl) ax_nil)) (fun x56 => axe_nil)))) (fun _ _ => rfl)) (fun _ => rfl) (fun _ => (.same (.no (.no (.no (.no (.no (.no (.no (.no .nil))))))))))

theorem f__law_bad {E : ME} {kk : Nat} (hd : DefAt E "_law_bad" "_law_bad" s__law_bad ["_law_tape_here", "_law_grammar_here", "_law_count"]) (z_len : Free E "len") (z_tuple : Free E "tuple") (h__law_bad_rule : FnM E kk "_law_bad_rule" (CO1 .l (fun t => g2 (m__law_bad_rule t)))) (h__law_take : FnM E kk "_law_take" (CO1 .l (fun t => g1 (m__law_take t)))) : FnM E (kk + 1) "_law_bad" (CO1 .l (fun t => g2 (m__law_bad t))) :=
  hd.fn (N := ["_law_tape_here", "_law_grammar_here", "_law_count", "_law_start", "_law_rules", "_law_bars_here", "_law_at", "_law_rows", "_law_other"]) (W := ["_law_tape_here", "_law_grammar_here", "_law_count", "_law_start", "_law_rules", "_law_bars_here", "_law_at", "_law_rows", "_law_other"]) (G := ["_law_take", "len", "tuple", "_law_bad_rule"]) (Sl := ["_law_tape_here", "_law_grammar_here", "_law_count", "_law_start", "_law_rules", "_law_bars_here", "_law_at", "_law_rows", "_law_other"]) ⟨rfl, rfl, rfl, by decide +kernel, rfl, by decide +kernel, by decide +kernel⟩ (by decide +kernel) (by decide +kernel)
    (fun Γ0 r Γ1 ⟨v, x, xs, y, h1, h2, h3⟩ => match xs, h2 with | [_, _], _ => by subst h1; rfl)
    fun X L Γ0 r Γ1 ⟨v0, a0, xs, y, h1, h2, h3⟩ => match xs, h2 with
      | [a1, a2], h2 => by
        subst h1 h3
        exact body_of (d := Empty.elim) (rr := (r, y)) (b__law_bad L z_len z_tuple h__law_bad_rule h__law_take v0 a0 a1 a2) h2 (.ow (.no (.no .nil))) (fun n => n.elim)

abbrev s_rules_of : Stmt := top 30

def m_rules_of_b (a0 : D) (a1 : D) : Option (Ctl Empty Empty D) :=
  (((pIdx a0 (.int 1)).bind pEnum).bind fun xs2 => (lcTI pUn2 (fun x3 => (pIdx x3.2 (.int 0)).bind fun x4 => (pEq x4 a1).bind dBool) (fun x3 => some x3.1) xs2).map .list).bind fun x5 => some (.rt x5)
def m_rules_of (a0 : D) (a1 : D) : Option D := Ctl.fin Empty.elim (m_rules_of_b a0 a1)

theorem b_rules_of {X : Cx} {E : ME} {kk : Nat} (L : LX X E kk ["grammar", "symbol", "number", "rule"] ["grammar", "symbol"] ["enumerate"] ["grammar", "symbol"] (defScope s_rules_of)) (z_enumerate : Free E "enumerate") (a0 : D) (a1 : D) :
    BS X [.fz a0, .fz a1, .no, .no] (defBody s_rules_of) (m_rules_of_b a0 a1) Empty.elim Empty.elim (fun (_ : D) => [.no, .no, .no, .no]) (fun x => x) := by
  unfold m_rules_of_b
  exact bs_ret (mk := fun x5 => x5) ((ex_lcTI (Wb := ["number", "rule", "symbol"]) (Gb := []) (Sb := ["number", "rule"]) L [("number", 2), ("rule", 3)] (by decide +kernel) (xi_enum L 0 rfl z_enumerate (ex_ix_aa (ex_var L 0 0 rfl rfl rfl) ex_int (fun _ _ => rfl))) (fun _ L1 => (gy_tup2 L1 2 0 3 1 rfl rfl rfl rfl)) (fun _ L1 x3 => (tx_cmp_xa (op_eqZ L1.un) rs_eq (ex_ix_aa (ex_var L1 3 1 rfl rfl rfl) ex_int (fun _ _ => rfl)) (ex_var L1 1 2 rfl rfl rfl) (nomark _))) (fun _ L1 x3 => (ex_var L1 2 0 rfl rfl rfl)))).pe (fun _ => rfl) (fun _ => (.no (.no (.no (.no .nil)))))

theorem f_rules_of {E : ME} {kk : Nat} (hd : DefAt E "rules_of" "rules_of" s_rules_of ["grammar", "symbol"]) (z_enumerate : Free E "enumerate") : FnM E (kk + 1) "rules_of" (CP (g2 m_rules_of)) :=
  hd.fn (N := ["grammar", "symbol", "number", "rule"]) (W := ["grammar", "symbol"]) (G := ["enumerate"]) (Sl := ["grammar", "symbol"]) ⟨rfl, rfl, rfl, by decide +kernel, rfl, by decide +kernel, by decide +kernel⟩ (by decide +kernel) (by decide +kernel)
    (fun Γ0 r Γ1 ⟨xs, h1, h2, h3⟩ => match xs, h2 with | [_, _], _ => by subst h1; rfl)
    fun X L Γ0 r Γ1 ⟨xs, h1, h2, h3⟩ => match xs, h2 with
      | [a0, a1], h2 => by
        subst h1 h3
        exact body_of (d := Empty.elim) (b_rules_of L z_enumerate a0 a1) h2 (.no (.no .nil)) (fun n => n.elim)

abbrev s_demand_holds : Stmt := top 32

def m_demand_holds_b (a0 : D) (a1 : D) : Option (Ctl Empty Empty D) :=
  ((pIdx a0 (.int 1)).bind fun y1 => pIdx a1 y1).bind fun x2 => ((pIdx a0 (.int 0)).bind fun x3 => (pEq x3 (S "glued")).bind dBool).bind fun k20 => if k20 = true then Ctl.ex ((pIdx x2 (.int 4)).bind fun x4 => some (.rt x4) : Option (Ctl Unit Empty D)) else ((pIdx a0 (.int 2)).bind fun y5 => pIdx a1 y5).bind fun x6 => ((pIdx a0 (.int 0)).bind fun x7 => (pEq x7 (S "same")).bind dBool).bind fun k19 => if k19 = true then Ctl.ex (((pIdx x2 (.int 3)).bind fun x8 => (pIdx x6 (.int 3)).bind fun y9 => pEq x8 y9).bind fun x10 => some (.rt x10) : Option (Ctl Unit Empty D)) else ((pIdx a0 (.int 0)).bind fun x11 => (pEq x11 (S "right")).bind dBool).bind fun k18 => if k18 = true then Ctl.ex (((pIdx x6 (.int 3)).bind fun x12 => (pIdx x2 (.int 3)).bind fun y13 => pGt x12 y13).bind fun x14 => some (.rt x14) : Option (Ctl Unit Empty D)) else ((pIdx x2 (.int 2)).bind fun x15 => (pIdx x6 (.int 2)).bind fun y16 => pEq x15 y16).bind fun x17 => some (.rt x17)
def m_demand_holds (a0 : D) (a1 : D) : Option D := Ctl.fin Empty.elim (m_demand_holds_b a0 a1)

theorem b_demand_holds {X : Cx} {E : ME} {kk : Nat} (L : LX X E kk ["demand", "firsts", "first", "other"] ["demand", "firsts", "first", "other"] [] ["demand", "firsts", "first", "other"] (defScope s_demand_holds)) (a0 : D) (a1 : D) :
    BS X [.fz a0, .fz a1, .no, .no] (defBody s_demand_holds) (m_demand_holds_b a0 a1) Empty.elim Empty.elim (fun (_ : D) => [.no, .no, .no, .no]) (fun x => x) := by
  unfold m_demand_holds_b
  refine bs_set L 2 2 rfl rfl (ex_ix_ax (ex_var L 1 1 rfl rfl rfl) (ex_ix_aa (ex_var L 0 0 rfl rfl rfl) ex_int (fun _ _ => rfl)) (fun _ _ => rfl)) (fun x2 => ?_)
  refine bs_ifx (gN' := fun (_ : Unit) => []) (tx_cmp_xa (op_eqZ L.un) rs_eq (ex_ix_aa (ex_var L 0 0 rfl rfl rfl) ex_int (fun _ _ => rfl)) ex_str (nomark _)) ?_ ?_
  · 
    exact bs_ret (mk := fun x4 => x4) (ex_ix_aa (ex_var L 2 2 rfl rfl rfl) ex_int (fun _ _ => rfl)) (fun _ => rfl) (fun _ => (.no (.no (.no (.no .nil)))))
  refine bs_set L 3 3 rfl rfl (ex_ix_ax (ex_var L 1 1 rfl rfl rfl) (ex_ix_aa (ex_var L 0 0 rfl rfl rfl) ex_int (fun _ _ => rfl)) (fun _ _ => rfl)) (fun x6 => ?_)
  refine bs_ifx (gN' := fun (_ : Unit) => []) (tx_cmp_xa (op_eqZ L.un) rs_eq (ex_ix_aa (ex_var L 0 0 rfl rfl rfl) ex_int (fun _ _ => rfl)) ex_str (nomark _)) ?_ ?_
  · 
    exact bs_ret (mk := fun x10 => x10) (ex_cmp (op_eqZ L.un) rs_eq (ex_ix_aa (ex_var L 2 2 rfl rfl rfl) ex_int (fun _ _ => rfl)) (ex_ix_aa (ex_var L 3 3 rfl rfl rfl) ex_int (fun _ _ => rfl)) (nomark _)) (fun _ => rfl) (fun _ => (.no (.no (.no (.no .nil)))))
  refine bs_ifx (gN' := fun (_ : Unit) => []) (tx_cmp_xa (op_eqZ L.un) rs_eq (ex_ix_aa (ex_var L 0 0 rfl rfl rfl) ex_int (fun _ _ => rfl)) ex_str (nomark _)) ?_ ?_
  · 
    exact bs_ret (mk := fun x14 => x14) (ex_cmp (op_gtZ L.un) rs_gt (ex_ix_aa (ex_var L 3 3 rfl rfl rfl) ex_int (fun _ _ => rfl)) (ex_ix_aa (ex_var L 2 2 rfl rfl rfl) ex_int (fun _ _ => rfl)) (nomark _)) (fun _ => rfl) (fun _ => (.no (.no (.no (.no .nil)))))
  exact bs_ret (mk := fun x17 => x17) (ex_cmp (op_eqZ L.un) rs_eq (ex_ix_aa (ex_var L 2 2 rfl rfl rfl) ex_int (fun _ _ => rfl)) (ex_ix_aa (ex_var L 3 3 rfl rfl rfl) ex_int (fun _ _ => rfl)) (nomark _)) (fun _ => rfl) (fun _ => (.no (.no (.no (.no .nil)))))

theorem f_demand_holds {E : ME} {kk : Nat} (hd : DefAt E "demand_holds" "demand_holds" s_demand_holds ["demand", "firsts"]) : FnM E (kk + 1) "demand_holds" (CP (g2 m_demand_holds)) :=
  hd.fn (N := ["demand", "firsts", "first", "other"]) (W := ["demand", "firsts", "first", "other"]) (G := []) (Sl := ["demand", "firsts", "first", "other"]) ⟨rfl, rfl, rfl, by decide +kernel, rfl, by decide +kernel, by decide +kernel⟩ (by decide +kernel) (by decide +kernel)
    (fun Γ0 r Γ1 ⟨xs, h1, h2, h3⟩ => match xs, h2 with | [_, _], _ => by subst h1; rfl)
    fun X L Γ0 r Γ1 ⟨xs, h1, h2, h3⟩ => match xs, h2 with
      | [a0, a1], h2 => by
        subst h1 h3
        exact body_of (d := Empty.elim) (b_demand_holds L a0 a1) h2 (.no (.no .nil)) (fun n => n.elim)

abbrev s__law_is : Stmt := top 70

def m__law_is_b (a0 : D) (a1 : D) : Option (Ctl Empty Empty D) :=
  (if (PyData.isBool a0) = true then pEq a0 a1 else some (.bool (PyData.isBool a0))).bind fun x1 => some (.rt x1)
def m__law_is (a0 : D) (a1 : D) : Option D := Ctl.fin Empty.elim (m__law_is_b a0 a1)

theorem b__law_is {X : Cx} {E : ME} {kk : Nat} (L : LX X E kk ["_law_told", "_law_due"] ["_law_told", "_law_due"] ["isinstance", "bool"] ["_law_told", "_law_due"] (defScope s__law_is)) (z_bool : Free E "bool") (z_isinstance : Free E "isinstance") (a0 : D) (a1 : D) :
    BS X [.fz a0, .fz a1] (defBody s__law_is) (m__law_is_b a0 a1) Empty.elim Empty.elim (fun (_ : D) => [.no, .no]) (fun x => x) := by
  unfold m__law_is_b
  exact bs_ret (mk := fun x1 => x1) (ex_and_a (ex_isa_a isa_bool L 0 1 rfl z_isinstance rfl z_bool PyProof.Rows.boot_bool (ex_var L 0 0 rfl rfl rfl)) (ex_one (ex_cmp_aa (op_eqZ L.un) rs_eq (ex_var L 0 0 rfl rfl rfl) (ex_var L 1 1 rfl rfl rfl) (nomark _)))) (fun _ => rfl) (fun _ => (.no (.no .nil)))

theorem f__law_is {E : ME} {kk : Nat} (hd : DefAt E "_law_is" "_law_is" s__law_is ["_law_told", "_law_due"]) (z_bool : Free E "bool") (z_isinstance : Free E "isinstance") : FnM E (kk + 1) "_law_is" (CP (g2 m__law_is)) :=
  hd.fn (N := ["_law_told", "_law_due"]) (W := ["_law_told", "_law_due"]) (G := ["isinstance", "bool"]) (Sl := ["_law_told", "_law_due"]) ⟨rfl, rfl, rfl, by decide +kernel, rfl, by decide +kernel, by decide +kernel⟩ (by decide +kernel) (by decide +kernel)
    (fun Γ0 r Γ1 ⟨xs, h1, h2, h3⟩ => match xs, h2 with | [_, _], _ => by subst h1; rfl)
    fun X L Γ0 r Γ1 ⟨xs, h1, h2, h3⟩ => match xs, h2 with
      | [a0, a1], h2 => by
        subst h1 h3
        exact body_of (d := Empty.elim) (b__law_is L z_bool z_isinstance a0 a1) h2 (.no (.no .nil)) (fun n => n.elim)

abbrev s_barred : Stmt := top 31

def m_barred_b (a0 : D) (a1 : D) (a2 : D) (a3 : D) : Option (Ctl Empty Empty D) :=
  Ctl.seq (((pIdx a0 (.int 2)).bind pIter).bind fun xs8 => forC (fun x2 s1 => ((((pOpt (.int 3)).bind fun h4 => pSl x2 none h4).bind fun x5 => (pEq x5 (.tuple [a1, a2, a3])).bind dBool).bind fun k7 => if k7 = true then (pIdx x2 (.int 3)).bind fun x6 => some (.rt x6) else some (.nx ()) : Option (Ctl Unit Unit D))) xs8 () : Option (Ctl Unit Empty D)) fun (s9 : Unit) => some (.rt (.bool false))
def m_barred (a0 : D) (a1 : D) (a2 : D) (a3 : D) : Option D := Ctl.fin Empty.elim (m_barred_b a0 a1 a2 a3)

theorem b_barred {X : Cx} {E : ME} {kk : Nat} (L : LX X E kk ["grammar", "rule", "place", "below", "bar"] ["grammar", "rule", "place", "below", "bar"] [] ["grammar", "rule", "place", "below", "bar"] (defScope s_barred)) (a0 : D) (a1 : D) (a2 : D) (a3 : D) :
    BS X [.fz a0, .fz a1, .fz a2, .fz a3, .no] (defBody s_barred) (m_barred_b a0 a1 a2 a3) Empty.elim Empty.elim (fun (_ : D) => [.no, .no, .no, .no, .no]) (fun x => x) := by
  unfold m_barred_b
  refine bs_seq (gN' := (fun (s1 : Unit) => [.fz a0, .fz a1, .fz a2, .fz a3, .no])) (ss_for1 (gS := (fun (s1 : Unit) => [.fz a0, .fz a1, .fz a2, .fz a3, .no])) L 4 4 rfl rfl (.same (.same (.same (.same (.no .nil))))) (xi_val (ex_ix_aa (ex_var L 0 0 rfl rfl rfl) ex_int (fun _ _ => rfl))) (fun s1 x2 => ?_)) ?_
  · 
    refine bs_one (ss_if (tx_cmp_xa (op_eqZ L.un) rs_eq (ex_sl_an (ex_var L 4 4 rfl rfl rfl) (xo_some_a ex_int)) (ex_tup (by decide) (ax_consA (ex_var L 1 1 rfl rfl rfl) (ax_consA (ex_var L 2 2 rfl rfl rfl) (ax_consA (ex_var L 3 3 rfl rfl rfl) ax_nil)))) (nomark _)) ?_ ?_)
    · 
      exact bs_ret (mk := fun x6 => x6) (ex_ix_aa (ex_var L 4 4 rfl rfl rfl) ex_int (fun _ _ => rfl)) (fun _ => rfl) (fun _ => (.no (.no (.no (.no (.no .nil))))))
    · 
      exact bs_nil (.same (.same (.same (.same (.no .nil)))))
  intro s9
  exact bs_ret_a (mk := fun x10 => x10) ex_bool (fun _ => rfl) (fun _ => (.no (.no (.no (.no (.no .nil))))))

theorem f_barred {E : ME} {kk : Nat} (hd : DefAt E "barred" "barred" s_barred ["grammar", "rule", "place", "below"]) : FnM E (kk + 1) "barred" (CP (g4 m_barred)) :=
  hd.fn (N := ["grammar", "rule", "place", "below", "bar"]) (W := ["grammar", "rule", "place", "below", "bar"]) (G := []) (Sl := ["grammar", "rule", "place", "below", "bar"]) ⟨rfl, rfl, rfl, by decide +kernel, rfl, by decide +kernel, by decide +kernel⟩ (by decide +kernel) (by decide +kernel)
    (fun Γ0 r Γ1 ⟨xs, h1, h2, h3⟩ => match xs, h2 with | [_, _, _, _], _ => by subst h1; rfl)
    fun X L Γ0 r Γ1 ⟨xs, h1, h2, h3⟩ => match xs, h2 with
      | [a0, a1, a2, a3], h2 => by
        subst h1 h3
        exact body_of (d := Empty.elim) (b_barred L a0 a1 a2 a3) h2 (.no (.no (.no (.no .nil)))) (fun n => n.elim)

abbrev s__law_first : Stmt := top 54

def m__law_first_b (a0 : D) : Option (Ctl Empty Empty D) :=
  Ctl.seq ((pRg1 (.int 90)).bind fun xs5 => forC (fun x2 s1 => (if (PyData.isTuple s1) = true then ((pIdx s1 (.int 1)).bind fun x3 => pIdx x3 (.int 0)).bind fun x4 => some (.nx x4) else some (.nx s1) : Option (Ctl D D D))) xs5 a0 : Option (Ctl D Empty D)) fun (s6 : D) => some (.rt s6)
def m__law_first (a0 : D) : Option D := Ctl.fin Empty.elim (m__law_first_b a0)

theorem b__law_first {X : Cx} {E : ME} {kk : Nat} (L : LX X E kk ["_law_tree", "_law_turn"] ["_law_tree", "_law_turn"] ["range", "isinstance", "tuple"] ["_law_tree", "_law_turn"] (defScope s__law_first)) (z_isinstance : Free E "isinstance") (z_range : Free E "range") (z_tuple : Free E "tuple") (a0 : D) :
    BS X [.fz a0, .no] (defBody s__law_first) (m__law_first_b a0) Empty.elim Empty.elim (fun (_ : D) => [.no, .no]) (fun x => x) := by
  unfold m__law_first_b
  refine bs_seq (gN' := (fun (s1 : D) => [.fz s1, .no])) (ss_for1 (gS := (fun (s1 : D) => [.fz s1, .no])) L 1 1 rfl rfl (.same (.no .nil)) (xi_rg1_a L 0 rfl z_range ex_int) (fun s1 x2 => ?_)) ?_
  · 
    refine bs_one (ss_if_a (tx_bool (ex_isa_a isa_tuple L 1 2 rfl z_isinstance rfl z_tuple PyProof.Rows.boot_tuple (ex_var L 0 0 rfl rfl rfl)) (fun _ => rfl)) ?_ ?_)
    · 
      refine bs_set L 0 0 rfl rfl (ex_ix_xa (ex_ix_aa (ex_var L 0 0 rfl rfl rfl) ex_int (fun _ _ => rfl)) ex_int (fun _ _ => rfl)) (fun x4 => ?_)
      exact bs_nil (.same (.no .nil))
    · 
      exact bs_nil (.same (.no .nil))
  intro s6
  exact bs_ret_a (mk := fun x7 => x7) (ex_var L 0 0 rfl rfl rfl) (fun _ => rfl) (fun _ => (.no (.no .nil)))

theorem f__law_first {E : ME} {kk : Nat} (hd : DefAt E "_law_first" "_law_first" s__law_first ["_law_tree"]) (z_isinstance : Free E "isinstance") (z_range : Free E "range") (z_tuple : Free E "tuple") : FnM E (kk + 1) "_law_first" (CP (g1 m__law_first)) :=
  hd.fn (N := ["_law_tree", "_law_turn"]) (W := ["_law_tree", "_law_turn"]) (G := ["range", "isinstance", "tuple"]) (Sl := ["_law_tree", "_law_turn"]) ⟨rfl, rfl, rfl, by decide +kernel, rfl, by decide +kernel, by decide +kernel⟩ (by decide +kernel) (by decide +kernel)
    (fun Γ0 r Γ1 ⟨xs, h1, h2, h3⟩ => match xs, h2 with | [_], _ => by subst h1; rfl)
    fun X L Γ0 r Γ1 ⟨xs, h1, h2, h3⟩ => match xs, h2 with
      | [a0], h2 => by
        subst h1 h3
        exact body_of (d := Empty.elim) (b__law_first L z_isinstance z_range z_tuple a0) h2 (.no .nil) (fun n => n.elim)

abbrev s__law_demand : Stmt := top 56

def m__law_demand_b (a0 : D) (a1 : D) (a2 : D) : Option (Ctl Empty Empty D) :=
  (((((pIdx a1 (.int 1)).bind fun y1 => pIdx a2 y1).bind fun x2 => m__law_first x2).bind fun y3 => pIdx a0 y3).bind fun x4 => pIdx x4 (.int 0)).bind fun x5 => ((pIdx a1 (.int 0)).bind fun x6 => (pEq x6 (S "glued")).bind dBool).bind fun k26 => if k26 = true then Ctl.ex ((pIdx x5 (.int 4)).bind fun x7 => some (.rt x7) : Option (Ctl Unit Empty D)) else (((((pIdx a1 (.int 2)).bind fun y8 => pIdx a2 y8).bind fun x9 => m__law_first x9).bind fun y10 => pIdx a0 y10).bind fun x11 => pIdx x11 (.int 0)).bind fun x12 => ((pIdx a1 (.int 0)).bind fun x13 => (pEq x13 (S "same")).bind dBool).bind fun k25 => if k25 = true then Ctl.ex (((pIdx x5 (.int 3)).bind fun x14 => (pIdx x12 (.int 3)).bind fun y15 => pEq x14 y15).bind fun x16 => some (.rt x16) : Option (Ctl Unit Empty D)) else ((pIdx a1 (.int 0)).bind fun x17 => (pEq x17 (S "right")).bind dBool).bind fun k24 => if k24 = true then Ctl.ex (((pIdx x12 (.int 3)).bind fun x18 => (pIdx x5 (.int 3)).bind fun y19 => pGt x18 y19).bind fun x20 => some (.rt x20) : Option (Ctl Unit Empty D)) else ((pIdx x5 (.int 2)).bind fun x21 => (pIdx x12 (.int 2)).bind fun y22 => pEq x21 y22).bind fun x23 => some (.rt x23)
def m__law_demand (a0 : D) (a1 : D) (a2 : D) : Option D := Ctl.fin Empty.elim (m__law_demand_b a0 a1 a2)

theorem b__law_demand {X : Cx} {E : ME} {kk : Nat} (L : LX X E kk ["_law_folded_here", "_law_demand_here", "_law_children", "_law_one", "_law_two"] ["_law_folded_here", "_law_demand_here", "_law_children", "_law_one", "_law_two"] ["_law_first"] ["_law_folded_here", "_law_demand_here", "_law_children", "_law_one", "_law_two"] (defScope s__law_demand)) (h__law_first : FnM E kk "_law_first" (CP (g1 m__law_first))) (a0 : D) (a1 : D) (a2 : D) :
    BS X [.fz a0, .fz a1, .fz a2, .no, .no] (defBody s__law_demand) (m__law_demand_b a0 a1 a2) Empty.elim Empty.elim (fun (_ : D) => [.no, .no, .no, .no, .no]) (fun x => x) := by
  unfold m__law_demand_b
  refine bs_set L 3 3 rfl rfl (ex_ix_xa (ex_ix_ax (ex_var L 0 0 rfl rfl rfl) (ex_call L 0 rfl h__law_first (Nat.le_refl _) (ax_cons (ex_ix_ax (ex_var L 2 2 rfl rfl rfl) (ex_ix_aa (ex_var L 1 1 rfl rfl rfl) ex_int (fun _ _ => rfl)) (fun _ _ => rfl)) (fun x2 => ax_nil))) (fun _ _ => rfl)) ex_int (fun _ _ => rfl)) (fun x5 => ?_)
  refine bs_ifx (gN' := fun (_ : Unit) => []) (tx_cmp_xa (op_eqZ L.un) rs_eq (ex_ix_aa (ex_var L 1 1 rfl rfl rfl) ex_int (fun _ _ => rfl)) ex_str (nomark _)) ?_ ?_
  · 
    exact bs_ret (mk := fun x7 => x7) (ex_ix_aa (ex_var L 3 3 rfl rfl rfl) ex_int (fun _ _ => rfl)) (fun _ => rfl) (fun _ => (.no (.no (.no (.no (.no .nil))))))
  refine bs_set L 4 4 rfl rfl (ex_ix_xa (ex_ix_ax (ex_var L 0 0 rfl rfl rfl) (ex_call L 0 rfl h__law_first (Nat.le_refl _) (ax_cons (ex_ix_ax (ex_var L 2 2 rfl rfl rfl) (ex_ix_aa (ex_var L 1 1 rfl rfl rfl) ex_int (fun _ _ => rfl)) (fun _ _ => rfl)) (fun x9 => ax_nil))) (fun _ _ => rfl)) ex_int (fun _ _ => rfl)) (fun x12 => ?_)
  refine bs_ifx (gN' := fun (_ : Unit) => []) (tx_cmp_xa (op_eqZ L.un) rs_eq (ex_ix_aa (ex_var L 1 1 rfl rfl rfl) ex_int (fun _ _ => rfl)) ex_str (nomark _)) ?_ ?_
  · 
    exact bs_ret (mk := fun x16 => x16) (ex_cmp (op_eqZ L.un) rs_eq (ex_ix_aa (ex_var L 3 3 rfl rfl rfl) ex_int (fun _ _ => rfl)) (ex_ix_aa (ex_var L 4 4 rfl rfl rfl) ex_int (fun _ _ => rfl)) (nomark _)) (fun _ => rfl) (fun _ => (.no (.no (.no (.no (.no .nil))))))
  refine bs_ifx (gN' := fun (_ : Unit) => []) (tx_cmp_xa (op_eqZ L.un) rs_eq (ex_ix_aa (ex_var L 1 1 rfl rfl rfl) ex_int (fun _ _ => rfl)) ex_str (nomark _)) ?_ ?_
  · 
    exact bs_ret (mk := fun x20 => x20) (ex_cmp (op_gtZ L.un) rs_gt (ex_ix_aa (ex_var L 4 4 rfl rfl rfl) ex_int (fun _ _ => rfl)) (ex_ix_aa (ex_var L 3 3 rfl rfl rfl) ex_int (fun _ _ => rfl)) (nomark _)) (fun _ => rfl) (fun _ => (.no (.no (.no (.no (.no .nil))))))
  exact bs_ret (mk := fun x23 => x23) (ex_cmp (op_eqZ L.un) rs_eq (ex_ix_aa (ex_var L 3 3 rfl rfl rfl) ex_int (fun _ _ => rfl)) (ex_ix_aa (ex_var L 4 4 rfl rfl rfl) ex_int (fun _ _ => rfl)) (nomark _)) (fun _ => rfl) (fun _ => (.no (.no (.no (.no (.no .nil))))))

theorem f__law_demand {E : ME} {kk : Nat} (hd : DefAt E "_law_demand" "_law_demand" s__law_demand ["_law_folded_here", "_law_demand_here", "_law_children"]) (h__law_first : FnM E kk "_law_first" (CP (g1 m__law_first))) : FnM E (kk + 1) "_law_demand" (CP (g3 m__law_demand)) :=
  hd.fn (N := ["_law_folded_here", "_law_demand_here", "_law_children", "_law_one", "_law_two"]) (W := ["_law_folded_here", "_law_demand_here", "_law_children", "_law_one", "_law_two"]) (G := ["_law_first"]) (Sl := ["_law_folded_here", "_law_demand_here", "_law_children", "_law_one", "_law_two"]) ⟨rfl, rfl, rfl, by decide +kernel, rfl, by decide +kernel, by decide +kernel⟩ (by decide +kernel) (by decide +kernel)
    (fun Γ0 r Γ1 ⟨xs, h1, h2, h3⟩ => match xs, h2 with | [_, _, _], _ => by subst h1; rfl)
    fun X L Γ0 r Γ1 ⟨xs, h1, h2, h3⟩ => match xs, h2 with
      | [a0, a1, a2], h2 => by
        subst h1 h3
        exact body_of (d := Empty.elim) (b__law_demand L h__law_first a0 a1 a2) h2 (.no (.no (.no .nil))) (fun n => n.elim)

abbrev s_matches : Stmt := top 29

def m_matches_b (a0 : D) (a1 : D) : Option (Ctl Empty Empty D) :=
  ((pIdx a0 (.int 0)).bind fun x1 => (pEq x1 (S "kind")).bind dBool).bind fun k8 => if k8 = true then Ctl.ex (((pIdx a1 (.int 0)).bind fun x2 => (pIdx a0 (.int 1)).bind fun y3 => pEq x2 y3).bind fun x4 => some (.rt x4) : Option (Ctl Unit Empty D)) else ((pIdx a1 (.int 1)).bind fun x5 => (pIdx a0 (.int 1)).bind fun y6 => pEq x5 y6).bind fun x7 => some (.rt x7)
def m_matches (a0 : D) (a1 : D) : Option D := Ctl.fin Empty.elim (m_matches_b a0 a1)

theorem b_matches {X : Cx} {E : ME} {kk : Nat} (L : LX X E kk ["part", "token"] ["part", "token"] [] ["part", "token"] (defScope s_matches)) (a0 : D) (a1 : D) :
    BS X [.fz a0, .fz a1] (defBody s_matches) (m_matches_b a0 a1) Empty.elim Empty.elim (fun (_ : D) => [.no, .no]) (fun x => x) := by
  unfold m_matches_b
  refine bs_ifx (gN' := fun (_ : Unit) => []) (tx_cmp_xa (op_eqZ L.un) rs_eq (ex_ix_aa (ex_var L 0 0 rfl rfl rfl) ex_int (fun _ _ => rfl)) ex_str (nomark _)) ?_ ?_
  · 
    exact bs_ret (mk := fun x4 => x4) (ex_cmp (op_eqZ L.un) rs_eq (ex_ix_aa (ex_var L 1 1 rfl rfl rfl) ex_int (fun _ _ => rfl)) (ex_ix_aa (ex_var L 0 0 rfl rfl rfl) ex_int (fun _ _ => rfl)) (nomark _)) (fun _ => rfl) (fun _ => (.no (.no .nil)))
  exact bs_ret (mk := fun x7 => x7) (ex_cmp (op_eqZ L.un) rs_eq (ex_ix_aa (ex_var L 1 1 rfl rfl rfl) ex_int (fun _ _ => rfl)) (ex_ix_aa (ex_var L 0 0 rfl rfl rfl) ex_int (fun _ _ => rfl)) (nomark _)) (fun _ => rfl) (fun _ => (.no (.no .nil)))

theorem f_matches {E : ME} {kk : Nat} (hd : DefAt E "matches" "matches" s_matches ["part", "token"]) : FnM E (kk + 1) "matches" (CP (g2 m_matches)) :=
  hd.fn (N := ["part", "token"]) (W := ["part", "token"]) (G := []) (Sl := ["part", "token"]) ⟨rfl, rfl, rfl, by decide +kernel, rfl, by decide +kernel, by decide +kernel⟩ (by decide +kernel) (by decide +kernel)
    (fun Γ0 r Γ1 ⟨xs, h1, h2, h3⟩ => match xs, h2 with | [_, _], _ => by subst h1; rfl)
    fun X L Γ0 r Γ1 ⟨xs, h1, h2, h3⟩ => match xs, h2 with
      | [a0, a1], h2 => by
        subst h1 h3
        exact body_of (d := Empty.elim) (b_matches L a0 a1) h2 (.no (.no .nil)) (fun n => n.elim)

abbrev s__law_matches : Stmt := top 53

def m__law_matches_b (a0 : D) (a1 : D) : Option (Ctl Empty Empty D) :=
  (((pIdx a0 (.int 0)).bind fun x1 => (pEq x1 (S "kind")).bind dBool).bind fun k6 => if k6 = true then (pIdx a1 (.int 0)).bind fun x2 => (pIdx a0 (.int 1)).bind fun y3 => pEq x2 y3 else (pIdx a1 (.int 1)).bind fun x4 => (pIdx a0 (.int 1)).bind fun y5 => pEq x4 y5).bind fun x7 => some (.rt x7)
def m__law_matches (a0 : D) (a1 : D) : Option D := Ctl.fin Empty.elim (m__law_matches_b a0 a1)

theorem b__law_matches {X : Cx} {E : ME} {kk : Nat} (L : LX X E kk ["_law_part", "_law_token"] ["_law_part", "_law_token"] [] ["_law_part", "_law_token"] (defScope s__law_matches)) (a0 : D) (a1 : D) :
    BS X [.fz a0, .fz a1] (defBody s__law_matches) (m__law_matches_b a0 a1) Empty.elim Empty.elim (fun (_ : D) => [.no, .no]) (fun x => x) := by
  unfold m__law_matches_b
  exact bs_ret (mk := fun x7 => x7) (ex_if (tx_cmp_xa (op_eqZ L.un) rs_eq (ex_ix_aa (ex_var L 0 0 rfl rfl rfl) ex_int (fun _ _ => rfl)) ex_str (nomark _)) (ex_cmp (op_eqZ L.un) rs_eq (ex_ix_aa (ex_var L 1 1 rfl rfl rfl) ex_int (fun _ _ => rfl)) (ex_ix_aa (ex_var L 0 0 rfl rfl rfl) ex_int (fun _ _ => rfl)) (nomark _)) (ex_cmp (op_eqZ L.un) rs_eq (ex_ix_aa (ex_var L 1 1 rfl rfl rfl) ex_int (fun _ _ => rfl)) (ex_ix_aa (ex_var L 0 0 rfl rfl rfl) ex_int (fun _ _ => rfl)) (nomark _))) (fun _ => rfl) (fun _ => (.no (.no .nil)))

theorem f__law_matches {E : ME} {kk : Nat} (hd : DefAt E "_law_matches" "_law_matches" s__law_matches ["_law_part", "_law_token"]) : FnM E (kk + 1) "_law_matches" (CP (g2 m__law_matches)) :=
  hd.fn (N := ["_law_part", "_law_token"]) (W := ["_law_part", "_law_token"]) (G := []) (Sl := ["_law_part", "_law_token"]) ⟨rfl, rfl, rfl, by decide +kernel, rfl, by decide +kernel, by decide +kernel⟩ (by decide +kernel) (by decide +kernel)
    (fun Γ0 r Γ1 ⟨xs, h1, h2, h3⟩ => match xs, h2 with | [_, _], _ => by subst h1; rfl)
    fun X L Γ0 r Γ1 ⟨xs, h1, h2, h3⟩ => match xs, h2 with
      | [a0, a1], h2 => by
        subst h1 h3
        exact body_of (d := Empty.elim) (b__law_matches L a0 a1) h2 (.no (.no .nil)) (fun n => n.elim)

abbrev s_law : Stmt := top 71

def m_law_b (ns : List Int) : Option (Ctl Empty Empty D) :=
  (m__law_world (tape0 ns 0) (.int 9)).bind fun r2 => (pUn3 r2.1).bind fun p1 => (((pNe c_MAX_PARTS (.int 3)).bind dBool).bind fun k5 => if k5 = true then some true else ((pNe c_MAX_RULES (.int 12)).bind dBool).bind fun k4 => if k4 = true then some true else (m_is_grammar p1.2.1 p1.1).bind fun x3 => (pIsNot x3 (.bool true)).bind dBool).bind fun k99 => if k99 = true then Ctl.ex (some (.rt (.bool false)) : Option (Ctl Unit Empty D)) else (((m__law_bad r2.2 p1.2.1 p1.1).bind fun r8 => (m_is_grammar r8.1 p1.1).map fun z7 => (z7, r8.2)).bind fun r9 => (some ((.bool false), r9.2)).bind fun r10 => ((pIsNot r9.1 r10.1).bind dBool).map fun z11 => (z11, r10.2)).bind fun r12 => if r12.1 = true then Ctl.ex (some (.rt (.bool false)) : Option (Ctl Unit Empty D)) else (pIdx p1.2.1 (.int 1)).bind fun x15 => Ctl.seq (((((pIter x15).bind fun xs29 => (lcM (fun x30 => pIdx x30 (.int 0)) xs29).map .list).bind fun x31 => pAdd x31 (.list [(S "Nowher")])).bind pIter).bind fun xs27 => forC (fun x17 s16 => (((m_rules_of p1.2.1 x17).bind fun x23 => (((pLen x15).bind pRg1).bind fun xs19 => (lcI (fun x20 => ((pIdx x15 x20).bind fun x21 => pIdx x21 (.int 0)).bind fun x22 => (pEq x22 x17).bind dBool) (fun x20 => some x20) xs19).map .list).bind fun y24 => (pNe x23 y24).bind dBool).bind fun k26 => if k26 = true then some (.rt (.bool false)) else some (.nx ()) : Option (Ctl Unit Unit D))) xs27 () : Option (Ctl Unit Empty D)) fun (s32 : Unit) => Ctl.seq ((pIter x15).bind fun xs69 => forC (fun x34 s33 => (Ctl.seq (((pIdx x34 (.int 1)).bind pIter).bind fun xs48 => forC (fun x36 s35 => (Ctl.seq ((pIter p1.2.2).bind fun xs45 => forC (fun y46 s37 => (pUn2 y46).bind fun x38 => ((((pIdx x36 (.int 0)).bind fun x39 => (pNe x39 (S "symbol")).bind dBool).bind fun k42 => if k42 = true then (((m_matches x36 x38.1).bind fun x40 => (m__law_matches x36 x38.1).bind fun x41 => m__law_is x40 x41).bind pTru).map (!·) else some false).bind fun k44 => if k44 = true then some (.rt (.bool false)) else some (.nx ()) : Option (Ctl Unit Unit D))) xs45 () : Option (Ctl Unit Unit D)) fun (s47 : Unit) => some (.nx ()) : Option (Ctl Unit Unit D))) xs48 () : Option (Ctl Unit Unit D)) fun (s49 : Unit) => ((pLen p1.2.2).bind fun x51 => ((pIdx x34 (.int 1)).bind fun x50 => pLen x50).bind fun y52 => (pGe x51 y52).bind dBool).bind fun k68 => if k68 = true then (((pIdx x34 (.int 1)).bind fun x53 => pLen x53).bind pLRg1).bind fun x54 => Ctl.seq (((pIdx x34 (.int 3)).bind pIter).bind fun xs66 => forC (fun x56 s55 => ((((pIter x54).bind fun xs58 => (lcM (fun x59 => (pIdx p1.2.2 x59).bind fun x60 => pIdx x60 (.int 0)) xs58).map .list).bind fun x61 => m_demand_holds x56 x61).bind fun x62 => ((((m__law_demand p1.2.2 x56 x54).bind fun x63 => m__law_is x62 x63).bind pTru).map (!·)).bind fun k65 => if k65 = true then some (.rt (.bool false)) else some (.nx ()) : Option (Ctl Unit Unit D))) xs66 () : Option (Ctl Unit Unit D)) fun (s67 : Unit) => some (.nx ()) else some (.nx ()) : Option (Ctl Unit Unit D))) xs69 () : Option (Ctl Unit Empty D)) fun (s70 : Unit) => Ctl.seq (((pLen x15).bind pRg1).bind fun xs96 => forC (fun x72 s71 => (Ctl.seq (((((pIdx x15 x72).bind fun x93 => pIdx x93 (.int 1)).bind fun x94 => pLen x94).bind pRg1).bind fun xs92 => forC (fun x74 s73 => (Ctl.seq (((pLen x15).bind pRg1).bind fun xs90 => forC (fun x76 s75 => ((((pIdx p1.2.1 (.int 2)).bind pIter).bind fun xs78 => (lcI (fun x79 => ((pOpt (.int 3)).bind fun h81 => pSl x79 none h81).bind fun x82 => (pEq x82 (.tuple [x72, x74, x76])).bind dBool) (fun x79 => pIdx x79 (.int 3)) xs78).map .list).bind fun x83 => ((m_barred p1.2.1 x72 x74 x76).bind fun x86 => (((pLen x83).bind fun x84 => (pGt x84 (.int 0)).bind dBool).bind fun k85 => if k85 = true then pIdx x83 (.int 0) else some (.bool false)).bind fun y87 => (pNe x86 y87).bind dBool).bind fun k89 => if k89 = true then some (.rt (.bool false)) else some (.nx ()) : Option (Ctl Unit Unit D))) xs90 () : Option (Ctl Unit Unit D)) fun (s91 : Unit) => some (.nx ()) : Option (Ctl Unit Unit D))) xs92 () : Option (Ctl Unit Unit D)) fun (s95 : Unit) => some (.nx ()) : Option (Ctl Unit Unit D))) xs96 () : Option (Ctl Unit Empty D)) fun (s97 : Unit) => some (.rt (.bool true))
def m_law (ns : List Int) : Option D := Ctl.fin Empty.elim (m_law_b ns)

theorem b_law {X : Cx} {E : ME} {kk : Nat} {ns : List Int} (L : LX X E kk ["_law_script", "_law_tape_here", "_law_count", "_law_grammar_here", "_law_folded_here", "_law_rules", "_law_symbol", "_law_rule", "_law_part", "_law_token", "_law_diagram_here", "_law_firsts", "_law_demand_here", "_law_told", "_law_r", "_law_p", "_law_b", "_law_due", "_law_k", "_law_at", "_law_bar"] ["_law_script", "_law_tape_here", "_law_count", "_law_grammar_here", "_law_folded_here", "_law_rules", "_law_symbol", "_law_rule", "_law_part", "_law_token", "_law_diagram_here", "_law_firsts", "_law_demand_here", "_law_told", "_law_r", "_law_p", "_law_b", "_law_due"] ["_law_tape", "_law_world", "MAX_PARTS", "MAX_RULES", "is_grammar", "_law_bad", "rules_of", "range", "len", "_law_is", "matches", "_law_matches", "list", "demand_holds", "_law_demand", "barred"] ["_law_script", "_law_tape_here", "_law_count", "_law_grammar_here", "_law_folded_here", "_law_rules", "_law_symbol", "_law_rule", "_law_part", "_law_token", "_law_diagram_here", "_law_firsts", "_law_demand_here", "_law_told", "_law_r", "_law_p", "_law_b", "_law_due"] (defScope s_law)) (z_len : Free E "len") (z_list : Free E "list") (z_range : Free E "range") (k_MAX_PARTS : GConst E "MAX_PARTS" c_MAX_PARTS) (k_MAX_RULES : GConst E "MAX_RULES" c_MAX_RULES) (h__law_bad : FnM E kk "_law_bad" (CO1 .l (fun t => g2 (m__law_bad t)))) (h__law_demand : FnM E kk "_law_demand" (CP (g3 m__law_demand))) (h__law_is : FnM E kk "_law_is" (CP (g2 m__law_is))) (h__law_matches : FnM E kk "_law_matches" (CP (g2 m__law_matches))) (h__law_world : FnM E kk "_law_world" (CO1 .l (fun t => g1 (m__law_world t)))) (h_barred : FnM E kk "barred" (CP (g4 m_barred))) (h_demand_holds : FnM E kk "demand_holds" (CP (g2 m_demand_holds))) (h_is_grammar : FnM E kk "is_grammar" (CP (g2 m_is_grammar))) (h_matches : FnM E kk "matches" (CP (g2 m_matches))) (h_rules_of : FnM E kk "rules_of" (CP (g2 m_rules_of))) (h__law_tape : FnT E kk "_law_tape") (hl : ns.length ≤ 63) :
    BS X [.sc ns, .no, .no, .no, .no, .no, .no, .no, .no, .no, .no, .no, .no, .no, .no, .no, .no, .no, .no, .no, .no] (defBody s_law) (m_law_b ns) Empty.elim Empty.elim (fun (_ : D) => [.no, .no, .no, .no, .no, .no, .no, .no, .no, .no, .no, .no, .no, .no, .no, .no, .no, .no, .no, .no, .no]) (fun x => x) := by
  unfold m_law_b
  refine bs_tape L 1 1 0 0 0 rfl rfl rfl rfl rfl rfl hl h__law_tape (Nat.le_refl _) ?_
  refine bs_asgE (S := (fun (t100 : D) => [.sc ns, .ow .l none t100, .no, .no, .no, .no, .no, .no, .no, .no, .no, .no, .no, .no, .no, .no, .no, .no, .no, .no, .no])) (t := (tape0 ns 0)) (exe_callO1 L 1 1 1 rfl rfl rfl h__law_world (Nat.le_refl _) (fun _ => rfl) (fun _ _ => rfl) (axe_consA ex_int axe_nil)) (fun _ => (gx_tup3 L 2 2 3 3 4 4 rfl rfl rfl rfl rfl rfl)) (fun r2 p1 => ?_)
  refine bs_ifx (gN' := fun (_ : Unit) => []) (tx_w (wx_or (tx_cmp_aa (op_neZ L.un) rs_ne (ex_glob L 2 rfl k_MAX_PARTS) ex_int (nomark _)) (wx_or (tx_cmp_aa (op_neZ L.un) rs_ne (ex_glob L 3 rfl k_MAX_RULES) ex_int (nomark _)) (wx_or1 (tx_cmp_xa op_isNotV rs_isNot (ex_call L 4 rfl h_is_grammar (Nat.le_refl _) (ax_consA (ex_var L 3 3 rfl rfl rfl) (ax_consA (ex_var L 2 2 rfl rfl rfl) ax_nil))) ex_bool (nomark _)))))) ?_ ?_
  · 
    exact bs_ret_a (mk := fun x6 => x6) ex_bool (fun _ => rfl) (fun _ => (.no (.no (.no (.no (.no (.no (.no (.no (.no (.no (.no (.no (.no (.no (.no (.no (.no (.no (.no (.no (.no .nil))))))))))))))))))))))
  refine bs_ifxR (S := (fun (t13 : D) => [.sc ns, .ow .l none t13, .fz p1.1, .fz p1.2.1, .fz p1.2.2, .no, .no, .no, .no, .no, .no, .no, .no, .no, .no, .no, .no, .no, .no, .no, .no])) (gN' := fun (_ : Unit) => []) (txe_cmp op_isNotV rs_isNot (exe_call L 4 rfl h_is_grammar (Nat.le_refl _) (axe_cons (exe_callO1 L 5 1 1 rfl rfl rfl h__law_bad (Nat.le_refl _) (fun _ => rfl) (fun _ _ => rfl) (axe_consA (ex_var L 3 3 rfl rfl rfl) (axe_consA (ex_var L 2 2 rfl rfl rfl) axe_nil))) (fun r8 => (axe_consA (ex_var L 2 2 rfl rfl rfl) axe_nil)))) (fun r9 => (exe_atom ex_bool)) (nomark _)) (fun r12 => ?_) (fun r12 => ?_)
  · 
    exact bs_ret_a (mk := fun x14 => x14) ex_bool (fun _ => rfl) (fun _ => (.no (.no (.no (.no (.no (.no (.no (.no (.no (.no (.no (.no (.no (.no (.no (.no (.no (.no (.no (.no (.no .nil))))))))))))))))))))))
  refine bs_set L 5 5 rfl rfl (ex_ix_aa (ex_var L 3 3 rfl rfl rfl) ex_int (fun _ _ => rfl)) (fun x15 => ?_)
  refine bs_seq (gN' := (fun (s16 : Unit) => [.sc ns, .ow .l none r12.2, .fz p1.1, .fz p1.2.1, .fz p1.2.2, .fz x15, .no, .no, .no, .no, .no, .no, .no, .no, .no, .no, .no, .no, .no, .no, .no])) (ss_for1 (gS := (fun (s16 : Unit) => [.sc ns, .ow .l none r12.2, .fz p1.1, .fz p1.2.1, .fz p1.2.2, .fz x15, .no, .no, .no, .no, .no, .no, .no, .no, .no, .no, .no, .no, .no, .no, .no])) L 6 6 rfl rfl (.same (.same (.same (.same (.same (.same (.no (.no (.no (.no (.no (.no (.no (.no (.no (.no (.no (.no (.no (.no (.no .nil))))))))))))))))))))) (xi_val (ex_op_xa op_addD rs_add ((ex_lc1 (Wb := ["_law_rule"]) (Gb := []) (Sb := ["_law_rule"]) L 7 0 rfl rfl (by decide +kernel) (xi_val_a (ex_var L 5 5 rfl rfl rfl)) (fun _ L28 x30 => (ex_ix_aa (ex_var L28 7 0 rfl rfl rfl) ex_int (fun _ _ => rfl))))).pe (ex_lst (by decide) (ax_consA ex_str ax_nil)))) (fun s16 x17 => ?_)) ?_
  · 
    refine bs_one (ss_if (tx_cmp (op_neZ L.un) rs_ne (ex_call L 6 rfl h_rules_of (Nat.le_refl _) (ax_consA (ex_var L 3 3 rfl rfl rfl) (ax_consA (ex_var L 6 6 rfl rfl rfl) ax_nil))) ((ex_lcI1 (Wb := ["_law_k", "_law_rules", "_law_symbol"]) (Gb := []) (Sb := ["_law_k"]) L 18 0 rfl rfl (by decide +kernel) (xi_rg1 L 7 rfl z_range (ex_callB L 8 rfl z_len PySem.boot_len call_len rs_len (ax_consA (ex_var L 5 5 rfl rfl rfl) ax_nil))) (fun _ L18 x20 => (tx_cmp_xa (op_eqZ L18.un) rs_eq (ex_ix_xa (ex_ix_aa (ex_var L18 5 1 rfl rfl rfl) (ex_var L18 18 0 rfl rfl rfl) (fun _ _ => rfl)) ex_int (fun _ _ => rfl)) (ex_var L18 6 2 rfl rfl rfl) (nomark _))) (fun _ L18 x20 => (ex_var L18 18 0 rfl rfl rfl)))).pe (nomark _)) ?_ ?_)
    · 
      exact bs_ret_a (mk := fun x25 => x25) ex_bool (fun _ => rfl) (fun _ => (.no (.no (.no (.no (.no (.no (.no (.no (.no (.no (.no (.no (.no (.no (.no (.no (.no (.no (.no (.no (.no .nil))))))))))))))))))))))
    · 
      exact bs_nil (.same (.same (.same (.same (.same (.same (.no (.no (.no (.no (.no (.no (.no (.no (.no (.no (.no (.no (.no (.no (.no .nil)))))))))))))))))))))
  intro s32
  refine bs_seq (gN' := (fun (s33 : Unit) => [.sc ns, .ow .l none r12.2, .fz p1.1, .fz p1.2.1, .fz p1.2.2, .fz x15, .no, .no, .no, .no, .no, .no, .no, .no, .no, .no, .no, .no, .no, .no, .no])) (ss_for1 (gS := (fun (s33 : Unit) => [.sc ns, .ow .l none r12.2, .fz p1.1, .fz p1.2.1, .fz p1.2.2, .fz x15, .no, .no, .no, .no, .no, .no, .no, .no, .no, .no, .no, .no, .no, .no, .no])) L 7 7 rfl rfl (.same (.same (.same (.same (.same (.same (.no (.no (.no (.no (.no (.no (.no (.no (.no (.no (.no (.no (.no (.no (.no .nil))))))))))))))))))))) (xi_val_a (ex_var L 5 5 rfl rfl rfl)) (fun s33 x34 => ?_)) ?_
  · 
    refine bs_seq (gN' := (fun (s35 : Unit) => [.sc ns, .ow .l none r12.2, .fz p1.1, .fz p1.2.1, .fz p1.2.2, .fz x15, .no, .fz x34, .no, .no, .no, .no, .no, .no, .no, .no, .no, .no, .no, .no, .no])) (ss_for1 (gS := (fun (s35 : Unit) => [.sc ns, .ow .l none r12.2, .fz p1.1, .fz p1.2.1, .fz p1.2.2, .fz x15, .no, .fz x34, .no, .no, .no, .no, .no, .no, .no, .no, .no, .no, .no, .no, .no])) L 8 8 rfl rfl (.same (.same (.same (.same (.same (.same (.no (.same (.no (.no (.no (.no (.no (.no (.no (.no (.no (.no (.no (.no (.no .nil))))))))))))))))))))) (xi_val (ex_ix_aa (ex_var L 7 7 rfl rfl rfl) ex_int (fun _ _ => rfl))) (fun s35 x36 => ?_)) ?_
    · 
      refine bs_seq (gN' := (fun (s37 : Unit) => [.sc ns, .ow .l none r12.2, .fz p1.1, .fz p1.2.1, .fz p1.2.2, .fz x15, .no, .fz x34, .fz x36, .no, .no, .no, .no, .no, .no, .no, .no, .no, .no, .no, .no])) (ss_for (gS := (fun (s37 : Unit) => [.sc ns, .ow .l none r12.2, .fz p1.1, .fz p1.2.1, .fz p1.2.2, .fz x15, .no, .fz x34, .fz x36, .no, .no, .no, .no, .no, .no, .no, .no, .no, .no, .no, .no])) L (.same (.same (.same (.same (.same (.same (.no (.same (.same (.no (.no (.no (.no (.no (.no (.no (.no (.no (.no (.no (.no .nil))))))))))))))))))))) (xi_val_a (ex_var L 4 4 rfl rfl rfl)) (fun _ => (gx_tup2 L 9 9 10 10 rfl rfl rfl rfl)) (fun s37 x38 => ?_)) ?_
      · 
        refine bs_one (ss_if (tx_w (wx_and (tx_cmp_xa (op_neZ L.un) rs_ne (ex_ix_aa (ex_var L 8 8 rfl rfl rfl) ex_int (fun _ _ => rfl)) ex_str (nomark _)) (wx_and1 (tx_not (tx_val (ex_call L 9 rfl h__law_is (Nat.le_refl _) (ax_cons (ex_call L 10 rfl h_matches (Nat.le_refl _) (ax_consA (ex_var L 8 8 rfl rfl rfl) (ax_consA (ex_var L 9 9 rfl rfl rfl) ax_nil))) (fun x40 => (ax_cons (ex_call L 11 rfl h__law_matches (Nat.le_refl _) (ax_consA (ex_var L 8 8 rfl rfl rfl) (ax_consA (ex_var L 9 9 rfl rfl rfl) ax_nil))) (fun x41 => ax_nil))))) (fun _ => rfl)))))) ?_ ?_)
        · 
          exact bs_ret_a (mk := fun x43 => x43) ex_bool (fun _ => rfl) (fun _ => (.no (.no (.no (.no (.no (.no (.no (.no (.no (.no (.no (.no (.no (.no (.no (.no (.no (.no (.no (.no (.no .nil))))))))))))))))))))))
        · 
          exact bs_nil (.same (.same (.same (.same (.same (.same (.no (.same (.same (.no (.no (.no (.no (.no (.no (.no (.no (.no (.no (.no (.no .nil)))))))))))))))))))))
      intro s47
      exact bs_nil (.same (.same (.same (.same (.same (.same (.no (.same (.no (.no (.no (.no (.no (.no (.no (.no (.no (.no (.no (.no (.no .nil)))))))))))))))))))))
    intro s49
    refine bs_one (ss_if (tx_cmp (op_geZ L.un) rs_ge (ex_callB L 8 rfl z_len PySem.boot_len call_len rs_len (ax_consA (ex_var L 4 4 rfl rfl rfl) ax_nil)) (ex_callB L 8 rfl z_len PySem.boot_len call_len rs_len (ax_cons (ex_ix_aa (ex_var L 7 7 rfl rfl rfl) ex_int (fun _ _ => rfl)) (fun x50 => ax_nil))) (nomark _)) ?_ ?_)
    · 
      refine bs_set L 11 11 rfl rfl (exf_ex (exf_lrg1 L 12 7 rfl z_list rfl z_range (ex_callB L 8 rfl z_len PySem.boot_len call_len rs_len (ax_cons (ex_ix_aa (ex_var L 7 7 rfl rfl rfl) ex_int (fun _ _ => rfl)) (fun x53 => ax_nil))))) (fun x54 => ?_)
      refine bs_seq (gN' := (fun (s55 : Unit) => [.sc ns, .ow .l none r12.2, .fz p1.1, .fz p1.2.1, .fz p1.2.2, .fz x15, .no, .fz x34, .no, .no, .no, .fz x54, .no, .no, .no, .no, .no, .no, .no, .no, .no])) (ss_for1 (gS := (fun (s55 : Unit) => [.sc ns, .ow .l none r12.2, .fz p1.1, .fz p1.2.1, .fz p1.2.2, .fz x15, .no, .fz x34, .no, .no, .no, .fz x54, .no, .no, .no, .no, .no, .no, .no, .no, .no])) L 12 12 rfl rfl (.same (.same (.same (.same (.same (.same (.no (.same (.no (.no (.no (.same (.no (.no (.no (.no (.no (.no (.no (.no (.no .nil))))))))))))))))))))) (xi_val (ex_ix_aa (ex_var L 7 7 rfl rfl rfl) ex_int (fun _ _ => rfl))) (fun s55 x56 => ?_)) ?_
      · 
        refine bs_set L 13 13 rfl rfl (ex_call L 13 rfl h_demand_holds (Nat.le_refl _) (ax_consA (ex_var L 12 12 rfl rfl rfl) (ax_cons ((ex_lc1 (Wb := ["_law_at", "_law_folded_here"]) (Gb := []) (Sb := ["_law_at"]) L 19 0 rfl rfl (by decide +kernel) (xi_val_a (ex_var L 11 11 rfl rfl rfl)) (fun _ L57 x59 => (ex_ix_xa (ex_ix_aa (ex_var L57 4 1 rfl rfl rfl) (ex_var L57 19 0 rfl rfl rfl) (fun _ _ => rfl)) ex_int (fun _ _ => rfl))))).pe (fun x61 => ax_nil)))) (fun x62 => ?_)
        refine bs_one (ss_if (tx_not (tx_val (ex_call L 9 rfl h__law_is (Nat.le_refl _) (ax_consA (ex_var L 13 13 rfl rfl rfl) (ax_cons (ex_call L 14 rfl h__law_demand (Nat.le_refl _) (ax_consA (ex_var L 4 4 rfl rfl rfl) (ax_consA (ex_var L 12 12 rfl rfl rfl) (ax_consA (ex_var L 11 11 rfl rfl rfl) ax_nil)))) (fun x63 => ax_nil)))) (fun _ => rfl))) ?_ ?_)
        · 
          exact bs_ret_a (mk := fun x64 => x64) ex_bool (fun _ => rfl) (fun _ => (.no (.no (.no (.no (.no (.no (.no (.no (.no (.no (.no (.no (.no (.no (.no (.no (.no (.no (.no (.no (.no .nil))))))))))))))))))))))
        · 
          exact bs_nil (.same (.same (.same (.same (.same (.same (.no (.same (.no (.no (.no (.same (.no (.no (.no (.no (.no (.no (.no (.no (.no .nil)))))))))))))))))))))
      intro s67
      exact bs_nil (.same (.same (.same (.same (.same (.same (.no (.no (.no (.no (.no (.no (.no (.no (.no (.no (.no (.no (.no (.no (.no .nil)))))))))))))))))))))
    · 
      exact bs_nil (.same (.same (.same (.same (.same (.same (.no (.no (.no (.no (.no (.no (.no (.no (.no (.no (.no (.no (.no (.no (.no .nil)))))))))))))))))))))
  intro s70
  refine bs_seq (gN' := (fun (s71 : Unit) => [.sc ns, .ow .l none r12.2, .fz p1.1, .fz p1.2.1, .fz p1.2.2, .fz x15, .no, .no, .no, .no, .no, .no, .no, .no, .no, .no, .no, .no, .no, .no, .no])) (ss_for1 (gS := (fun (s71 : Unit) => [.sc ns, .ow .l none r12.2, .fz p1.1, .fz p1.2.1, .fz p1.2.2, .fz x15, .no, .no, .no, .no, .no, .no, .no, .no, .no, .no, .no, .no, .no, .no, .no])) L 14 14 rfl rfl (.same (.same (.same (.same (.same (.same (.no (.no (.no (.no (.no (.no (.no (.no (.no (.no (.no (.no (.no (.no (.no .nil))))))))))))))))))))) (xi_rg1 L 7 rfl z_range (ex_callB L 8 rfl z_len PySem.boot_len call_len rs_len (ax_consA (ex_var L 5 5 rfl rfl rfl) ax_nil))) (fun s71 x72 => ?_)) ?_
  · 
    refine bs_seq (gN' := (fun (s73 : Unit) => [.sc ns, .ow .l none r12.2, .fz p1.1, .fz p1.2.1, .fz p1.2.2, .fz x15, .no, .no, .no, .no, .no, .no, .no, .no, .fz x72, .no, .no, .no, .no, .no, .no])) (ss_for1 (gS := (fun (s73 : Unit) => [.sc ns, .ow .l none r12.2, .fz p1.1, .fz p1.2.1, .fz p1.2.2, .fz x15, .no, .no, .no, .no, .no, .no, .no, .no, .fz x72, .no, .no, .no, .no, .no, .no])) L 15 15 rfl rfl (.same (.same (.same (.same (.same (.same (.no (.no (.no (.no (.no (.no (.no (.no (.same (.no (.no (.no (.no (.no (.no .nil))))))))))))))))))))) (xi_rg1 L 7 rfl z_range (ex_callB L 8 rfl z_len PySem.boot_len call_len rs_len (ax_cons (ex_ix_xa (ex_ix_aa (ex_var L 5 5 rfl rfl rfl) (ex_var L 14 14 rfl rfl rfl) (fun _ _ => rfl)) ex_int (fun _ _ => rfl)) (fun x94 => ax_nil)))) (fun s73 x74 => ?_)) ?_
    · 
      refine bs_seq (gN' := (fun (s75 : Unit) => [.sc ns, .ow .l none r12.2, .fz p1.1, .fz p1.2.1, .fz p1.2.2, .fz x15, .no, .no, .no, .no, .no, .no, .no, .no, .fz x72, .fz x74, .no, .no, .no, .no, .no])) (ss_for1 (gS := (fun (s75 : Unit) => [.sc ns, .ow .l none r12.2, .fz p1.1, .fz p1.2.1, .fz p1.2.2, .fz x15, .no, .no, .no, .no, .no, .no, .no, .no, .fz x72, .fz x74, .no, .no, .no, .no, .no])) L 16 16 rfl rfl (.same (.same (.same (.same (.same (.same (.no (.no (.no (.no (.no (.no (.no (.no (.same (.same (.no (.no (.no (.no (.no .nil))))))))))))))))))))) (xi_rg1 L 7 rfl z_range (ex_callB L 8 rfl z_len PySem.boot_len call_len rs_len (ax_consA (ex_var L 5 5 rfl rfl rfl) ax_nil))) (fun s75 x76 => ?_)) ?_
      · 
        refine bs_setC L 17 rfl (by decide +kernel) (ex_lcI1 (Wb := ["_law_bar", "_law_b", "_law_p", "_law_r"]) (Gb := []) (Sb := ["_law_bar"]) L 20 0 rfl rfl (by decide +kernel) (xi_val (ex_ix_aa (ex_var L 3 3 rfl rfl rfl) ex_int (fun _ _ => rfl))) (fun _ L77 x79 => (tx_cmp_xa (op_eqZ L77.un) rs_eq (ex_sl_an (ex_var L77 20 0 rfl rfl rfl) (xo_some_a ex_int)) (ex_tup (by decide) (ax_consA (ex_var L77 14 3 rfl rfl rfl) (ax_consA (ex_var L77 15 2 rfl rfl rfl) (ax_consA (ex_var L77 16 1 rfl rfl rfl) ax_nil)))) (nomark _))) (fun _ L77 x79 => (ex_ix_aa (ex_var L77 20 0 rfl rfl rfl) ex_int (fun _ _ => rfl)))) (fun x83 => ?_) (swT L (by decide +kernel) (by rfl)).1
        refine bs_one (ss_if (tx_cmp (op_neZ L.un) rs_ne (ex_call L 15 rfl h_barred (Nat.le_refl _) (ax_consA (ex_var L 3 3 rfl rfl rfl) (ax_consA (ex_var L 14 14 rfl rfl rfl) (ax_consA (ex_var L 15 15 rfl rfl rfl) (ax_consA (ex_var L 16 16 rfl rfl rfl) ax_nil))))) (ex_if (tx_cmp_xa (op_gtZ L.un) rs_gt (ex_callB L 8 rfl z_len PySem.boot_len call_len rs_len (ax_consA (ex_var L 17 17 rfl rfl rfl) ax_nil)) ex_int (nomark _)) (ex_ix_aa (ex_var L 17 17 rfl rfl rfl) ex_int (fun _ _ => rfl)) ex_bool) (nomark _)) ?_ ?_)
        · 
          exact bs_ret_a (mk := fun x88 => x88) ex_bool (fun _ => rfl) (fun _ => (.no (.no (.no (.no (.no (.no (.no (.no (.no (.no (.no (.no (.no (.no (.no (.no (.no (.no (.no (.no (.no .nil))))))))))))))))))))))
        · 
          exact bs_nil (.same (.same (.same (.same (.same (.same (.no (.no (.no (.no (.no (.no (.no (.no (.same (.same (.no (.no (.no (.no (.no .nil)))))))))))))))))))))
      intro s91
      exact bs_nil (.same (.same (.same (.same (.same (.same (.no (.no (.no (.no (.no (.no (.no (.no (.same (.no (.no (.no (.no (.no (.no .nil)))))))))))))))))))))
    intro s95
    exact bs_nil (.same (.same (.same (.same (.same (.same (.no (.no (.no (.no (.no (.no (.no (.no (.no (.no (.no (.no (.no (.no (.no .nil)))))))))))))))))))))
  intro s97
  exact bs_ret_a (mk := fun x98 => x98) ex_bool (fun _ => rfl) (fun _ => (.no (.no (.no (.no (.no (.no (.no (.no (.no (.no (.no (.no (.no (.no (.no (.no (.no (.no (.no (.no (.no .nil))))))))))))))))))))))

theorem f_law {E : ME} {kk : Nat} {f : Addr} {fd : FuncData} (F : Fun E.K "law" "law" s_law f fd) (z_len : Free E "len") (z_list : Free E "list") (z_range : Free E "range") (k_MAX_PARTS : GConst E "MAX_PARTS" c_MAX_PARTS) (k_MAX_RULES : GConst E "MAX_RULES" c_MAX_RULES) (h__law_bad : FnM E kk "_law_bad" (CO1 .l (fun t => g2 (m__law_bad t)))) (h__law_demand : FnM E kk "_law_demand" (CP (g3 m__law_demand))) (h__law_is : FnM E kk "_law_is" (CP (g2 m__law_is))) (h__law_matches : FnM E kk "_law_matches" (CP (g2 m__law_matches))) (h__law_world : FnM E kk "_law_world" (CO1 .l (fun t => g1 (m__law_world t)))) (h_barred : FnM E kk "barred" (CP (g4 m_barred))) (h_demand_holds : FnM E kk "demand_holds" (CP (g2 m_demand_holds))) (h_is_grammar : FnM E kk "is_grammar" (CP (g2 m_is_grammar))) (h_matches : FnM E kk "matches" (CP (g2 m_matches))) (h_rules_of : FnM E kk "rules_of" (CP (g2 m_rules_of))) (h__law_tape : FnT E kk "_law_tape") : FnOk E.prog E.w E.K E.mg E.base CX0 (kk + 1) f fd ["_law_script"] (spC E.K (CLw m_law)) :=
  fn_ok (N := ["_law_script", "_law_tape_here", "_law_count", "_law_grammar_here", "_law_folded_here", "_law_rules", "_law_symbol", "_law_rule", "_law_part", "_law_token", "_law_diagram_here", "_law_firsts", "_law_demand_here", "_law_told", "_law_r", "_law_p", "_law_b", "_law_due", "_law_k", "_law_at", "_law_bar"]) (W := ["_law_script", "_law_tape_here", "_law_count", "_law_grammar_here", "_law_folded_here", "_law_rules", "_law_symbol", "_law_rule", "_law_part", "_law_token", "_law_diagram_here", "_law_firsts", "_law_demand_here", "_law_told", "_law_r", "_law_p", "_law_b", "_law_due"]) (G := ["_law_tape", "_law_world", "MAX_PARTS", "MAX_RULES", "is_grammar", "_law_bad", "rules_of", "range", "len", "_law_is", "matches", "_law_matches", "list", "demand_holds", "_law_demand", "barred"]) (Sl := ["_law_script", "_law_tape_here", "_law_count", "_law_grammar_here", "_law_folded_here", "_law_rules", "_law_symbol", "_law_rule", "_law_part", "_law_token", "_law_diagram_here", "_law_firsts", "_law_demand_here", "_law_told", "_law_r", "_law_p", "_law_b", "_law_due"]) F ⟨rfl, rfl, rfl, by decide +kernel, rfl, by decide +kernel, by decide +kernel⟩ (by decide +kernel) (by decide +kernel)
    (fun Γ0 r Γ1 ⟨ns, h1, hl, h2, h3⟩ => by subst h1; rfl)
    fun X L Γ0 r Γ1 ⟨ns, h1, hl, h2, h3⟩ => by
      subst h1 h3
      exact body_of (d := Empty.elim) (b_law L z_len z_list z_range k_MAX_PARTS k_MAX_RULES h__law_bad h__law_demand h__law_is h__law_matches h__law_world h_barred h_demand_holds h_is_grammar h_matches h_rules_of h__law_tape hl) h2 (.no .nil) (fun n => n.elim)

end P
namespace P
open PySem PySem.Spec L2 Z
/-! ## the tape -/
theorem mix_ok {n : Int} {B : Nat} (h : n.natAbs < 2 ^ B) (hB : B ≤ 100000000) : ∃ k : Int, m__law_mix (.int n) = some (.int k) ∧ 0 ≤ k ∧ k < 18446744073709551557 := by
  unfold m__law_mix m__law_mix_b
  rw [pMul_ok h (b := 63) (by decide) (by omega)]
  simp -implicitDefEqProofs only [Option.bind_some, pAdd_int, pInt_int]
  rw [pMod_ok (by decide)]
  simp -implicitDefEqProofs only [Option.bind_some]
  have h1 := Int.emod_nonneg (n * 6364136223846793005 + 1442695040888963407) (show (18446744073709551616 : Int) ≠ 0 by decide)
  have h2 := Int.emod_lt_of_pos (n * 6364136223846793005 + 1442695040888963407) (show (0 : Int) < 18446744073709551616 by decide)
  generalize (n * 6364136223846793005 + 1442695040888963407) % 18446744073709551616 = x at h1 h2 ⊢
  have h3 : x.natAbs < 2 ^ 64 := by omega
  rw [pMul_ok h3 h3 (by decide), pMul_ok h3 (b := 17) (by decide) (by decide)]
  simp -implicitDefEqProofs only [Option.bind_some]
  rw [pFdiv_ok (by decide) (by decide)]
  simp -implicitDefEqProofs only [Option.bind_some, pAdd_int, pInt_int]
  rw [pMod_ok (by decide)]
  exact ⟨_, rfl, Int.emod_nonneg _ (by decide), Int.emod_lt_of_pos _ (by decide)⟩
def TapeOk (C : Nat) (t : D) : Prop := ∃ (ns : List Int) (i : Nat) (v r b : Int), t = .list [.list (ns.map .int), .int i, .int v, .int r, .int b] ∧ (∀ z ∈ ns, z.natAbs < 2 ^ C) ∧ 0 ≤ v ∧ v.natAbs < 2 ^ (C + 2) ∧ 0 ≤ r ∧ r < 18446744073709551557
section
variable (a b c d e x : D)
theorem tp0 : pIdx (.list [a, b, c, d, e]) (.int 0) = some a := rfl
theorem tp1 : pIdx (.list [a, b, c, d, e]) (.int 1) = some b := rfl
theorem tp2 : pIdx (.list [a, b, c, d, e]) (.int 2) = some c := rfl
theorem tp3 : pIdx (.list [a, b, c, d, e]) (.int 3) = some d := rfl
theorem ts1 : pSetI (.list [a, b, c, d, e]) (.int 1) x = some (.list [a, x, c, d, e]) := rfl
theorem ts2 : pSetI (.list [a, b, c, d, e]) (.int 2) x = some (.list [a, b, x, d, e]) := rfl
theorem ts3 : pSetI (.list [a, b, c, d, e]) (.int 3) x = some (.list [a, b, c, x, e]) := rfl
end
theorem pow10 : pPow (.int 10) (.int 18) = some (.int 1000000000000000000) := rfl
theorem take_ok {C : Nat} {t : D} {m : Int} (h : TapeOk C t) (c0 : 64 ≤ C) (c1 : C ≤ 90000000) (h0 : 0 < m) (hm : m < 4611686018427387904) : ∃ k t', m__law_take t (.int m) = some (.int k, t') ∧ 0 ≤ k ∧ k < m ∧ TapeOk C t' := by
  obtain ⟨ns, i, v, r, b, rfl, hn, v0, v1, r0, r1⟩ := h
  have hp : (2 : Nat) ^ (C + 2) = 2 ^ C * 4 := by rw [Nat.pow_add]
  have hp2 : (2 : Nat) ^ (C + 3) = 2 ^ C * 8 := by rw [Nat.pow_add]
  have h64 : 18446744073709551616 ≤ 2 ^ C := Nat.le_trans (by decide : 18446744073709551616 ≤ 2 ^ 64) (Nat.pow_le_pow_right (by decide) c0)
  have hl : m.natAbs.log2 < 9000 := by
    have : m.natAbs < 2 ^ 62 := by omega
    by_cases hz : m.natAbs = 0
    · rw [hz]; decide
    · have := (Nat.log2_lt hz).mpr this
      omega
  unfold m__law_take m__law_take_b
  -- what stands behind the refill
  have fin : ∀ (i' : Nat) (v' r' : Int), 0 ≤ v' → v'.natAbs < 2 ^ (C + 2) → 0 ≤ r' → r' < 18446744073709551557 → ∃ k t', Ctl.fin Empty.elim (Ctl.seq (some (.nx (.list [.list (ns.map .int), .int i', .int v', .int r', .int b])) : Option (Ctl D Empty (D × D))) fun (n2 : D) => (((pIdx n2 (.int 2)).bind fun x36 => pInt x36).bind fun x37 => pMod x37 (.int m)).bind fun x38 => ((pIdx n2 (.int 2)).bind fun x39 => pFdiv x39 (.int m)).bind fun y40 => (some (.int 2)).bind fun z41 => (pSetI n2 z41 y40).bind fun w42 => (some (.rt (x38, w42)) : Option (Ctl Empty Empty (D × D)))) = some (.int k, t') ∧ 0 ≤ k ∧ k < m ∧ TapeOk C t' := by
    intro i' v' r' q0 q1 q2 q3
    simp -implicitDefEqProofs only [Ctl.seq, Option.bind_some, tp2, pInt_int]
    rw [pMod_ok h0, pFdiv_ok h0 hl]
    simp -implicitDefEqProofs only [Option.bind_some, ts2, Ctl.fin]
    refine ⟨_, _, rfl, Int.emod_nonneg _ (by omega), Int.emod_lt_of_pos _ h0, ns, i', _, r', b, rfl, hn, Int.ediv_nonneg q0 (by omega), ?_, q2, q3⟩
    have := Int.ediv_le_self m q0
    have := Int.ediv_nonneg q0 (show 0 ≤ m by omega)
    omega
  simp -implicitDefEqProofs only [tp0, tp1, tp2, Option.bind_some, pLt_int, dBool_bool, pLen_l, List.length_map, decide_eq_true_eq]
  by_cases hv : v < m
  · rw [if_pos hv]
    by_cases hi : (i : Int) < ns.length
    · rw [if_pos hi]
      have hi' : i < ns.length := by omega
      have hx : pIdx (.list (ns.map .int)) (.int i) = some (.int ns[i]) := pIdx_l (by omega) (by simp [hi'])
      have hz := hn ns[i] (List.getElem_mem hi')
      rw [hx]
      generalize ns[i] = z at hz
      simp -implicitDefEqProofs only [Option.bind_some, pGe_int, dBool_bool]
      have hcell : ∃ c : Int, (if (!decide (z < 0)) = true then pMul (.int 2) (.int z) else (pMul (.int (-2)) (.int z)).bind fun x9 => pSub x9 (.int 1)) = some (.int c) ∧ 0 ≤ c ∧ c.natAbs < 2 ^ (C + 2) := by
        rw [pMul_ok (i := 2) (a := 2) (by decide) hz (by omega), pMul_ok (i := -2) (a := 2) (by decide) hz (by omega)]
        by_cases hz0 : z < 0
        · simp -implicitDefEqProofs only [hz0, decide_true, Bool.not_true, Bool.false_eq_true, if_false, Option.bind_some, pSub_int]
          exact ⟨_, rfl, by omega, by rw [hp]; generalize 2 ^ C = P at *; omega⟩
        · simp -implicitDefEqProofs only [hz0, decide_false, Bool.not_false, if_true]
          exact ⟨_, rfl, by omega, by rw [hp]; generalize 2 ^ C = P at *; omega⟩
      obtain ⟨c, e1, c2, c3⟩ := hcell
      rw [e1]
      simp -implicitDefEqProofs only [Option.bind_some, pAdd_int, ts1, tp3, pow10, pGe_int, dBool_bool]
      have hs : (r + c).natAbs < 2 ^ (C + 3) := by rw [hp2]; rw [hp] at c3; generalize 2 ^ C = P at *; omega
      obtain ⟨k1, e2, k10, k11⟩ := mix_ok hs (by omega)
      rw [e2]
      simp -implicitDefEqProofs only [Option.bind_some, ts3]
      have hcell2 : ∃ c' : Int, (if (!decide (c < 1000000000000000000)) = true then some (.int c) else (m__law_mix (.int c)).bind fun x22 => m__law_mix x22) = some (PyData.int c') ∧ 0 ≤ c' ∧ c'.natAbs < 2 ^ (C + 2) := by
        split
        · exact ⟨c, rfl, c2, c3⟩
        · obtain ⟨k2, e3, k20, k21⟩ := mix_ok c3 (by omega)
          rw [e3]
          obtain ⟨k3, e4, k30, k31⟩ := mix_ok (n := k2) (B := 64) (by omega) (by omega)
          simp -implicitDefEqProofs only [Option.bind_some]
          exact ⟨k3, e4, k30, by rw [hp]; generalize 2 ^ C = P at *; omega⟩
      obtain ⟨c', e5, c4, c5⟩ := hcell2
      rw [e5]
      simp -implicitDefEqProofs only [Option.bind_some, ts2]
      exact fin (i + 1) c' k1 c4 c5 k10 k11
    · rw [if_neg hi]
      simp -implicitDefEqProofs only [tp3, Option.bind_some, pAdd_int]
      obtain ⟨k1, e2, k10, k11⟩ := mix_ok (n := r + 1) (B := 65) (by omega) (by omega)
      rw [e2]
      simp -implicitDefEqProofs only [Option.bind_some, ts3, tp3, ts2]
      exact fin i k1 k1 k10 (by rw [hp]; generalize 2 ^ C = P at *; omega) k10 k11
  · rw [if_neg hv]
    exact fin i v r v0 v1 r0 r1
/-- a tape, whatever its bound is -/
def TO (t : D) : Prop := ∃ C, 64 ≤ C ∧ C ≤ 90000000 ∧ TapeOk C t
theorem tk {t : D} (m : Int) (h : TO t) (h0 : 0 < m := by decide) (hm : m < 4611686018427387904 := by decide) : ∃ (k : Nat) (t' : D), m__law_take t (.int m) = some (.int (k : Int), t') ∧ (k : Int) < m ∧ TO t' := by
  obtain ⟨C, c0, c1, h⟩ := h
  obtain ⟨k, t', e, k0, k1, h'⟩ := take_ok h c0 c1 h0 hm
  exact ⟨k.toNat, t', by rw [e, Int.toNat_of_nonneg k0], by omega, C, c0, c1, h'⟩
theorem tape_to {ns : List Int} (hb : ∀ z ∈ ns, Builtin.Int.intBits z ≤ 1048576) : TO (tape0 ns 0) := by
  refine ⟨1048576, by decide, by decide, ns, 0, 0, 1, 0, rfl, fun z hz => bits_lt (hb z hz), Int.le_refl 0, ?_, by decide, by decide⟩
  rw [Int.natAbs_zero]
  exact Nat.two_pow_pos _
end P
namespace P
open PySem PySem.Spec L2 Z
/-! ## symbols -/
/-- a sign of a text -/
theorem pick_s {s : Str} {k n : Nat} (hl : s.length = n) (hn : n ≤ 1000) (hk : k < n) : ∃ c, pIdx (.str s) (.int (k : Int)) = some (.str (Z.st [c])) ∧ c ∈ s.cps.toList := by
  have hk' : k < s.cps.toList.length := by rw [Array.length_toList]; show k < s.length; omega
  exact ⟨s.cps.toList[k], pIdx_s (by omega) (List.getElem?_eq_getElem hk'), List.getElem_mem hk'⟩
def raw (l : List Nat) : Prop := ∃ c r, l = c :: r ∧ 65 ≤ c ∧ c ≤ 90 ∧ ∀ x ∈ r, x ∈ [97, 98, 99, 100, 101, 102, 103, 88, 89, 90]
theorem raw_in {l : List Nat} (h : raw l) : SymOk (Z.st l) ∨ l.length > 6 := by
  obtain ⟨c, r, rfl, h1, h2, h3⟩ := h
  by_cases q : r.length ≤ 5
  · exact .inl ⟨c, r, rfl, h1, h2, fun x hx => by have := h3 x hx; simp [inSym] at this ⊢; omega, q⟩
  · exact .inr (by simp; omega)
/-- turns of the inner loop: a sign more each time -/
theorem sym_more {F : D → D × D → Option (Ctl (D × D) (D × D) (D × D))} (hF : ∀ x l t, raw l → l.length ≤ 5 → TO t → ∃ l' t', F x (.str (Z.st l), t) = some (.nx (.str (Z.st l'), t')) ∧ raw l' ∧ l'.length = l.length + 1 ∧ TO t') :
    ∀ (xs : List D) (l : List Nat) (t : D), raw l → l.length + xs.length ≤ 4 → TO t → ∃ l' t', (forC F xs (.str (Z.st l), t) : Option (Ctl (D × D) (D × D) (D × D))) = some (.nx (.str (Z.st l'), t')) ∧ raw l' ∧ l'.length ≤ 4 ∧ TO t'
  | [], l, t, h, hl, ht => ⟨l, t, rfl, h, by simpa using hl, ht⟩
  | x :: xs, l, t, h, hl, ht => by
    simp only [List.length_cons] at hl
    obtain ⟨l1, t1, e1, h1, n1, ht1⟩ := hF x l t h (by omega) ht
    obtain ⟨l2, t2, e2, h2, n2, ht2⟩ := sym_more hF xs l1 t1 h1 (by omega) ht1
    refine ⟨l2, t2, ?_, h2, n2, ht2⟩
    rw [forC, e1]
    exact e2
def xyzw : List Nat := [120, 121, 122, 119]
/-- the list of symbols, while it grows -/
structure Syms (ls : List (List Nat)) : Prop where
  nd : ls.Nodup
  ok : ∀ i l, ls[i]? = some l → (raw l ∧ l.length ≤ 5) ∨ ∃ q c, l = q ++ [c, 98] ∧ raw q ∧ q.length ≤ 4 ∧ xyzw[i]? = some c ∧ 0 < i
  hd : ∀ l, ls[0]? = some l → l.length ≤ 4
theorem raw_no {l : List Nat} (h : raw l) {c : Nat} (hc : c ∈ xyzw) : c ∉ l := by
  obtain ⟨a, r, rfl, h1, h2, h3⟩ := h
  intro hm
  rcases List.mem_cons.mp hm with e | hm
  · subst e; simp [xyzw] at hc; omega
  · have := h3 c hm
    simp [xyzw] at hc this
    omega
theorem raw_take {l : List Nat} (h : raw l) (k : Nat) : raw (l.take (k + 1)) := by
  obtain ⟨a, r, rfl, h1, h2, h3⟩ := h
  exact ⟨a, r.take k, rfl, h1, h2, fun x hx => h3 x (List.mem_of_mem_take hx)⟩
theorem raw_app {l : List Nat} (h : raw l) {c : Nat} (hc : c ∈ [97, 98, 99, 100, 101, 102, 103, 88, 89, 90]) : raw (l ++ [c]) := by
  obtain ⟨a, r, rfl, h1, h2, h3⟩ := h
  refine ⟨a, r ++ [c], rfl, h1, h2, fun x hx => ?_⟩
  rcases List.mem_append.mp hx with hx | hx
  · exact h3 x hx
  · rw [List.mem_singleton.mp hx]; exact hc
theorem syms_add1 {ls : List (List Nat)} {l : List Nat} (h : Syms ls) (hr : raw l) (hl : l.length ≤ 5) (h0 : ls = [] → l.length ≤ 4) (hn : l ∉ ls) : Syms (ls ++ [l]) := by
  refine ⟨?_, fun i m hm => ?_, fun m hm => ?_⟩
  · rw [List.nodup_append]
    exact ⟨h.nd, by simp, fun a ha b hb => by rw [List.mem_singleton.mp hb]; exact fun e => hn (e ▸ ha)⟩
  · by_cases q : i < ls.length
    · rw [List.getElem?_append_left q] at hm; exact h.ok i m hm
    · rw [List.getElem?_append_right (by omega)] at hm
      cases hh : i - ls.length with
      | zero => rw [hh] at hm; simp at hm; subst hm; exact .inl ⟨hr, hl⟩
      | succ j => rw [hh] at hm; simp at hm
  · cases ls with
    | nil => simp at hm; subst hm; exact h0 rfl
    | cons a r => simp at hm; subst hm; exact h.hd _ rfl
theorem syms_add2 {ls : List (List Nat)} {l : List Nat} {c : Nat} (h : Syms ls) (hr : raw l) (h0 : 0 < ls.length) (hc : xyzw[ls.length]? = some c) : Syms (ls ++ [l.take 4 ++ [c, 98]]) := by
  have cx : c ∈ xyzw := List.mem_of_getElem? hc
  refine ⟨?_, fun i m hm => ?_, fun m hm => ?_⟩
  · rw [List.nodup_append]
    refine ⟨h.nd, by simp, fun a ha b hb => ?_⟩
    rw [List.mem_singleton.mp hb]
    intro e
    obtain ⟨i, hi⟩ := List.mem_iff_getElem?.mp ha
    rcases h.ok i a hi with ⟨hra, _⟩ | ⟨q, c', e', hq, _, hc', _⟩
    · exact raw_no hra cx (by rw [e]; simp)
    · have : c ∈ a := by rw [e]; simp
      rw [e'] at this
      rcases List.mem_append.mp this with t | t
      · exact raw_no hq cx t
      · simp only [List.mem_cons, List.not_mem_nil, or_false] at t
        rcases t with t | t
        · subst t
          have hi' : i < ls.length := (List.getElem?_eq_some_iff.mp hi).1
          have l4 : ls.length < 4 := (List.getElem?_eq_some_iff.mp hc).1
          have : i = ls.length := by
            have h1 : i = 0 ∨ i = 1 ∨ i = 2 ∨ i = 3 := by omega
            have h2 : ls.length = 0 ∨ ls.length = 1 ∨ ls.length = 2 ∨ ls.length = 3 := by omega
            rcases h1 with h1 | h1 | h1 | h1 <;> rcases h2 with h2 | h2 | h2 | h2 <;> rw [h1] at hc' <;> rw [h2] at hc <;> simp [xyzw] at hc hc' <;> omega
          omega
        · subst t; simp [xyzw] at cx
  · by_cases q : i < ls.length
    · rw [List.getElem?_append_left q] at hm; exact h.ok i m hm
    · rw [List.getElem?_append_right (by omega)] at hm
      cases hh : i - ls.length with
      | zero =>
        rw [hh] at hm; simp at hm; subst hm
        have : i = ls.length := by omega
        subst this
        exact .inr ⟨l.take 4, c, rfl, raw_take hr 3, by simp; omega, hc, h0⟩
      | succ j => rw [hh] at hm; simp at hm
  · cases ls with
    | nil => simp at h0
    | cons a r => simp at hm; subst hm; exact h.hd _ rfl
theorem syms_ok {ls : List (List Nat)} (h : Syms ls) : ∀ l ∈ ls, SymOk (Z.st l) := by
  intro l hl
  obtain ⟨i, hi⟩ := List.mem_iff_getElem?.mp hl
  rcases h.ok i l hi with ⟨hr, h5⟩ | ⟨q, c, rfl, hq, h4, hc, _⟩
  · rcases raw_in hr with h | h
    · exact h
    · omega
  · obtain ⟨a, r, rfl, h1, h2, h3⟩ := hq
    refine ⟨a, r ++ [c, 98], rfl, h1, h2, fun x hx => ?_, by simp at h4 ⊢; omega⟩
    have cx : c ∈ xyzw := List.mem_of_getElem? hc
    rcases List.mem_append.mp hx with hx | hx
    · have := h3 x hx; simp [inSym] at this ⊢; omega
    · simp only [List.mem_cons, List.not_mem_nil, or_false] at hx
      rcases hx with rfl | rfl
      · simp [xyzw] at cx; simp [inSym]; omega
      · simp [inSym]
def dStr (l : List Nat) : D := .str (Z.st l)
instance : Enc (List Nat) := ⟨dStr, fun a b => by rw [dStr, dStr, dEqv_str, decide_eq_true_eq, st_inj]⟩
theorem symbols_ok {t : D} (h : TO t) {m : Int} (m0 : 1 ≤ m) (m4 : m ≤ 4) : ∃ (ss : List Str) (t' : D), m__law_symbols t (.int m) = some (.list (ss.map .str), t') ∧ (ss.length : Int) = m ∧ ss.Nodup ∧ (∀ s ∈ ss, SymOk s) ∧ TO t' := by
  obtain ⟨n, rfl⟩ := Int.eq_ofNat_of_zero_le (show 0 ≤ m by omega)
  have hn : n ≤ 4 := by omega
  unfold m__law_symbols m__law_symbols_b
  rw [pRg_nat (show n ≤ 100000 by omega)]
  simp -implicitDefEqProofs only [Option.bind_some]
  generalize hst : (fun (x2 : D) (s1 : D × D) => _ : D → D × D → Option (Ctl (D × D) (D × D) (D × D))) = F
  obtain ⟨s', e, ls, t', rfl, hl, hs, ht⟩ := forC_rinv (F := F) (L := Empty) (enc := fun i : Nat => PyData.int (i : Int)) (n := n)
    (I := fun i s => ∃ (ls : List (List Nat)) (t : D), s = (.list (ls.map dStr), t) ∧ ls.length = i ∧ Syms ls ∧ TO t) (s := (.list [], t))
    ⟨[], t, rfl, rfl, ⟨by simp, by simp, by simp⟩, h⟩
    (fun i s hi ⟨ls, t, es, hl, hs, ht⟩ => by
      subst es
      subst hst
      obtain ⟨k1, t1, e1, b1, h1⟩ := tk 26 ht
      obtain ⟨c, ec, mc⟩ := pick_s (s := Str.ofString "ABCDEFGHIJKLMNOPQRSTUVWXYZ") (k := k1) (n := 26) (by decide) (by decide) (by omega)
      have hc : 65 ≤ c ∧ c ≤ 90 := by
        have : ∀ x ∈ (Str.ofString "ABCDEFGHIJKLMNOPQRSTUVWXYZ").cps.toList, 65 ≤ x ∧ x ≤ 90 := by decide +kernel
        exact this c mc
      obtain ⟨k2, t2, e2, b2, h2⟩ := tk 4 h1
      simp -implicitDefEqProofs only [e1, Option.bind_some, ec, Option.map_some, e2, pRg_nat (show k2 ≤ 100000 by omega)]
      generalize hst2 : (fun (x8 : D) (s7 : D × D) => _ : D → D × D → Option (Ctl (D × D) (D × D) (D × D))) = F2
      obtain ⟨l3, t3, e3, r3, n3, h3⟩ := sym_more (F := F2) (fun x l t hr hl ht => by
        subst hst2
        obtain ⟨k, t', e, b, h'⟩ := tk 10 ht
        obtain ⟨c, ec, mc⟩ := pick_s (s := Str.ofString "abcdefgXYZ") (k := k) (n := 10) (by decide) (by decide) (by omega)
        refine ⟨l ++ [c], t', ?_, raw_app hr ?_, by simp, h'⟩
        · simp -implicitDefEqProofs only [Option.bind_some, e, S, ec, Option.map_some]
          rw [pAdd_st (by simp; omega)]
          rfl
        · have : ∀ x ∈ (Str.ofString "abcdefgXYZ").cps.toList, x ∈ [97, 98, 99, 100, 101, 102, 103, 88, 89, 90] := by decide +kernel
          exact this c mc) ((List.range k2).map fun i : Nat => PyData.int (i : Int)) [c] t2 ⟨c, [], rfl, hc.1, hc.2, by simp⟩ (by simp; omega) h2
      rw [e3]
      simp -implicitDefEqProofs only [Ctl.seq_nx, pGt_int, Option.bind_some, dBool_bool, Option.map_some]
      have hq : ∀ l4 t4, raw l4 → l4.length ≤ 5 → (i = 0 → l4.length ≤ 4) → TO t4 → ∃ s', Ctl.seq (((pIn (dStr l4) (.list (ls.map dStr))).bind dBool).bind fun k52 => if k52 = true then ((((pOpt (.int 4)).bind fun h46 => pSl (dStr l4) none h46).bind fun x47 => (pIdx (S "xyzw") (.int (i : Int))).bind fun y48 => pAdd x47 y48).bind fun x49 => pAdd x49 (S "b")).bind fun x50 => some (.nx x50) else some (.nx (dStr l4)) : Option (Ctl D (D × D) (D × D))) (fun (n44 : D) => (pApp (.list (ls.map dStr)) n44).bind fun z51 => some (.nx (z51, t4) : Ctl (D × D) (D × D) (D × D))) = some (.nx s') ∧ ∃ (ls' : List (List Nat)) (t : D), s' = (.list (ls'.map dStr), t) ∧ ls'.length = i + 1 ∧ Syms ls' ∧ TO t := by
        intro l4 t4 r4 n4 z4 h4
        have e5 : pIn (dStr l4) (.list (ls.map dStr)) = some (.bool (decide (l4 ∈ ls))) := (pIn_l (a := l4) (xs := ls) (by show (dStr l4).depth ≤ 100; simp [dStr, PyData.depth])).trans (by congr)
        rw [e5]
        simp -implicitDefEqProofs only [Option.bind_some, dBool_bool, decide_eq_true_eq]
        by_cases hm : l4 ∈ ls
        · rw [if_pos hm]
          have hi0 : 0 < ls.length := List.length_pos_of_mem hm
          have h4x : (Str.ofString "xyzw") = Z.st xyzw := by decide +kernel
          have hb : (S "b") = .str (Z.st [98]) := congrArg PyData.str (show Str.ofString "b" = Z.st [98] by decide +kernel)
          obtain ⟨c, hc⟩ : ∃ c, xyzw[i]? = some c := ⟨_, List.getElem?_eq_getElem (show i < xyzw.length by show i < 4; omega)⟩
          have e6 : pIdx (S "xyzw") (.int (i : Int)) = some (.str (Z.st [c])) := by
            rw [S, h4x]; exact pIdx_s (by decide) hc
          simp -implicitDefEqProofs only [pOpt_int, Option.bind_some, dStr]
          rw [show (some 4 : Option Int) = some ((4 : Nat) : Int) from rfl, pSl_st (by omega)]
          simp -implicitDefEqProofs only [e6, Option.bind_some]
          rw [pAdd_st (by simp; omega)]
          simp -implicitDefEqProofs only [Option.bind_some, hb]
          rw [pAdd_st (by simp; omega)]
          simp -implicitDefEqProofs only [Option.bind_some, Ctl.seq_nx]
          rw [pApp_l (by simp; omega)]
          refine ⟨_, rfl, ls ++ [l4.take 4 ++ [c, 98]], t4, ?_, by simp [hl], syms_add2 hs r4 hi0 (by rw [hl]; exact hc), h4⟩
          simp [dStr]
        · rw [if_neg hm]
          simp -implicitDefEqProofs only [Option.bind_some, Ctl.seq_nx]
          rw [pApp_l (by simp; omega)]
          exact ⟨_, rfl, ls ++ [l4], t4, by simp [dStr], by simp [hl], syms_add1 hs r4 n4 (fun e => z4 (by rw [← hl, e]; rfl)) hm, h4⟩
      by_cases hi0 : 0 < (i : Int)
      · rw [decide_eq_true hi0]
        simp -implicitDefEqProofs only [if_true]
        obtain ⟨k4, t4, e4, b4, h4⟩ := tk 6 h3
        simp -implicitDefEqProofs only [e4, Option.bind_some, pEq_int, dBool_bool, Option.map_some]
        by_cases hk : (k4 : Int) = 0
        · rw [decide_eq_true hk]
          simp -implicitDefEqProofs only [if_true]
          obtain ⟨k5, t5, e5, b5, h5⟩ := tk 3 h4
          obtain ⟨c5, ec5, mc5⟩ := pick_s (s := Str.ofString "aXg") (k := k5) (n := 3) (by decide) (by decide) (by omega)
          have hc5 : c5 ∈ [97, 98, 99, 100, 101, 102, 103, 88, 89, 90] := by
            have : ∀ x ∈ (Str.ofString "aXg").cps.toList, x ∈ [97, 98, 99, 100, 101, 102, 103, 88, 89, 90] := by decide +kernel
            exact this c5 mc5
          cases ls with
          | nil => simp at hl; omega
          | cons l0 lr =>
            have n0 := hs.hd l0 rfl
            have e6 : pIdx (.list ((l0 :: lr).map dStr)) (.int 0) = some (dStr l0) := pIdx_ln (k := 0) rfl
            have r0 : raw l0 := by
              rcases hs.ok 0 l0 rfl with h | ⟨_, _, _, _, _, _, h⟩
              · exact h.1
              · omega
            simp -implicitDefEqProofs only [e5, Option.bind_some, e6, pOpt_int, dStr]
            rw [show (some 4 : Option Int) = some ((4 : Nat) : Int) from rfl, pSl_st (by omega)]
            simp -implicitDefEqProofs only [Option.map_some, Option.bind_some, S, e5, ec5]
            rw [pAdd_st (by simp; omega)]
            simp -implicitDefEqProofs only [Option.map_some, Option.bind_some, Ctl.seq_nx]
            exact hq (l0.take 4 ++ [c5]) t5 (raw_app (raw_take r0 3) hc5) (by simp; omega) (fun e => by omega) h5
        · rw [decide_eq_false hk]
          simp -implicitDefEqProofs only [if_false, Bool.false_eq_true, Ctl.seq_nx]
          exact hq l3 t4 r3 (by omega) (fun _ => n3) h4
      · rw [decide_eq_false hi0]
        simp -implicitDefEqProofs only [if_false, Bool.false_eq_true, Option.bind_some, Ctl.seq_nx]
        exact hq l3 t3 r3 (by omega) (fun _ => n3) h3)
  rw [e]
  simp -implicitDefEqProofs only [Ctl.seq_nx, Ctl.fin_rt]
  refine ⟨ls.map Z.st, t', ?_, by simp [hl], ?_, ?_, ht⟩
  · simp [dStr]
  · rw [List.Nodup, List.pairwise_map]
    exact hs.nd.imp fun h e => h (st_inj.mp e)
  · intro s hs'
    obtain ⟨l, hl, rfl⟩ := List.mem_map.mp hs'
    exact syms_ok hs l hl
end P
namespace P
open PySem PySem.Spec L2 Z
/-! ## one of a list -/
theorem pick {A : Type} {xs : List A} {enc : A → D} {k : Nat} (h : k < xs.length) : ∃ a, xs[k]? = some a ∧ pIdx (.list (xs.map enc)) (.int (k : Int)) = some (enc a) ∧ a ∈ xs :=
  ⟨xs[k], List.getElem?_eq_getElem h, pIdx_ln (by rw [List.getElem?_map, List.getElem?_eq_getElem h]; rfl), List.getElem_mem h⟩
theorem pickT {A : Type} {xs : List A} {enc : A → D} {k : Nat} (h : k < xs.length) : ∃ a, xs[k]? = some a ∧ pIdx (.tuple (xs.map enc)) (.int (k : Int)) = some (enc a) ∧ a ∈ xs :=
  ⟨xs[k], List.getElem?_eq_getElem h, pIdx_tn (by rw [List.getElem?_map, List.getElem?_eq_getElem h]; rfl), List.getElem_mem h⟩
theorem tkl {t : D} (n : Nat) (h : TO t) (h0 : 0 < n) (hm : n ≤ 100000) : ∃ (k : Nat) (t' : D), m__law_take t (.int (n : Int)) = some (.int (k : Int), t') ∧ k < n ∧ TO t' := by
  obtain ⟨k, t', e, b, h'⟩ := tk (n : Int) h (by omega) (by omega)
  exact ⟨k, t', e, by omega, h'⟩
/-- drawn of a list -/
theorem draw {A : Type} {xs : List A} {enc : A → D} {t : D} (h : TO t) (h0 : 0 < xs.length) (hm : xs.length ≤ 100000) : ∃ (k : Nat) (a : A) (t' : D), m__law_take t (.int (xs.length : Int)) = some (.int (k : Int), t') ∧ k < xs.length ∧ xs[k]? = some a ∧ pIdx (.list (xs.map enc)) (.int (k : Int)) = some (enc a) ∧ a ∈ xs ∧ TO t' := by
  obtain ⟨k, t', e, b, h'⟩ := tkl xs.length h h0 hm
  obtain ⟨a, h1, h2, h3⟩ := pick (enc := enc) b
  exact ⟨k, a, t', e, b, h1, h2, h3, h'⟩
/-! ## diagrams -/
theorem switch_dg {t : D} {n : Nat} (h : TO t) (n0 : 1 ≤ n) (n5 : n ≤ 5) : ∃ (x : Dg) (t' : D), m__law_switch_diagram t (.int (n : Int)) = some (x.d, t') ∧ DgOk n x ∧ TO t' := by
  obtain ⟨k1, t1, e1, b1, h1⟩ := tkl n h (by omega) (by omega)
  obtain ⟨k2, t2, e2, b2, h2⟩ := tk 6 h1
  have one : ∀ a b : Bool, a ≠ b → DgOk n (.node k1 (.leaf a) (.leaf b)) := fun a b hab => by
    refine ⟨?_, by simp⟩
    simp only [Dg.wf, Bool.and_true, Bool.and_eq_true, decide_eq_true_eq, Bool.not_eq_true', decide_eq_false_iff_not]
    exact ⟨⟨by omega, by omega⟩, by simp [hab]⟩
  have two : 1 < n → DgOk n (.node 0 (.node 1 (.leaf false) (.leaf true)) (.leaf true)) := fun hn => by
    refine ⟨?_, by simp⟩
    simp only [Dg.wf, Bool.and_true, Bool.and_eq_true, decide_eq_true_eq, Bool.not_eq_true', decide_eq_false_iff_not]
    refine ⟨⟨⟨by omega, by omega⟩, ⟨⟨by omega, by omega⟩, by simp⟩⟩, by simp⟩
  have three : 1 < n → DgOk n (.node 0 (.leaf false) (.node (n - 1) (.leaf true) (.leaf false))) := fun hn => by
    refine ⟨?_, by simp⟩
    simp only [Dg.wf, Bool.and_true, Bool.and_eq_true, decide_eq_true_eq, Bool.not_eq_true', decide_eq_false_iff_not]
    refine ⟨⟨⟨by omega, by omega⟩, ⟨⟨by omega, by omega⟩, by simp⟩⟩, by simp⟩
  unfold m__law_switch_diagram m__law_switch_diagram_b
  simp -implicitDefEqProofs only [e1, e2, Option.bind_some, pEq_int, dBool_bool, pGt_int, pLt_int, pSub_int]
  by_cases hn : 1 < (n : Int)
  · rw [decide_eq_true hn]
    by_cases q4 : (k2 : Int) = 4
    · rw [decide_eq_true q4]
      exact ⟨_, t2, rfl, two (by omega), h2⟩
    · rw [decide_eq_false q4]
      by_cases q5 : (k2 : Int) = 5
      · rw [decide_eq_true q5]
        have en : (n : Int) - 1 = ((n - 1 : Nat) : Int) := by omega
        rw [en]
        exact ⟨_, t2, rfl, three (by omega), h2⟩
      · rw [decide_eq_false q5]
        by_cases q2 : (k2 : Int) < 2
        · rw [decide_eq_true q2]
          exact ⟨_, t2, rfl, one false true (by simp), h2⟩
        · rw [decide_eq_false q2]
          exact ⟨_, t2, rfl, one true false (by simp), h2⟩
  · rw [decide_eq_false hn]
    by_cases q4 : (k2 : Int) = 4
    · rw [decide_eq_true q4, decide_eq_false (show ¬ (k2 : Int) = 5 by omega), decide_eq_false (show ¬ (k2 : Int) < 2 by omega)]
      exact ⟨_, t2, rfl, one true false (by simp), h2⟩
    · rw [decide_eq_false q4]
      by_cases q5 : (k2 : Int) = 5
      · rw [decide_eq_true q5, decide_eq_false (show ¬ (k2 : Int) < 2 by omega)]
        exact ⟨_, t2, rfl, one true false (by simp), h2⟩
      · rw [decide_eq_false q5]
        by_cases q2 : (k2 : Int) < 2
        · rw [decide_eq_true q2]
          exact ⟨_, t2, rfl, one false true (by simp), h2⟩
        · rw [decide_eq_false q2]
          exact ⟨_, t2, rfl, one true false (by simp), h2⟩
theorem dg_true (n : Nat) : DgOk n (.leaf true) := ⟨rfl, by simp⟩
theorem diagram_dg {t : D} {n : Nat} (h : TO t) (n0 : 1 ≤ n) (n5 : n ≤ 5) : ∃ (x : Dg) (t' : D), m__law_diagram t (.int (n : Int)) = some (x.d, t') ∧ DgOk n x ∧ TO t' := by
  obtain ⟨k1, t1, e1, b1, h1⟩ := tk 3 h
  unfold m__law_diagram m__law_diagram_b
  simp -implicitDefEqProofs only [e1, Option.bind_some, pGt_int, dBool_bool, Option.map_some]
  by_cases q : (0 : Int) < k1
  · rw [decide_eq_true q]
    exact ⟨.leaf true, t1, rfl, dg_true n, h1⟩
  · rw [decide_eq_false q]
    obtain ⟨x, t2, e2, o2, h2⟩ := switch_dg h1 n0 n5
    simp -implicitDefEqProofs only [Bool.false_eq_true, if_false, e2, Option.bind_some, Ctl.fin_rt]
    exact ⟨x, t2, rfl, o2, h2⟩
/-! ## right sides -/
theorem base_ok {t : D} (h : TO t) (ss : List Str) : ∃ (p : Part) (t' : D), m__law_base t = some (.tuple [p.d], t') ∧ p.isSym = false ∧ p.ok ss ∧ TO t' := by
  obtain ⟨k, t1, e1, b1, h1⟩ := tk 5 h
  have hk : k = 0 ∨ k = 1 ∨ k = 2 ∨ k = 3 ∨ k = 4 := by omega
  have hx : ∃ p : Part, pIdx (.list [(.tuple [(.tuple [(S "kind"), (S "number")])]), (.tuple [(.tuple [(S "kind"), (S "word")])]), (.tuple [(.tuple [(S "text"), (S "a")])]), (.tuple [(.tuple [(S "text"), (S "word")])]), (.tuple [(.tuple [(S "kind"), (S "number")])])]) (.int (k : Int)) = some (.tuple [p.d]) ∧ p.isSym = false ∧ p.ok ss := by
    rcases hk with rfl | rfl | rfl | rfl | rfl
    · exact ⟨.num, rfl, rfl, trivial⟩
    · exact ⟨.wrd, rfl, rfl, trivial⟩
    · exact ⟨.txt (Str.ofString "a"), rfl, rfl, .inl (by simp [texts])⟩
    · exact ⟨.txt (Str.ofString "word"), rfl, rfl, .inl (by simp [texts])⟩
    · exact ⟨.num, rfl, rfl, trivial⟩
  obtain ⟨p, hp, q1, q2⟩ := hx
  unfold m__law_base m__law_base_b
  simp -implicitDefEqProofs only [e1, Option.bind_some, hp, Option.map_some, Ctl.fin_rt]
  exact ⟨p, t1, rfl, q1, q2, h1⟩
theorem right_ok {t : D} (h : TO t) {ss : List Str} (l0 : 1 ≤ ss.length) (l4 : ss.length ≤ 4) {a : Nat} (ha : a < ss.length) : ∃ (ps : List Part) (t' : D), m__law_right t (.list (ss.map .str)) (.int (a : Int)) = some (.tuple (ps.map Part.d), t') ∧ (1 ≤ ps.length ∧ ps.length ≤ 3) ∧ (∀ p ∈ ps, p.ok ss) ∧ (∀ s, ps = [.sym s] → ∃ j, ss[j]? = some s ∧ a < j) ∧ TO t' := by
  obtain ⟨k1, s1, t1, e1, b1, g1, x1, m1, h1⟩ := draw (xs := ss) (enc := PyData.str) h (by omega) (by omega)
  obtain ⟨k2, s2, t2, e2, b2, g2, x2, m2, h2⟩ := draw (xs := ss) (enc := PyData.str) h1 (by omega) (by omega)
  obtain ⟨k3, t3, e3, b3, h3⟩ := tk 9 h2
  unfold m__law_right m__law_right_b
  simp -implicitDefEqProofs only [e1, Option.bind_some, pLen_l, List.length_map, x1, Option.map_some, e2, x2, e3, pEq_int, dBool_bool, pLt_int]
  have tx : ∀ x : String, Str.ofString x ∈ texts → Part.ok ss (.txt (Str.ofString x)) := fun x hx => .inl hx
  have p1 : Part.ok ss (.sym s1) := m1
  have p2 : Part.ok ss (.sym s2) := m2
  have hx : pIdx (.list (ss.map .str)) (.int 0) = some (.str (ss[0]'(by omega))) := by
    have := pIdx_ln (xs := ss.map PyData.str) (k := 0) (x := .str (ss[0]'(by omega))) (by rw [List.getElem?_map, List.getElem?_eq_getElem (by omega)]; rfl)
    exact this
  -- the last of all
  have last : ∃ (ps : List Part) (t' : D), ((((((pIdx (.list (ss.map .str)) (.int 0)).bind fun x43 => some (.list [(S ";"), (S "if"), (S "number"), x43])).map fun x44 => (x44, t3)).bind fun r45 => (m__law_take r45.2 (.int 4)).bind fun r46 => (pIdx r45.1 r46.1).map fun z47 => (z47, r46.2)).bind fun r48 => some (PyData.tuple [S "text", r48.1], r48.2)).bind fun r49 => some (PyData.tuple [.tuple [S "symbol", .str s1], r49.1], r49.2)) = some (.tuple (ps.map Part.d), t') ∧ (1 ≤ ps.length ∧ ps.length ≤ 3) ∧ (∀ p ∈ ps, p.ok ss) ∧ (∀ s, ps = [.sym s] → ∃ j, ss[j]? = some s ∧ a < j) ∧ TO t' := by
    obtain ⟨k, t4, e4, b4, h4⟩ := tk 4 h3
    have hk : k = 0 ∨ k = 1 ∨ k = 2 ∨ k = 3 := by omega
    simp -implicitDefEqProofs only [hx, Option.bind_some, Option.map_some, e4]
    have hp : ∃ s : Str, pIdx (.list [(S ";"), (S "if"), (S "number"), .str (ss[0]'(by omega))]) (.int (k : Int)) = some (.str s) ∧ Part.ok ss (.txt s) := by
      rcases hk with rfl | rfl | rfl | rfl
      · exact ⟨_, rfl, tx ";" (by simp [texts])⟩
      · exact ⟨_, rfl, tx "if" (by simp [texts])⟩
      · exact ⟨_, rfl, tx "number" (by simp [texts])⟩
      · exact ⟨_, rfl, .inr (List.getElem_mem _)⟩
    obtain ⟨s, es, ok⟩ := hp
    rw [es]
    refine ⟨[.sym s1, .txt s], t4, rfl, by simp, fun p hp => ?_, fun s e => by simp at e, h4⟩
    simp only [List.mem_cons, List.not_mem_nil, or_false] at hp
    rcases hp with rfl | rfl
    · exact p1
    · exact ok
  obtain ⟨lps, lt, le, lr⟩ := last
  rw [le]
  have hk : k3 = 8 ∨ k3 < 3 ∨ k3 = 3 ∨ k3 = 4 ∨ k3 = 5 ∨ k3 = 6 ∨ k3 = 7 := by omega
  rcases hk with q | q | q | q | q | q | q
  · obtain ⟨k4, s4, t4, e4, b4, g4, x4, m4, h4⟩ := draw (xs := ss) (enc := PyData.str) h3 (by omega) (by omega)
    simp -implicitDefEqProofs only [decide_eq_true (show (k3 : Int) = 8 by omega), if_true, e4, Option.bind_some, x4, Option.map_some, Ctl.ex, Ctl.fin_rt]
    refine ⟨[.sym s1, .sym s2, .sym s4], t4, rfl, by simp, fun p hp => ?_, fun s e => by simp at e, h4⟩
    simp only [List.mem_cons, List.not_mem_nil, or_false] at hp
    rcases hp with rfl | rfl | rfl <;> assumption
  · simp -implicitDefEqProofs only [decide_eq_false (show ¬ (k3 : Int) = 8 by omega), decide_eq_true (show (k3 : Int) < 3 by omega), if_true, Bool.false_eq_true, if_false]
    refine ⟨[.sym s1, .txt (Str.ofString "+"), .sym s2], t3, rfl, by simp, fun p hp => ?_, fun s e => by simp at e, h3⟩
    simp only [List.mem_cons, List.not_mem_nil, or_false] at hp
    rcases hp with rfl | rfl | rfl
    · exact p1
    · exact tx "+" (by simp [texts])
    · exact p2
  · simp -implicitDefEqProofs only [decide_eq_false (show ¬ (k3 : Int) = 8 by omega), decide_eq_false (show ¬ (k3 : Int) < 3 by omega), decide_eq_true (show (k3 : Int) = 3 by omega), if_true, Bool.false_eq_true, if_false]
    refine ⟨[.txt (Str.ofString "("), .sym s1, .txt (Str.ofString ")")], t3, rfl, by simp, fun p hp => ?_, fun s e => by simp at e, h3⟩
    simp only [List.mem_cons, List.not_mem_nil, or_false] at hp
    rcases hp with rfl | rfl | rfl
    · exact tx "(" (by simp [texts])
    · exact p1
    · exact tx ")" (by simp [texts])
  · simp -implicitDefEqProofs only [decide_eq_false (show ¬ (k3 : Int) = 8 by omega), decide_eq_false (show ¬ (k3 : Int) < 3 by omega), decide_eq_false (show ¬ (k3 : Int) = 3 by omega), decide_eq_true (show (k3 : Int) = 4 by omega), if_true, Bool.false_eq_true, if_false]
    refine ⟨[.sym s1, .sym s2], t3, rfl, by simp, fun p hp => ?_, fun s e => by simp at e, h3⟩
    simp only [List.mem_cons, List.not_mem_nil, or_false] at hp
    rcases hp with rfl | rfl <;> assumption
  · simp -implicitDefEqProofs only [decide_eq_false (show ¬ (k3 : Int) = 8 by omega), decide_eq_false (show ¬ (k3 : Int) < 3 by omega), decide_eq_false (show ¬ (k3 : Int) = 3 by omega), decide_eq_false (show ¬ (k3 : Int) = 4 by omega), decide_eq_true (show (k3 : Int) = 5 by omega), decide_eq_false (show ¬ (k3 : Int) = 6 by omega), if_true, Bool.false_eq_true, if_false, pAdd_int, Option.bind_some, pLt_int, dBool_bool, pSub_int, Option.map_some]
    by_cases hl : (a : Int) + 1 < ss.length
    · rw [decide_eq_true hl]
      have en : (ss.length : Int) - a - 1 = ((ss.length - a - 1 : Nat) : Int) := by omega
      obtain ⟨k4, t4, e4, b4, h4⟩ := tkl (ss.length - a - 1) h3 (by omega) (by omega)
      obtain ⟨s4, g4, x4, m4⟩ := pick (xs := ss) (enc := PyData.str) (k := a + 1 + k4) (by omega)
      have ek : (a : Int) + 1 + (k4 : Int) = ((a + 1 + k4 : Nat) : Int) := by omega
      simp -implicitDefEqProofs only [if_true, en, e4, Option.bind_some, Option.map_some, pAdd_int, ek, x4, Ctl.ex, Ctl.fin_rt]
      refine ⟨[.sym s4], t4, rfl, by simp, fun p hp => ?_, fun s e => ⟨a + 1 + k4, ?_, by omega⟩, h4⟩
      · rw [List.mem_singleton.mp hp]; exact m4
      · simp only [List.cons.injEq, Part.sym.injEq, and_true] at e
        rw [g4, e]
    · rw [decide_eq_false hl]
      simp -implicitDefEqProofs only [Bool.false_eq_true, if_false, Option.bind_some, Ctl.fin_rt]
      exact ⟨lps, lt, rfl, lr⟩
  · simp -implicitDefEqProofs only [decide_eq_false (show ¬ (k3 : Int) = 8 by omega), decide_eq_false (show ¬ (k3 : Int) < 3 by omega), decide_eq_false (show ¬ (k3 : Int) = 3 by omega), decide_eq_false (show ¬ (k3 : Int) = 4 by omega), decide_eq_false (show ¬ (k3 : Int) = 5 by omega), decide_eq_true (show (k3 : Int) = 6 by omega), if_true, Bool.false_eq_true, if_false, Option.bind_some]
    refine ⟨[.txt (Str.ofString "-"), .sym s1], t3, rfl, by simp, fun p hp => ?_, fun s e => by simp at e, h3⟩
    simp only [List.mem_cons, List.not_mem_nil, or_false] at hp
    rcases hp with rfl | rfl
    · exact tx "-" (by simp [texts])
    · exact p1
  · simp -implicitDefEqProofs only [decide_eq_false (show ¬ (k3 : Int) = 8 by omega), decide_eq_false (show ¬ (k3 : Int) < 3 by omega), decide_eq_false (show ¬ (k3 : Int) = 3 by omega), decide_eq_false (show ¬ (k3 : Int) = 4 by omega), decide_eq_false (show ¬ (k3 : Int) = 5 by omega), decide_eq_false (show ¬ (k3 : Int) = 6 by omega), Bool.false_eq_true, if_false, Option.bind_some, Ctl.fin_rt]
    exact ⟨lps, lt, rfl, lr⟩
end P
namespace P
open PySem PySem.Spec L2 Z
/-! ## demands -/
theorem enc_dem : (Enc.d : Dem → D) = Dem.d := rfl
theorem demands_ok {t : D} (h : TO t) {m : Nat} (m0 : 1 ≤ m) (m3 : m ≤ 3) : ∃ (ds : List Dem) (t' : D), m__law_demands t (.int (m : Int)) = some (.tuple (ds.map Dem.d), t') ∧ (∀ x ∈ ds, x.ok m) ∧ ds.Nodup ∧ ds.length ≤ 4 ∧ TO t' := by
  obtain ⟨k1, t1, e1, b1, h1⟩ := tk 4 h
  unfold m__law_demands m__law_demands_b
  simp -implicitDefEqProofs only [e1, Option.bind_some, pGt_int, dBool_bool, Option.map_some]
  by_cases q : (0 : Int) < k1
  · rw [decide_eq_true q]
    exact ⟨[], t1, rfl, by simp, by simp, by simp, h1⟩
  · rw [decide_eq_false q]
    obtain ⟨p, t2, e2, b2, h2⟩ := tkl m h1 (by omega) (by omega)
    have em : pMax2 (.int 1) (.int ((m : Int) - 1)) = some (.int ((max 1 (m - 1) : Nat) : Int)) := by
      have : m = 1 ∨ m = 2 ∨ m = 3 := by omega
      rcases this with rfl | rfl | rfl <;> rfl
    obtain ⟨k3, t3, e3, b3, h3⟩ := tkl (max 1 (m - 1)) h2 (by omega) (by omega)
    have eq : ((p : Int) + 1 + (k3 : Int)) % (m : Int) = (((p + 1 + k3) % m : Nat) : Int) := by rw [Int.natCast_emod]; simp
    have bq : (p + 1 + k3) % m < m := Nat.mod_lt _ (by omega)
    simp -implicitDefEqProofs only [Bool.false_eq_true, if_false, e2, Option.bind_some, pAdd_int, Option.map_some, pSub_int, em, e3, pInt_int]
    rw [pMod_ok (by omega), eq]
    generalize (p + 1 + k3) % m = r at bq
    simp -implicitDefEqProofs only [Option.map_some, Option.bind_some, pNe_int, dBool_bool]
    -- the rows that are drawn from
    have rows : ∃ rows : List Dem, (if (!decide ((p : Int) = (r : Int))) = true then (pAdd (.list [(.tuple [(S "glued"), .int (p : Int)])]) (.list [(.tuple [(S "same"), .int (p : Int), .int (r : Int)]), (.tuple [(S "right"), .int (p : Int), .int (r : Int)]), (.tuple [(S "row"), .int (p : Int), .int (r : Int)]), (.tuple [(S "right"), .int (r : Int), .int (p : Int)]), (.tuple [(S "glued"), .int (r : Int)])])).bind fun x21 => some (.nx x21) else some (.nx (.list [(.tuple [(S "glued"), .int (p : Int)])])) : Option (Ctl D Empty (D × D))) = some (.nx (.list (rows.map Dem.d))) ∧ 0 < rows.length ∧ rows.length ≤ 6 ∧ ∀ x ∈ rows, x.ok m := by
      by_cases hp : p = r
      · subst hp
        refine ⟨[.glued p], ?_, by simp, by simp, by simpa [Dem.ok] using b2⟩
        rw [decide_eq_true rfl]
        rfl
      · refine ⟨[.glued p, .same p r, .right p r, .row p r, .right r p, .glued r], ?_, by simp, by simp, ?_⟩
        · rw [decide_eq_false (by omega)]
          rfl
        · have hp' : ¬ r = p := fun e => hp e.symm
          intro x hx
          simp only [List.mem_cons, List.not_mem_nil, or_false] at hx
          rcases hx with rfl | rfl | rfl | rfl | rfl | rfl <;> simp [Dem.ok] <;> omega
    obtain ⟨rows, er, r0, r6, rok⟩ := rows
    rw [er]
    obtain ⟨k4, t4, e4, b4, h4⟩ := tk 3 h3
    have turns : ∃ n : Nat, n ≤ 4 ∧ (if decide ((0 : Int) < (k4 : Int)) = true then some (PyData.int 1, t4) else some (PyData.int 4, t4)) = some (PyData.int (n : Int), t4) := by
      by_cases q : (0 : Int) < k4
      · rw [decide_eq_true q]; exact ⟨1, by omega, rfl⟩
      · rw [decide_eq_false q]; exact ⟨4, by omega, rfl⟩
    obtain ⟨n, hn, en⟩ := turns
    simp -implicitDefEqProofs only [Ctl.seq_nx, e4, Option.bind_some, Option.map_some, pGt_int, dBool_bool, en]
    rw [pRg_nat (show n ≤ 100000 by omega)]
    simp -implicitDefEqProofs only [Option.map_some, Option.bind_some]
    generalize hst : (fun (x23 : D) (s22 : D × D) => _ : D → D × D → Option (Ctl (D × D) (D × D) (D × D))) = F
    obtain ⟨s', e, ds, t', rfl, hl, hok, hnd, ht⟩ := forC_rinv (F := F) (L := Empty) (enc := fun i : Nat => PyData.int (i : Int)) (n := n)
      (I := fun i s => ∃ (ds : List Dem) (t : D), s = (t, .list (ds.map Dem.d)) ∧ ds.length ≤ i ∧ (∀ x ∈ ds, x.ok m) ∧ ds.Nodup ∧ TO t) (s := (t4, .list []))
      ⟨[], t4, rfl, by simp, by simp, by simp, h4⟩
      (fun i s hi ⟨ds, t, es, hl, hok, hnd, ht⟩ => by
        subst es
        subst hst
        obtain ⟨k5, a, t5, e5, b5, g5, x5, m5, h5⟩ := draw (xs := rows) (enc := Dem.d) ht r0 (by omega)
        have hni : pNotIn a.d (.list (ds.map Dem.d)) = some (.bool (!decide (a ∈ ds))) := pNotIn_l (a := a) (xs := ds) (by have := dem_dep a; show a.d.depth ≤ 100; omega)
        simp -implicitDefEqProofs only [Option.bind_some, pLen_l, List.length_map, e5, x5, Option.map_some, hni, dBool_bool]
        by_cases hm : a ∈ ds
        · rw [decide_eq_true hm]
          exact ⟨_, rfl, ds, t5, rfl, by omega, hok, hnd, h5⟩
        · rw [decide_eq_false hm]
          simp -implicitDefEqProofs only [Bool.not_false, if_true]
          rw [pApp_l (by simp; omega)]
          refine ⟨_, rfl, ds ++ [a], t5, by simp, by simp; omega, fun x hx => ?_, ?_, h5⟩
          · rcases List.mem_append.mp hx with hx | hx
            · exact hok x hx
            · rw [List.mem_singleton.mp hx]; exact rok a m5
          · rw [List.nodup_append]
            exact ⟨hnd, by simp, fun x hx y hy => by rw [List.mem_singleton.mp hy]; exact fun e => hm (e ▸ hx)⟩)
    rw [e]
    simp -implicitDefEqProofs only [Ctl.seq_nx, pTuple_l, Option.bind_some, Ctl.fin_rt]
    exact ⟨ds, t', rfl, hok, hnd, by omega, ht⟩
/-! ## the rules in a drawn order -/
theorem turned_ok {A : Type} {enc : A → D} {t : D} (h : TO t) {xs : List A} (hx : xs.length ≤ 1000) : ∃ (ys : List A) (t' : D), m__law_turned t (.list (xs.map enc)) = some (.list (ys.map enc), t') ∧ ys.Perm xs ∧ TO t' := by
  unfold m__law_turned m__law_turned_b
  simp -implicitDefEqProofs only [pList_l, pLen_l, List.length_map, Option.bind_some]
  rw [pRg_nat (by omega)]
  simp -implicitDefEqProofs only [Option.bind_some]
  generalize hst : (fun (x3 : D) (s2 : D × D × D) => _ : D → D × D × D → Option (Ctl (D × D × D) (D × D × D) (D × D))) = F
  obtain ⟨s', e, ys, ls, t', rfl, hl, hp, ht⟩ := forC_rinv (F := F) (L := Empty) (enc := fun i : Nat => PyData.int (i : Int)) (n := xs.length)
    (I := fun i s => ∃ (ys ls : List A) (t : D), s = (.list (ys.map enc), .list (ls.map enc), t) ∧ ls.length + i = xs.length ∧ (ys ++ ls).Perm xs ∧ TO t) (s := (.list [], .list (xs.map enc), t))
    ⟨[], xs, t, rfl, by simp, by simp, h⟩
    (fun i s hi ⟨ys, ls, t, es, hl, hp, ht⟩ => by
      subst es
      subst hst
      obtain ⟨k, t1, e1, b1, h1⟩ := tkl ls.length ht (by omega) (by omega)
      have hk : (ls.map enc)[k]? = some (enc ls[k]) := by rw [List.getElem?_map, List.getElem?_eq_getElem b1]; rfl
      have hlp := hp.length_eq
      simp only [List.length_append] at hlp
      simp -implicitDefEqProofs only [pLen_l, List.length_map, Option.bind_some, e1, Option.map_some, popAt_l hk (by simp; omega)]
      rw [pApp_l (by simp; omega)]
      refine ⟨_, rfl, ys ++ [ls[k]], ls.eraseIdx k, t1, by simp [map_erase], ?_, ?_, h1⟩
      · rw [List.length_eraseIdx_of_lt b1]; omega
      · refine List.Perm.trans ?_ hp
        rw [List.append_assoc]
        refine List.Perm.append_left ys ?_
        show (ls[k] :: ls.eraseIdx k).Perm ls
        exact eraseIdx_perm ls k b1)
  rw [e]
  simp -implicitDefEqProofs only [Ctl.seq_nx, Ctl.fin_rt]
  have : ls = [] := List.length_eq_zero_iff.mp (by omega)
  subst this
  exact ⟨ys, t', rfl, by simpa using hp, ht⟩
end P
namespace P
open PySem PySem.Spec L2 Z
/-! ## bars -/
theorem bar_cut (b : Bar) : pSl b.d none (some 3) = some (kd b.key) := rfl
def leBar (a b : Bar) : Bool := le3 a.key b.key
theorem bars_ok {t : D} (h : TO t) {n : Nat} (n0 : 1 ≤ n) (n5 : n ≤ 5) {ss : List Str} {rs : List Rule} (r0 : 1 ≤ rs.length) (r12 : rs.length ≤ 12) (hr : ∀ r ∈ rs, RuleOk n ss r) : ∃ (bs : List Bar) (t' : D), m__law_bars t (.list (rs.map Rule.d)) (.int (n : Int)) = some (.tuple (bs.map Bar.d), t') ∧ bs.length ≤ 12 ∧ (∀ b ∈ bs, BarOk n rs b) ∧ (bs.Pairwise fun a b => lt3 a.key b.key) ∧ TO t' := by
  obtain ⟨k1, t1, e1, b1, h1⟩ := tk 6 h
  have turns : ∃ (m : Nat) (t2 : D), m ≤ 12 ∧ (if decide ((0 : Int) < (k1 : Int)) = true then m__law_take t1 (.int 4) else some (PyData.int 12, t1)) = some (PyData.int (m : Int), t2) ∧ TO t2 := by
    by_cases q : (0 : Int) < k1
    · rw [decide_eq_true q]
      obtain ⟨k2, t2, e2, b2, h2⟩ := tk 4 h1
      exact ⟨k2, t2, by omega, e2, h2⟩
    · rw [decide_eq_false q]; exact ⟨12, t1, by omega, rfl, h1⟩
  obtain ⟨m, t2, m12, e2, h2⟩ := turns
  unfold m__law_bars m__law_bars_b
  simp -implicitDefEqProofs only [e1, Option.bind_some, pGt_int, dBool_bool, Option.map_some, e2]
  rw [pRg_nat (by omega)]
  simp -implicitDefEqProofs only [Option.map_some, Option.bind_some]
  generalize hst : (fun (x2 : D) (s1 : D × D) => _ : D → D × D → Option (Ctl (D × D) (D × D) (D × D))) = F
  obtain ⟨s', e, bs, t', rfl, hl, hok, hnd, ht⟩ := forC_rinv (F := F) (L := Empty) (enc := fun i : Nat => PyData.int (i : Int)) (n := m)
    (I := fun i s => ∃ (bs : List Bar) (t : D), s = (t, .list (bs.map Bar.d)) ∧ bs.length ≤ i ∧ (∀ b ∈ bs, BarOk n rs b) ∧ (bs.map Bar.key).Nodup ∧ TO t) (s := (t2, .list []))
    ⟨[], t2, rfl, by simp, by simp, by simp, h2⟩
    (fun i s hi ⟨bs, t, es, hl, hok, hnd, ht⟩ => by
      subst es
      subst hst
      obtain ⟨k3, r, t3, e3, b3, g3, x3, m3, h3⟩ := draw (xs := rs) (enc := Rule.d) ht (by omega) (by omega)
      have hro := hr r m3
      obtain ⟨k4, t4, e4, b4, h4⟩ := tkl r.ps.length h3 (by have := hro.len; omega) (by have := hro.len; omega)
      obtain ⟨p, g4, x4, m4⟩ := pickT (xs := r.ps) (enc := Part.d) b4
      have ex : pIdx r.d (.int 1) = some (.tuple (r.ps.map Part.d)) := rfl
      have el : lcI (fun x14 => ((pIdx p.d (.int 0)).bind fun x15 => (pEq x15 (S "symbol")).bind dBool).bind fun k19 => if k19 = true then ((pIdx (.list (rs.map Rule.d)) x14).bind fun x16 => pIdx x16 (.int 0)).bind fun x17 => (pIdx p.d (.int 1)).bind fun y18 => (pEq x17 y18).bind dBool else some false) (fun x14 => some x14) ((List.range rs.length).map fun i : Nat => PyData.int (i : Int)) = some (((List.range rs.length).filter fun j => decide (∃ q, rs[j]? = some q ∧ p = .sym q.l)).map fun i : Nat => PyData.int (i : Int)) := by
        refine lcI_map (fun j hj => ?_) (fun j _ => rfl)
        have hj : j < rs.length := by simpa using hj
        obtain ⟨q, gq, xq, mq⟩ := pick (xs := rs) (enc := Rule.d) hj
        have eq0 : pIdx q.d (.int 0) = some (.str q.l) := rfl
        cases p with
        | sym s =>
          have z0 : pIdx (Part.sym s).d (.int 0) = some (S "symbol") := rfl
          have z1 : pIdx (Part.sym s).d (.int 1) = some (.str s) := rfl
          simp -implicitDefEqProofs only [z0, z1, S, Option.bind_some, pEq_str, dBool_bool, decide_true, if_true, xq, eq0]
          rw [gq]
          simp [eq_comm]
        | num =>
          have z0 : pIdx (Part.num).d (.int 0) = some (S "kind") := rfl
          have hne : ¬ Str.ofString "kind" = Str.ofString "symbol" := by decide
          simp -implicitDefEqProofs only [z0, S, Option.bind_some, pEq_str, dBool_bool, decide_eq_false hne, Bool.false_eq_true, if_false]
          simp
        | wrd =>
          have z0 : pIdx (Part.wrd).d (.int 0) = some (S "kind") := rfl
          have hne : ¬ Str.ofString "kind" = Str.ofString "symbol" := by decide
          simp -implicitDefEqProofs only [z0, S, Option.bind_some, pEq_str, dBool_bool, decide_eq_false hne, Bool.false_eq_true, if_false]
          simp
        | txt s =>
          have z0 : pIdx (Part.txt s).d (.int 0) = some (S "text") := rfl
          have hne : ¬ Str.ofString "text" = Str.ofString "symbol" := by decide
          simp -implicitDefEqProofs only [z0, S, Option.bind_some, pEq_str, dBool_bool, decide_eq_false hne, Bool.false_eq_true, if_false]
          simp
      generalize hbe : (List.range rs.length).filter (fun j => decide (∃ q, rs[j]? = some q ∧ p = .sym q.l)) = below at el
      simp -implicitDefEqProofs only [Option.bind_some, pLen_l, List.length_map, e3, x3, ex, pLen_t, e4, x4, pRg_nat (show rs.length ≤ 100000 by omega), el, Option.map_some, pGt_int, dBool_bool]
      by_cases hb : (0 : Int) < below.length
      · rw [decide_eq_true hb]
        obtain ⟨k5, b, t5, e5, b5, g5, x5, m5, h5⟩ := draw (xs := below) (enc := fun i : Nat => PyData.int (i : Int)) h4 (by omega) (by
          rw [← hbe]
          have := List.length_filter_le (fun j => decide (∃ q, rs[j]? = some q ∧ p = .sym q.l)) (List.range rs.length)
          simp at this
          omega)
        have hbq : ∃ q, rs[b]? = some q ∧ p = .sym q.l := by
          rw [← hbe] at m5
          simpa using (List.mem_filter.mp m5).2
        obtain ⟨q, gq, pq⟩ := hbq
        have hcut : lcM (fun x30 => (pOpt (.int 3)).bind fun h32 => pSl x30 none h32) (bs.map Bar.d) = some (bs.map fun b => kd b.key) := lcM_map fun b _ => rfl
        have hk : (bs.map fun b => kd b.key) = ((bs.map Bar.key).map K3.mk).map Enc.d := by rw [List.map_map, List.map_map]; rfl
        have hni : pNotIn (.tuple [.int (k3 : Int), .int (k4 : Int), .int (b : Int)]) (.list (bs.map fun b => kd b.key)) = some (.bool (!decide ((k3, k4, b) ∈ bs.map Bar.key))) := by
          rw [hk]
          have z := pNotIn_l (a := K3.mk (k3, k4, b)) (xs := (bs.map Bar.key).map K3.mk) (by show (kd _).depth ≤ 100; exact kd_depth _)
          refine Eq.trans z ?_
          refine congrArg (fun q => some (PyData.bool (!q))) ?_
          rw [Bool.eq_iff_iff, decide_eq_true_eq, decide_eq_true_eq, List.mem_map]
          exact ⟨fun ⟨a, ha, e⟩ => by cases e; exact ha, fun hm => ⟨_, hm, rfl⟩⟩
        simp -implicitDefEqProofs only [if_true, e5, Option.bind_some, x5, Option.map_some, pIter_l, hcut, hni, dBool_bool]
        by_cases hm : (k3, k4, b) ∈ bs.map Bar.key
        · rw [decide_eq_true hm]
          exact ⟨_, rfl, bs, t5, rfl, by omega, hok, hnd, h5⟩
        · rw [decide_eq_false hm]
          obtain ⟨x, t6, e6, o6, h6⟩ := diagram_dg h5 n0 n5
          simp -implicitDefEqProofs only [Bool.not_false, if_true, e6, Option.bind_some, Option.map_some]
          rw [show pAdd (.tuple [.int (k3 : Int), .int (k4 : Int), .int (b : Int)]) (.tuple [x.d]) = some (Bar.mk k3 k4 b x).d from rfl]
          simp -implicitDefEqProofs only [Option.map_some, Option.bind_some]
          rw [pApp_l (by simp; omega)]
          refine ⟨_, rfl, bs ++ [Bar.mk k3 k4 b x], t6, by simp, by simp; omega, fun c hc => ?_, ?_, h6⟩
          · rcases List.mem_append.mp hc with hc | hc
            · exact hok c hc
            · rw [List.mem_singleton.mp hc]
              exact ⟨⟨r, q, g3, gq, by rw [g4, pq]⟩, o6⟩
          · rw [List.map_append, List.nodup_append]
            refine ⟨hnd, by simp, fun x hx y hy e => hm ?_⟩
            simp only [List.map_cons, List.map_nil, List.mem_singleton] at hy
            rw [e, hy] at hx
            exact hx
      · rw [decide_eq_false hb]
        exact ⟨_, rfl, bs, t4, rfl, by omega, hok, hnd, h4⟩)
  rw [e]
  have hcut : lcM (fun x59 => (pOpt (.int 3)).bind fun h61 => pSl x59 none h61) (bs.map Bar.d) = some (bs.map fun b => kd b.key) := lcM_map fun b _ => rfl
  have hsort : pSorted (.list (bs.map fun b => kd b.key)) = some (.list ((bs.mergeSort leBar).map fun b => kd b.key)) :=
    sorted_enc (fun _ _ _ _ => rfl) (.inl fun _ _ => ⟨_, _, rfl⟩) (fun _ _ => by exact kd_depth _) (fun a _ b _ => by rw [kd_lt]; rfl)
  have hperm := List.mergeSort_perm bs leBar
  have hlast : lcM (fun x66 => ((lcI (fun x69 => ((pOpt (.int 3)).bind fun h71 => pSl x69 none h71).bind fun x72 => (pEq x72 x66).bind dBool) (fun x69 => some x69) (bs.map Bar.d)).map .list).bind fun x73 => pIdx x73 (.int 0)) ((bs.mergeSort leBar).map fun b => kd b.key) = some ((bs.mergeSort leBar).map Bar.d) := by
    refine lcM_map fun b hb => ?_
    have hb' : b ∈ bs := hperm.mem_iff.mp hb
    have hf : lcI (fun x69 => ((pOpt (.int 3)).bind fun h71 => pSl x69 none h71).bind fun x72 => (pEq x72 (kd b.key)).bind dBool) (fun x69 => some x69) (bs.map Bar.d) = some ((bs.filter fun c => decide (c.key = b.key)).map Bar.d) := by
      refine lcI_map (fun c _ => ?_) (fun c _ => rfl)
      have z := pEq_enc (a := K3.mk c.key) (b := K3.mk b.key) (by show (kd _).depth ≤ 100; exact kd_depth _)
      have z2 : pEq (kd c.key) (kd b.key) = some (.bool (decide (c.key = b.key))) := by
        refine Eq.trans z ?_
        refine congrArg (fun q => some (PyData.bool q)) ?_
        rw [Bool.eq_iff_iff, decide_eq_true_eq, decide_eq_true_eq, K3.mk.injEq]
      simp -implicitDefEqProofs only [pOpt_int, Option.bind_some, bar_cut, z2, dBool_bool]
    have hone : bs.filter (fun c => decide (c.key = b.key)) = [b] := filter_key Bar.key bs hnd b hb'
    simp -implicitDefEqProofs only [pIter_l, Option.bind_some, hf, hone, Option.map_some]
    rfl
  simp -implicitDefEqProofs only [Ctl.seq_nx, pIter_l, Option.bind_some, hcut, Option.map_some, hsort, hlast, pTuple_l, Ctl.fin_rt]
  refine ⟨bs.mergeSort leBar, t', rfl, by rw [hperm.length_eq]; omega, fun b hb => hok b (hperm.mem_iff.mp hb), ?_, ht⟩
  have hnd' : (bs.mergeSort leBar).Pairwise fun a b => a.key ≠ b.key := by
    have := (hperm.map Bar.key).nodup_iff.mpr hnd
    exact List.pairwise_map.mp this
  have hle : (bs.mergeSort leBar).Pairwise fun a b => leBar a b = true := List.pairwise_mergeSort (le := leBar) (fun a b c => le3_trans a.key b.key c.key) (fun a b => le3_total a.key b.key) bs
  exact (hle.and hnd').imp fun ⟨a, b⟩ => lt3_of a b
end P
namespace P
open PySem PySem.Spec L2 Z
/-! ## the grammar -/
/-- the key of a rule in the list of those that are there -/
structure RK where
  l : Str
  ps : List Part
  deriving DecidableEq
def RK.d (k : RK) : D := .tuple [.str k.l, .tuple (k.ps.map Part.d)]
instance : Enc RK := ⟨RK.d, fun a b => by
  have h := eqvAll_enc a.ps b.ps
  have h' : PyData.eqvAll (a.ps.map Part.d) (b.ps.map Part.d) = true ↔ a.ps = b.ps := h
  cases a; cases b
  simp only [RK.d, PyData.eqv, PyData.eqvAll, Bool.and_true, Bool.and_eq_true, h', RK.mk.injEq]
  simp⟩
theorem rk_dep (k : RK) : k.d.depth ≤ 10 := by
  have h := depthAll_enc (n := 3) k.ps fun p _ => part_dep p
  have h' : PyData.depthAll (k.ps.map Part.d) ≤ 3 := h
  simp only [RK.d, PyData.depth, PyData.depthAll]
  omega
theorem grammar_ok {t : D} (h : TO t) {n : Nat} (n0 : 1 ≤ n) (n5 : n ≤ 5) : ∃ (ss : List Str) (g : Gram) (t' : D), m__law_grammar t (.int (n : Int)) = some (g.d, t') ∧ GramOk n ss g ∧ TO t' := by
  obtain ⟨k1, t1, e1, b1, h1⟩ := tk 6 h
  have many : ∃ (m : Int) (t2 : D), 1 ≤ m ∧ m ≤ 4 ∧ (if decide ((k1 : Int) = 0) = true then some (PyData.int 4, t1) else (m__law_take t1 (.int 3)).bind fun r6 => (pAdd (.int 1) r6.1).map fun z7 => (z7, r6.2)) = some (.int m, t2) ∧ TO t2 := by
    by_cases q : (k1 : Int) = 0
    · rw [decide_eq_true q]; exact ⟨4, t1, by omega, by omega, rfl, h1⟩
    · rw [decide_eq_false q]
      obtain ⟨k2, t2, e2, b2, h2⟩ := tk 3 h1
      simp -implicitDefEqProofs only [Bool.false_eq_true, if_false, Option.bind_some, e2, pAdd_int, Option.map_some]
      exact ⟨1 + (k2 : Int), t2, by omega, by omega, rfl, h2⟩
  obtain ⟨m, t2, m1, m4, e2, h2⟩ := many
  obtain ⟨ss, t3, e3, sl, sn, so, h3⟩ := symbols_ok h2 m1 m4
  have sl1 : 1 ≤ ss.length := by omega
  have sl4 : ss.length ≤ 4 := by omega
  unfold m__law_grammar m__law_grammar_b
  simp -implicitDefEqProofs only [e1, Option.bind_some, pEq_int, dBool_bool, Option.map_some, e2, e3, pLen_l, List.length_map]
  rw [pRg_nat (show ss.length ≤ 100000 by omega)]
  simp -implicitDefEqProofs only [Option.bind_some]
  generalize hst : (fun (x11 : D) (s10 : D × D) => _ : D → D × D → Option (Ctl (D × D) (D × D) (D × D))) = F
  obtain ⟨s', e, rs, t4, rfl, rl, rok, rbase, h4⟩ := forC_rinv (F := F) (L := Empty) (enc := fun i : Nat => PyData.int (i : Int)) (n := ss.length)
    (I := fun i s => ∃ (rs : List Rule) (t : D), s = (.list (rs.map Rule.d), t) ∧ rs.length = i ∧ (∀ r ∈ rs, RuleOk n ss r) ∧ (∀ j s, j < i → ss[j]? = some s → ∃ r ∈ rs, r.l = s ∧ ∃ p, r.ps = [p] ∧ p.isSym = false) ∧ TO t) (s := (.list [], t3))
    ⟨[], t3, rfl, rfl, by simp, fun j s hj => by omega, h3⟩
    (fun i s hi ⟨rs, t, es, hl, hok, hb, ht⟩ => by
      subst es
      subst hst
      obtain ⟨k1, t1, e1, b1, h1⟩ := tk 12 ht
      have dem : ∃ ds : List Dem, (if decide ((k1 : Int) = 0) = true then some (PyData.tuple [.tuple [S "glued", .int 0]], t1) else some (PyData.tuple [], t1)) = some (PyData.tuple (ds.map Dem.d), t1) ∧ (ds = [] ∨ ds = [.glued 0]) := by
        by_cases q : (k1 : Int) = 0
        · rw [decide_eq_true q]; exact ⟨[.glued 0], rfl, .inr rfl⟩
        · rw [decide_eq_false q]; exact ⟨[], rfl, .inl rfl⟩
      obtain ⟨ds, ed, hds⟩ := dem
      obtain ⟨sk, gk, xk, mk⟩ := pick (xs := ss) (enc := PyData.str) hi
      obtain ⟨p, t5, e5, ps5, po5, h5⟩ := base_ok h1 ss
      obtain ⟨x, t6, e6, o6, h6⟩ := diagram_dg h5 n0 n5
      simp -implicitDefEqProofs only [e1, Option.bind_some, pEq_int, dBool_bool, Option.map_some, ed, xk, e5, e6]
      rw [pApp_l (by simp; omega)]
      refine ⟨_, rfl, rs ++ [Rule.mk sk [p] x ds], t6, by simp [Rule.d], by simp [hl], fun r hr => ?_, fun j s hj hs => ?_, h6⟩
      · rcases List.mem_append.mp hr with hr | hr
        · exact hok r hr
        · rw [List.mem_singleton.mp hr]
          refine ⟨mk, by simp, by simpa using po5, o6, ?_, ?_, ?_, fun s e => ?_⟩
          · rcases hds with rfl | rfl
            · simp
            · simp [Dem.ok]
          · rcases hds with rfl | rfl <;> simp
          · rcases hds with rfl | rfl <;> simp
          · simp only [List.cons.injEq, and_true] at e
            rw [e] at ps5
            cases ps5
      · by_cases q : j = i
        · subst q
          rw [gk] at hs; cases hs
          exact ⟨_, List.mem_append_right _ List.mem_cons_self, rfl, p, rfl, ps5⟩
        · obtain ⟨r, hr, z⟩ := hb j s (by omega) hs
          exact ⟨r, List.mem_append_left _ hr, z⟩)
  rw [e]
  clear e hst
  obtain ⟨k5, t5, e5, b5, h5⟩ := tk 6 h4
  have turns : ∃ (m : Nat) (t6 : D), m ≤ 8 ∧ (if decide ((k5 : Int) = 0) = true then some (PyData.int 8, t5) else (m__law_take t5 (.int 5)).bind fun r62 => (pAdd (.int 1) r62.1).map fun z63 => (z63, r62.2)) = some (PyData.int (m : Int), t6) ∧ TO t6 := by
    by_cases q : (k5 : Int) = 0
    · rw [decide_eq_true q]; exact ⟨8, t5, by omega, rfl, h5⟩
    · rw [decide_eq_false q]
      obtain ⟨k6, t6, e6, b6, h6⟩ := tk 5 h5
      simp -implicitDefEqProofs only [Bool.false_eq_true, if_false, Option.bind_some, e6, pAdd_int, Option.map_some]
      exact ⟨1 + k6, t6, by omega, by rw [show (1 : Int) + (k6 : Int) = ((1 + k6 : Nat) : Int) by omega], h6⟩
  obtain ⟨m8, t6, hm8, e6, h6⟩ := turns
  simp -implicitDefEqProofs only [Ctl.seq_nx, e5, Option.bind_some, pEq_int, dBool_bool, Option.map_some, e6]
  rw [pRg_nat (show m8 ≤ 100000 by omega)]
  simp -implicitDefEqProofs only [Option.map_some, Option.bind_some]
  generalize hst : (fun (x27 : D) (s26 : D × D) => _ : D → D × D → Option (Ctl (D × D) (D × D) (D × D))) = F
  obtain ⟨s', e, rs2, t7, rfl, rl2, rok2, rsub, h7⟩ := forC_rinv (F := F) (L := Empty) (enc := fun i : Nat => PyData.int (i : Int)) (n := m8)
    (I := fun i s => ∃ (rs2 : List Rule) (t : D), s = (t, .list (rs2.map Rule.d)) ∧ rs2.length ≤ ss.length + i ∧ (∀ r ∈ rs2, RuleOk n ss r) ∧ (∀ r ∈ rs, r ∈ rs2) ∧ TO t) (s := (t6, .list (rs.map Rule.d)))
    ⟨rs, t6, rfl, by omega, rok, fun r hr => hr, h6⟩
    (fun i s hi ⟨rs2, t, es, hl, hok, hsub, ht⟩ => by
      subst es
      subst hst
      obtain ⟨a, sa, t1, e1, b1, g1, x1, m1, h1⟩ := draw (xs := ss) (enc := PyData.str) ht (by omega) (by omega)
      obtain ⟨ps, t2, e2, l2, o2, u2, h2⟩ := right_ok h1 sl1 sl4 b1
      obtain ⟨x, t3, e3, o3, h3⟩ := diagram_dg h2 n0 n5
      obtain ⟨ds, t4, e4, d1, d2, d3, h4⟩ := demands_ok h3 l2.1 l2.2
      have hcut : lcM (fun x37 => (pOpt (.int 2)).bind fun h39 => pSl x37 none h39) (rs2.map Rule.d) = some ((rs2.map fun r => RK.mk r.l r.ps).map RK.d) := by
        rw [List.map_map]
        exact lcM_map fun b _ => rfl
      have hni : pNotIn (.tuple [.str sa, .tuple (ps.map Part.d)]) (.list ((rs2.map fun r => RK.mk r.l r.ps).map RK.d)) = some (.bool (!decide (RK.mk sa ps ∈ rs2.map fun r => RK.mk r.l r.ps))) := pNotIn_l (a := RK.mk sa ps) (by have := rk_dep (RK.mk sa ps); show (RK.d _).depth ≤ 100; omega)
      have newok : RuleOk n ss (Rule.mk sa ps x ds) := ⟨m1, l2, o2, o3, d1, d2, d3, fun s e => by
        obtain ⟨j, hj, hlt⟩ := u2 s e
        exact ⟨a, j, g1, hj, hlt⟩⟩
      have add : ∀ t, TO t → ∃ s', (((pIdx (.list (ss.map .str)) (.int (a : Int))).bind fun x50 => some (PyData.tuple [x50, .tuple (ps.map Part.d), x.d, .tuple (ds.map Dem.d)])).bind fun y51 => (pApp (.list (rs2.map Rule.d)) y51).bind fun z49 => (some (.nx (t, z49)) : Option (Ctl (D × D) (D × D) (D × D)))) = some (.nx s') ∧ ∃ (rs2 : List Rule) (t : D), s' = (t, .list (rs2.map Rule.d)) ∧ rs2.length ≤ ss.length + (i + 1) ∧ (∀ r ∈ rs2, RuleOk n ss r) ∧ (∀ r ∈ rs, r ∈ rs2) ∧ TO t := fun t ht => by
        simp -implicitDefEqProofs only [x1, Option.bind_some]
        rw [pApp_l (by simp; omega)]
        refine ⟨_, rfl, rs2 ++ [Rule.mk sa ps x ds], t, by simp [Rule.d], by simp; omega, fun r hr => ?_, fun r hr => List.mem_append_left _ (hsub r hr), ht⟩
        rcases List.mem_append.mp hr with hr | hr
        · exact hok r hr
        · rw [List.mem_singleton.mp hr]; exact newok
      simp -implicitDefEqProofs only [pLen_l, List.length_map, e1, Option.bind_some, e2, e3, pLen_t, e4, x1, pIter_l, hcut, Option.map_some, hni, dBool_bool]
      by_cases hm : RK.mk sa ps ∈ rs2.map fun r => RK.mk r.l r.ps
      · rw [decide_eq_true hm]
        obtain ⟨k9, t9, e9, b9, h9⟩ := tk 12 h4
        simp -implicitDefEqProofs only [Bool.not_true, Bool.false_eq_true, if_false, e9, Option.bind_some, pEq_int, dBool_bool, Option.map_some]
        by_cases q : (k9 : Int) = 0
        · rw [decide_eq_true q]
          simpa -implicitDefEqProofs only [x1, Option.bind_some, if_true] using add t9 h9
        · rw [decide_eq_false q]
          exact ⟨_, rfl, rs2, t9, rfl, by omega, hok, hsub, h9⟩
      · rw [decide_eq_false hm]
        simpa -implicitDefEqProofs only [x1, Option.bind_some, if_true, Bool.not_false] using add t4 h4)
  rw [e]
  obtain ⟨rs3, t8, e8, p8, h8⟩ := turned_ok (enc := Rule.d) h7 (xs := rs2) (by omega)
  obtain ⟨ks, s0, t9, e9, b9, g9, x9, m9, h9⟩ := draw (xs := ss) (enc := PyData.str) h8 (by omega) (by omega)
  have rl3 : rs3.length = rs2.length := p8.length_eq
  have rb2 : 1 ≤ rs2.length := by
    have hr : rs[0]'(by omega) ∈ rs2 := rsub _ (List.getElem_mem _)
    exact List.length_pos_of_mem hr
  have rok3 : ∀ r ∈ rs3, RuleOk n ss r := fun r hr => rok2 r (p8.mem_iff.mp hr)
  obtain ⟨bs, t10, e10, bl, bo, bsort, h10⟩ := bars_ok h9 n0 n5 (rs := rs3) (ss := ss) (by omega) (by omega) rok3
  simp -implicitDefEqProofs only [Ctl.seq_nx, e8, Option.bind_some, e9, x9, Option.map_some, pTuple_l, e10, Ctl.fin_rt]
  refine ⟨ss, ⟨s0, rs3, bs⟩, t10, rfl, ⟨⟨n0, n5⟩, ⟨sl1, sl4⟩, sn, so, m9, ⟨by show 1 ≤ rs3.length; omega, by show rs3.length ≤ 12; omega⟩, rok3, fun s hs => ?_, bl, bo, bsort⟩, h10⟩
  obtain ⟨j, hj⟩ := List.mem_iff_getElem?.mp hs
  obtain ⟨r, hr, z⟩ := rbase j s (List.getElem?_eq_some_iff.mp hj).1 hj
  exact ⟨r, p8.mem_iff.mpr (rsub r hr), z⟩
end P
namespace P
open PySem PySem.Spec L2 Z
/-! ## words -/
def wd (w : Str × Str) : D := .tuple [.str w.1, .str w.2]
def WdOk (w : Str × Str) : Prop := w.2.length ≤ 8
theorem texts_ok : ∀ s ∈ texts, ∃ c r, s = Z.st (c :: r) ∧ r.length ≤ 7 := by
  have : (texts.all fun s => match s.cps.toList with | [] => false | _ :: r => decide (r.length ≤ 7)) = true := by decide +kernel
  intro s hs
  have h := List.all_eq_true.mp this s hs
  cases e : s.cps.toList with
  | nil => rw [e] at h; cases h
  | cons c r =>
    rw [e] at h
    exact ⟨c, r, by rw [← e, st_eta], of_decide_eq_true h⟩
theorem word_ok {t : D} (h : TO t) {ss : List Str} (so : ∀ s ∈ ss, SymOk s) {p : Part} (hp : p.ok ss) (hs : p.isSym = false) : ∃ (w : Str × Str) (t' : D), m__law_word t p.d = some (wd w, t') ∧ WdOk w ∧ TO t' := by
  unfold m__law_word m__law_word_b
  have kk : ∀ (q : String) (b : Bool) (hb : b = decide (Str.ofString q = Str.ofString "number")), ∃ (w : Str × Str) (t' : D), Ctl.fin Empty.elim (Ctl.ex ((((pIdx (.tuple [S "kind", S q]) (.int 1)).bind fun x2 => (pEq x2 (S "number")).bind dBool).bind fun k3 => if k3 = true then some (.list [(S "1"), (S "23"), (S "1"), (S "7")]) else some (.list [(S "a"), (S "if"), (S "word"), (S "number")])).bind fun x4 => ((pIdx (.tuple [S "kind", S q]) (.int 1)).bind fun x5 => ((some (x4, t)).bind fun r6 => (m__law_take r6.2 (.int 4)).bind fun r7 => (pIdx r6.1 r7.1).map fun z8 => (z8, r7.2)).bind fun r9 => some (.tuple [x5, r9.1], r9.2)).bind fun r10 => some (.rt (r10.1, r10.2)) : Option (Ctl Unit Empty (D × D))) : Option (Ctl Empty Empty (D × D))) = some (wd w, t') ∧ WdOk w ∧ TO t' := by
    intro q b hb
    obtain ⟨k, t1, e1, b1, h1⟩ := tk 4 h
    simp -implicitDefEqProofs only [t21, Option.bind_some, S, pEq_str, dBool_bool, ← hb]
    have hk : k = 0 ∨ k = 1 ∨ k = 2 ∨ k = 3 := by omega
    have : ∃ s : Str, s.length ≤ 8 ∧ ∃ xs : List D, (if b = true then some (PyData.list [(S "1"), (S "23"), (S "1"), (S "7")]) else some (.list [(S "a"), (S "if"), (S "word"), (S "number")])) = some (.list xs) ∧ pIdx (.list xs) (.int (k : Int)) = some (.str s) := by
      cases b <;> rcases hk with rfl | rfl | rfl | rfl <;> exact ⟨_, by decide, _, rfl, rfl⟩
    obtain ⟨s, hs8, xs, ex, ei⟩ := this
    simp -implicitDefEqProofs only [S] at ex
    rw [ex]
    simp -implicitDefEqProofs only [Option.bind_some, e1, ei, Option.map_some, Ctl.ex, Ctl.fin_rt]
    exact ⟨(Str.ofString q, s), t1, rfl, hs8, h1⟩
  have kd : pIdx (.tuple [S "kind", S "x"]) (.int 0) = some (S "kind") := rfl
  cases p with
  | sym s => cases hs
  | num =>
    simp -implicitDefEqProofs only [Part.d, t20, Option.bind_some]
    rw [show pEq (S "kind") (S "kind") = some (.bool true) from by rw [pEq_str]; simp]
    simp -implicitDefEqProofs only [Option.bind_some, dBool_bool, if_true]
    exact kk "number" true (by simp)
  | wrd =>
    simp -implicitDefEqProofs only [Part.d, t20, Option.bind_some]
    rw [show pEq (S "kind") (S "kind") = some (.bool true) from by rw [pEq_str]; simp]
    simp -implicitDefEqProofs only [Option.bind_some, dBool_bool, if_true]
    exact kk "word" false (by decide)
  | txt s =>
    simp -implicitDefEqProofs only [Part.d, t20, Option.bind_some]
    rw [show pEq (S "text") (S "kind") = some (.bool false) from by rw [pEq_str, decide_eq_false (by decide)]]
    have hsx : ∃ c r, s = Z.st (c :: r) ∧ r.length ≤ 7 := by
      rcases hp with hp | hp
      · exact texts_ok s hp
      · obtain ⟨c, r, h1, _, _, _, h5⟩ := so s hp
        exact ⟨c, r, h1, by omega⟩
    obtain ⟨c, r, rfl, hr⟩ := hsx
    have e0 : pIdx (.str (Z.st (c :: r))) (.int 0) = some (.str (Z.st [c])) := pIdx_s (k := 0) (by show (c :: r).length ≤ 100000; simp; omega) rfl
    simp -implicitDefEqProofs only [Option.bind_some, dBool_bool, Bool.false_eq_true, if_false, t21, e0, S, pIn_one]
    generalize decide (c ∈ (_ : List Nat)) = b
    have : ∃ q : Str, (if b = true then some (PyData.str (Str.ofString "word")) else some (.str (Str.ofString "mark"))) = some (.str q) := by cases b <;> exact ⟨_, rfl⟩
    obtain ⟨q, eq⟩ := this
    rw [eq]
    simp -implicitDefEqProofs only [Option.bind_some, Ctl.fin_rt]
    exact ⟨(q, Z.st (c :: r)), t, rfl, by show (c :: r).length ≤ 8; simp; omega, h⟩
/-! ## sentences -/
theorem part_issym (p : Part) : ∃ s : Str, pIdx p.d (.int 0) = some (.str s) ∧ decide (s = Str.ofString "symbol") = p.isSym := by
  cases p
  · exact ⟨_, rfl, by decide⟩
  · exact ⟨_, rfl, by decide⟩
  · exact ⟨_, rfl, show decide (Str.ofString "text" = Str.ofString "symbol") = false by decide⟩
  · exact ⟨_, rfl, show decide (Str.ofString "symbol" = Str.ofString "symbol") = true by decide⟩
theorem part_ne (p : Part) : (pIdx p.d (.int 0)).bind (fun x18 => pNe x18 (S "symbol")) = some (.bool (!p.isSym)) := by
  obtain ⟨s, h1, h2⟩ := part_issym p
  rw [h1]
  simp -implicitDefEqProofs only [Option.bind_some, S, pNe_str, h2]
theorem part_eq (p : Part) : (pIdx p.d (.int 0)).bind (fun x18 => (pEq x18 (S "symbol")).bind dBool) = some p.isSym := by
  obtain ⟨s, h1, h2⟩ := part_issym p
  rw [h1]
  simp -implicitDefEqProofs only [Option.bind_some, S, pEq_str, h2, dBool_bool]
theorem sentence_ok {n : Nat} {ss : List Str} {g : Gram} (G : GramOk n ss g) : ∀ (f deep : Nat) (t : D) (s : Str), deep < f → deep ≤ 6 → TO t → s ∈ ss → ∃ (ws : List (Str × Str)) (t' : D), m__law_sentence f t g.d (.str s) (.int (deep : Int)) = some (.list (ws.map wd), t') ∧ 1 ≤ ws.length ∧ ws.length ≤ 3 ^ (deep + 1) ∧ (∀ w ∈ ws, WdOk w) ∧ TO t'
  | 0, _, _, _, h, _, _, _ => by omega
  | f + 1, deep, t, s, hf, h6, ht, hs => by
    unfold m__law_sentence m__law_sentence_b
    have g1 : pIdx g.d (.int 1) = some (.tuple (g.rs.map Rule.d)) := rfl
    have hfil : lcI (fun x3 => (pIdx x3 (.int 0)).bind fun x4 => (pEq x4 (.str s)).bind dBool) (fun x3 => some x3) (g.rs.map Rule.d) = some ((g.rs.filter fun r => decide (r.l = s)).map Rule.d) := by
      refine lcI_map (fun r _ => ?_) (fun r _ => rfl)
      have : pIdx r.d (.int 0) = some (.str r.l) := rfl
      simp -implicitDefEqProofs only [this, Option.bind_some, pEq_str, dBool_bool]
    generalize hrs : g.rs.filter (fun r => decide (r.l = s)) = rs at hfil
    obtain ⟨r0, hr0, l0, p0, q0, z0⟩ := G.base s hs
    have m0 : r0 ∈ rs := by rw [← hrs]; exact List.mem_filter.mpr ⟨hr0, decide_eq_true l0⟩
    have rsub : ∀ r ∈ rs, r ∈ g.rs := fun r hr => by rw [← hrs] at hr; exact (List.mem_filter.mp hr).1
    have rlen : rs.length ≤ 12 := by rw [← hrs]; exact Nat.le_trans (List.length_filter_le _ _) G.rl.2
    obtain ⟨k, r, t1, e1, b1, g1', x1, mr, h1⟩ := draw (xs := rs) (enc := Rule.d) ht (List.length_pos_of_mem m0) (by omega)
    simp -implicitDefEqProofs only [g1, Option.bind_some, pIter_t, hfil, Option.map_some, pLen_l, List.length_map, e1, x1, pLe_int, dBool_bool]
    have hsel : ∃ r' : Rule, r' ∈ g.rs ∧ (deep = 0 → ∀ p ∈ r'.ps, p.isSym = false) ∧ ((if (!decide ((0 : Int) < (deep : Int))) = true then (((pIter (.list (rs.map Rule.d))).bind fun xs13 => (lcI (fun x14 => ((((pIdx x14 (.int 1)).bind pIter).bind fun xs16 => (lcM (fun x17 => (pIdx x17 (.int 0)).bind fun x18 => pNe x18 (S "symbol")) xs16).map .list).bind fun x19 => pAll x19).bind pTru) (fun x14 => some x14) xs13).map .list).bind fun x20 => pIdx x20 (.int 0)).bind fun x21 => some (.nx x21) else some (.nx r.d) : Option (Ctl D Empty (D × D))) = some (.nx r'.d)) := by
      by_cases q : (0 : Int) < deep
      · rw [decide_eq_true q]
        exact ⟨r, rsub r mr, fun e => by omega, rfl⟩
      · rw [decide_eq_false q]
        have hf2 : lcI (fun x14 => ((((pIdx x14 (.int 1)).bind pIter).bind fun xs16 => (lcM (fun x17 => (pIdx x17 (.int 0)).bind fun x18 => pNe x18 (S "symbol")) xs16).map .list).bind fun x19 => pAll x19).bind pTru) (fun x14 => some x14) (rs.map Rule.d) = some ((rs.filter fun r => r.ps.all fun p => !p.isSym).map Rule.d) := by
          refine lcI_map (fun r _ => ?_) (fun r _ => rfl)
          have : pIdx r.d (.int 1) = some (.tuple (r.ps.map Part.d)) := rfl
          have h := all_lc (enc := Part.d) (f := fun x17 => (pIdx x17 (.int 0)).bind fun x18 => pNe x18 (S "symbol")) (g := fun p => !p.isSym) (xs := r.ps) (fun p _ => part_ne p)
          simp -implicitDefEqProofs only [this, Option.bind_some, pIter_t, h, pTru_bool]
        have m2 : r0 ∈ rs.filter fun r => r.ps.all fun p => !p.isSym := List.mem_filter.mpr ⟨m0, by rw [q0]; simp [z0]⟩
        generalize hr2 : rs.filter (fun r => r.ps.all fun p => !p.isSym) = rs2 at hf2 m2
        cases rs2 with
        | nil => cases m2
        | cons r2 rest =>
          have hm : r2 ∈ rs.filter fun r => r.ps.all fun p => !p.isSym := by rw [hr2]; exact List.mem_cons_self
          obtain ⟨hm1, hm2⟩ := List.mem_filter.mp hm
          refine ⟨r2, rsub r2 hm1, fun _ p hp => by simpa using List.all_eq_true.mp hm2 p hp, ?_⟩
          simp -implicitDefEqProofs only [Bool.not_false, if_true, pIter_l, Option.bind_some, hf2, Option.map_some, List.map_cons, l_hd]
    obtain ⟨r', hr', hz, er⟩ := hsel
    rw [er]
    have x1' : pIdx r'.d (.int 1) = some (.tuple (r'.ps.map Part.d)) := rfl
    have hro := G.rs r' hr'
    simp -implicitDefEqProofs only [Ctl.seq_nx, x1', Option.bind_some, pIter_t]
    generalize hst : (fun (x23 : D) (s22 : D × D) => _ : D → D × D → Option (Ctl (D × D) (D × D) (D × D))) = F
    have hpw : (3 : Nat) ^ (deep + 1) = 3 * 3 ^ deep := by rw [Nat.pow_succ]; omega
    have hp7 : (3 : Nat) ^ deep ≤ 3 ^ 6 := Nat.pow_le_pow_right (by decide) h6
    have hp0 : 1 ≤ (3 : Nat) ^ deep := Nat.pow_pos (by decide)
    have h36 : (3 : Nat) ^ 6 = 729 := by decide
    obtain ⟨s', e, ws, t', rfl, hl1, hl2, hok, ht'⟩ := forC_inv (F := F) (L := Empty) (enc := Part.d)
      (I := fun done s => ∃ (ws : List (Str × Str)) (t : D), s = (.list (ws.map wd), t) ∧ done.length ≤ ws.length ∧ ws.length ≤ done.length * 3 ^ deep ∧ (∀ w ∈ ws, WdOk w) ∧ TO t) r'.ps [] (.list [], t1)
      ⟨[], t1, rfl, by simp, by simp, by simp, h1⟩
      (fun d1 p d2 s es ⟨ws, t, e, hl1, hl2, hok, ht⟩ => by
        subst e
        subst hst
        have hmem : p ∈ r'.ps := by
          have : p ∈ [] ++ r'.ps := by rw [es]; simp
          simpa using this
        have hd1 : d1.length < 3 := by
          have := congrArg List.length es
          simp at this
          have := hro.len
          omega
        have hd3 : d1.length * 3 ^ deep ≤ 2 * 3 ^ deep := Nat.mul_le_mul_right _ (by omega)
        have hmul : (d1 ++ [p]).length * 3 ^ deep = d1.length * 3 ^ deep + 3 ^ deep := by simp [Nat.add_mul]
        have hpe := part_eq p
        simp -implicitDefEqProofs only [hpe, Option.bind_some]
        cases hsy : p.isSym with
        | true =>
          have hd0 : deep ≠ 0 := fun e => by rw [hz e p hmem] at hsy; cases hsy
          obtain ⟨d', rfl⟩ : ∃ d', deep = d' + 1 := ⟨deep - 1, by omega⟩
          cases p with
          | sym q =>
            have hq : q ∈ ss := hro.ps _ hmem
            have z1 : pIdx (Part.sym q).d (.int 1) = some (.str q) := rfl
            obtain ⟨ws2, t2, e2, w1, w2, w3, h2⟩ := sentence_ok G f d' t q (by omega) (by omega) ht hq
            have ed : ((d' + 1 : Nat) : Int) - 1 = (d' : Int) := by omega
            simp -implicitDefEqProofs only [if_true, z1, Option.bind_some, pSub_int, ed, e2]
            rw [pCat_ll (by simp; omega)]
            refine ⟨_, rfl, ws ++ ws2, t2, by simp, by simp; omega, by rw [hmul]; simp; omega, fun w hw => ?_, h2⟩
            rcases List.mem_append.mp hw with hw | hw
            · exact hok w hw
            · exact w3 w hw
          | _ => cases hsy
        | false =>
          obtain ⟨w, t2, e2, w1, h2⟩ := word_ok ht G.so (hro.ps p hmem) hsy
          simp -implicitDefEqProofs only [Bool.false_eq_true, if_false, e2, Option.bind_some]
          rw [pApp_l (by simp; omega)]
          refine ⟨_, rfl, ws ++ [w], t2, by simp, by simp; omega, by rw [hmul]; simp; omega, fun v hv => ?_, h2⟩
          rcases List.mem_append.mp hv with hv | hv
          · exact hok v hv
          · rw [List.mem_singleton.mp hv]; exact w1)
    rw [e]
    simp -implicitDefEqProofs only [Ctl.seq_nx, Ctl.fin_rt]
    have h3 := hro.len
    simp only [List.nil_append] at hl1 hl2
    have : r'.ps.length * 3 ^ deep ≤ 3 * 3 ^ deep := Nat.mul_le_mul_right _ h3.2
    exact ⟨ws, t', rfl, by omega, by omega, hok, ht'⟩
end P
namespace P
open PySem PySem.Spec L2 Z
/-! ## folded tokens -/
theorem folded_ok {n : Nat} {ss : List Str} {g : Gram} (G : GramOk n ss g) {t : D} (ht : TO t) {most : Nat} (m0 : 1 ≤ most) (m9 : most ≤ 100) : ∃ (f : List Fd) (t' : D), m__law_folded t g.d (.int (n : Int)) (.int (most : Int)) = some (dFold f, t') ∧ FoldOk n most f ∧ TO t' := by
  obtain ⟨n0, n5⟩ := G.nn
  have g0 : pIdx g.d (.int 0) = some (.str g.st) := rfl
  obtain ⟨k1, t1, e1, b1, h1⟩ := tk 3 ht
  have ed : (1 : Int) + (k1 : Int) = ((1 + k1 : Nat) : Int) := by omega
  obtain ⟨ws, t2, e2, w1, w2, w3, h2⟩ := sentence_ok G 8 (1 + k1) t1 g.st (by omega) (by omega) h1 G.st
  have hws : ws.length ≤ 1000 := by
    have : (3 : Nat) ^ (1 + k1 + 1) ≤ 3 ^ 4 := Nat.pow_le_pow_right (by decide) (by omega)
    have : (3 : Nat) ^ 4 = 81 := by decide
    omega
  obtain ⟨k3, t3, e3, b3, h3⟩ := tk 3 h2
  obtain ⟨k4, t4, e4, b4, h4⟩ := tk 3 h3
  have hd : ∃ (x : Dg) (t5 : D), (if decide ((k4 : Int) = 0) = true then m__law_diagram t4 (.int (n : Int)) else some (PyData.bool true, t4)) = some (x.d, t5) ∧ DgOk n x ∧ TO t5 := by
    by_cases q : (k4 : Int) = 0
    · rw [decide_eq_true q]; exact diagram_dg h4 n0 n5
    · rw [decide_eq_false q]; exact ⟨.leaf true, t4, rfl, dg_true n, h4⟩
  obtain ⟨x5, t5, e5, o5, h5⟩ := hd
  unfold m__law_folded m__law_folded_b
  simp -implicitDefEqProofs only [g0, Option.bind_some, e1, pAdd_int, Option.map_some, ed, e2, e3, e4, pEq_int, dBool_bool, e5, pOpt_int, sl_lt, pIter_l]
  rw [← List.map_take]
  generalize hst : (fun (x14 : D) (s13 : D × D × D × D × D × D × D) => _ : D → D × D × D × D × D × D × D → Option (Ctl (D × D × D × D × D × D × D) (D × D × D × D × D × D × D) (D × D))) = F
  obtain ⟨s', e, col, fh, be, row, x, t', f, rfl, hl, hne, hdg, htx, hx, ht'⟩ := forC_inv (F := F) (L := Empty) (enc := wd)
    (I := fun done s => ∃ (col : Nat) (fh : Bool) (be : Str) (row : Nat) (x : Dg) (t : D) (f : List Fd), s = (.int (col : Int), .bool fh, .str be, .int (row : Int), x.d, t, .list (f.map Fd.d)) ∧ f.length ≤ 2 * done.length ∧ done.length ≤ f.length ∧ (∀ z ∈ f, DgOk n z.2) ∧ (∀ z ∈ f, z.1.t.length ≤ 8) ∧ DgOk n x ∧ TO t) (ws.take most) [] (.int (k3 : Int), .bool true, S "mark", .int 0, x5.d, t5, .list [])
    ⟨k3, true, Str.ofString "mark", 0, x5, t5, [], rfl, by simp, by simp, by simp, by simp, o5, h5⟩
    (fun d1 w d2 s es ⟨col, fh, be, row, x, t, f, e, hl, hne, hdg, htx, hx, ht⟩ => by
      subst e
      subst hst
      have hw : w ∈ ws := by
        have : w ∈ [] ++ ws.take most := by rw [es]; simp
        exact List.mem_of_mem_take (by simpa using this)
      have hw8 : w.2.length ≤ 8 := w3 w hw
      have hd1 : d1.length < most := by
        have := congrArg List.length es
        simp at this
        omega
      have hdl : (d1 ++ [w]).length = d1.length + 1 := by simp
      simp -implicitDefEqProofs only [pLen_l, List.length_map, Option.bind_some, pGt_int, dBool_bool, Option.map_some]
      generalize hT : (fun (n23 : D × D × D × D × D) => _ : D × D × D × D × D → Option (Ctl (D × D × D × D × D × D × D) (D × D × D × D × D × D × D) (D × D))) = T
      have tail : ∀ (row col : Nat) (t : D) (x : Dg) (fh : Bool), DgOk n x → TO t → ∃ s', T (.int (row : Int), .int (col : Int), t, x.d, .bool fh) = some (.nx s') ∧ ∃ (col : Nat) (fh : Bool) (be : Str) (row : Nat) (x : Dg) (t : D) (f : List Fd), s' = (.int (col : Int), .bool fh, .str be, .int (row : Int), x.d, t, .list (f.map Fd.d)) ∧ f.length ≤ 2 * (d1 ++ [w]).length ∧ (d1 ++ [w]).length ≤ f.length ∧ (∀ z ∈ f, DgOk n z.2) ∧ (∀ z ∈ f, z.1.t.length ≤ 8) ∧ DgOk n x ∧ TO t := by
        intro row col t x fh hx ht
        subst hT
        obtain ⟨k6, t6, e6, b6, h6⟩ := tk 2 ht
        have w0 : pIdx (wd w) (.int 0) = some (.str w.1) := rfl
        have w1 : pIdx (wd w) (.int 1) = some (.str w.2) := rfl
        have wl : pLen (.str w.2) = some (.int (w.2.length : Int)) := by rw [pLen_s, if_pos (small_size (by omega))]
        simp -implicitDefEqProofs only [e6, Option.bind_some, pTru_bool, Option.map_some, w0, S, pEq_str, dBool_bool, pNe_str]
        generalize hU : (fun (n36 : D) => _ : D → Option (Ctl (D × D × D × D × D × D × D) (D × D × D × D × D × D × D) (D × D))) = U
        have tail2 : ∀ gap : Nat, ∃ s', U (.int (gap : Int)) = some (.nx s') ∧ ∃ (col : Nat) (fh : Bool) (be : Str) (row : Nat) (x : Dg) (t : D) (f : List Fd), s' = (.int (col : Int), .bool fh, .str be, .int (row : Int), x.d, t, .list (f.map Fd.d)) ∧ f.length ≤ 2 * (d1 ++ [w]).length ∧ (d1 ++ [w]).length ≤ f.length ∧ (∀ z ∈ f, DgOk n z.2) ∧ (∀ z ∈ f, z.1.t.length ≤ 8) ∧ DgOk n x ∧ TO t := by
          intro gap
          subst hU
          have hgl : ∃ gl : Bool, (if (!fh) = true then pEq (.int (gap : Int)) (.int 0) else some (PyData.bool (!fh))) = some (.bool gl) := by
            cases fh
            · exact ⟨_, by rw [pEq_int]; rfl⟩
            · exact ⟨_, rfl⟩
          obtain ⟨gl, egl⟩ := hgl
          have ec : (col : Int) + (gap : Int) = ((col + gap : Nat) : Int) := by omega
          have etok : pAdd (wd w) (.tuple [.int (row : Int), .int ((col + gap : Nat) : Int), .bool gl]) = some (Tok.mk w.1 w.2 row (col + gap) gl).d := rfl
          have hz1 : ∀ z ∈ f ++ [((Tok.mk w.1 w.2 row (col + gap) gl, x) : Fd)], DgOk n z.2 := fun z hz => by
            rcases List.mem_append.mp hz with hz | hz
            · exact hdg z hz
            · rw [List.mem_singleton.mp hz]; exact hx
          have hz2 : ∀ z ∈ f ++ [((Tok.mk w.1 w.2 row (col + gap) gl, x) : Fd)], z.1.t.length ≤ 8 := fun z hz => by
            rcases List.mem_append.mp hz with hz | hz
            · exact htx z hz
            · rw [List.mem_singleton.mp hz]; exact hw8
          have ef : PyData.list (f.map Fd.d ++ [.tuple [(Tok.mk w.1 w.2 row (col + gap) gl).d, x.d]]) = .list ((f ++ [((Tok.mk w.1 w.2 row (col + gap) gl, x) : Fd)]).map Fd.d) := by simp [Fd.d]
          have ec2 : ((col + gap : Nat) : Int) + (w.2.length : Int) = ((col + gap + w.2.length : Nat) : Int) := by omega
          simp -implicitDefEqProofs only [pAdd_int, Option.bind_some, pNot_b, pTru_bool, egl, ec, etok]
          rw [pApp_l (by simp; omega), ef]
          generalize hf' : f ++ [((Tok.mk w.1 w.2 row (col + gap) gl, x) : Fd)] = f' at hz1 hz2
          have hl' : f'.length = f.length + 1 := by rw [← hf']; simp
          simp -implicitDefEqProofs only [Option.bind_some, w0, w1, wl, pAdd_int, ec2, pLen_l, List.length_map, pLt_int, dBool_bool, Option.map_some]
          have stop : ∀ t', TO t' → ∃ s', (some (.nx (.int ((col + gap + w.2.length : Nat) : Int), .bool false, .str w.1, .int (row : Int), x.d, t', .list (f'.map Fd.d))) : Option (Ctl (D × D × D × D × D × D × D) (D × D × D × D × D × D × D) (D × D))) = some (.nx s') ∧ ∃ (col : Nat) (fh : Bool) (be : Str) (row : Nat) (x : Dg) (t : D) (f : List Fd), s' = (.int (col : Int), .bool fh, .str be, .int (row : Int), x.d, t, .list (f.map Fd.d)) ∧ f.length ≤ 2 * (d1 ++ [w]).length ∧ (d1 ++ [w]).length ≤ f.length ∧ (∀ z ∈ f, DgOk n z.2) ∧ (∀ z ∈ f, z.1.t.length ≤ 8) ∧ DgOk n x ∧ TO t := fun t' ht' =>
            ⟨_, rfl, col + gap + w.2.length, false, w.1, row, x, t', f', rfl, by rw [hdl]; omega, by rw [hdl]; omega, hz1, hz2, hx, ht'⟩
          by_cases q : (f'.length : Int) < (most : Int)
          · rw [decide_eq_true q]
            obtain ⟨k7, t7, e7, b7, h7⟩ := tk 8 h6
            simp -implicitDefEqProofs only [if_true, e7, Option.bind_some, pEq_int, dBool_bool, Option.map_some]
            by_cases q7 : (k7 : Int) = 0
            · rw [decide_eq_true q7]
              obtain ⟨k8, t8, e8, b8, h8⟩ := tk 2 h7
              simp -implicitDefEqProofs only [if_true, e8, Option.bind_some, pEq_int, dBool_bool, Option.map_some]
              -- the other word
              have other : ∃ (v : Str × Str) (t9 : D), (if decide ((k8 : Int) = 0) = true then (m__law_take t8 (.int 6)).bind fun r62 => (pIdx (.list [(.tuple [(S "mark"), (S "+")]), (.tuple [(S "number"), (S "1")]), (.tuple [(S "word"), (S "number")]), (.tuple [(S "mark"), (S ";")]), (.tuple [(S "mark"), (S ")")]), (.tuple [(S "word"), (S "if")])]) r62.1).map fun z63 => (z63, r62.2) else some (wd w, t8)) = some (wd v, t9) ∧ v.2.length ≤ 8 ∧ TO t9 := by
                by_cases q8 : (k8 : Int) = 0
                · rw [decide_eq_true q8]
                  obtain ⟨k9, t9, e9, b9, h9⟩ := tk 6 h8
                  simp -implicitDefEqProofs only [if_true, e9, Option.bind_some]
                  have hk : k9 = 0 ∨ k9 = 1 ∨ k9 = 2 ∨ k9 = 3 ∨ k9 = 4 ∨ k9 = 5 := by omega
                  rcases hk with rfl | rfl | rfl | rfl | rfl | rfl
                  · exact ⟨(Str.ofString "mark", Str.ofString "+"), t9, rfl, by decide, h9⟩
                  · exact ⟨(Str.ofString "number", Str.ofString "1"), t9, rfl, by decide, h9⟩
                  · exact ⟨(Str.ofString "word", Str.ofString "number"), t9, rfl, by decide, h9⟩
                  · exact ⟨(Str.ofString "mark", Str.ofString ";"), t9, rfl, by decide, h9⟩
                  · exact ⟨(Str.ofString "mark", Str.ofString ")"), t9, rfl, by decide, h9⟩
                  · exact ⟨(Str.ofString "word", Str.ofString "if"), t9, rfl, by decide, h9⟩
                · rw [decide_eq_false q8]; exact ⟨w, t8, rfl, hw8, h8⟩
              obtain ⟨v, t9, e9, v8, h9⟩ := other
              obtain ⟨k10, t10, e10, b10, h10⟩ := tk 4 h9
              obtain ⟨x11, t11, e11, o11, h11⟩ := switch_dg h10 n0 n5
              obtain ⟨k12, t12, e12, b12, h12⟩ := tk 3 h11
              have er1 : (row : Int) + 1 = ((row + 1 : Nat) : Int) := by omega
              have er2 : (row : Int) + 2 = ((row + 2 : Nat) : Int) := by omega
              have ev : pAdd (wd v) (.tuple [.int ((row + 1 : Nat) : Int), .int (k10 : Int), .bool false]) = some (Tok.mk v.1 v.2 (row + 1) k10 false).d := rfl
              simp -implicitDefEqProofs only [S] at e9
              simp -implicitDefEqProofs only [e9, Option.bind_some, pAdd_int, er1, e10, ev, Option.map_some, e11]
              rw [pApp_l (by simp; omega)]
              simp -implicitDefEqProofs only [Option.bind_some, pAdd_int, er2, e12]
              refine ⟨_, rfl, k12, true, w.1, row + 2, x, t12, f' ++ [((Tok.mk v.1 v.2 (row + 1) k10 false, x11) : Fd)], by simp [Fd.d], by rw [hdl, List.length_append, List.length_singleton]; omega, by rw [hdl, List.length_append, List.length_singleton]; omega, fun z hz => ?_, fun z hz => ?_, hx, h12⟩
              · rcases List.mem_append.mp hz with hz | hz
                · exact hz1 z hz
                · rw [List.mem_singleton.mp hz]; exact o11
              · rcases List.mem_append.mp hz with hz | hz
                · exact hz2 z hz
                · rw [List.mem_singleton.mp hz]; exact v8
            · rw [decide_eq_false q7]
              exact stop t7 h7
          · rw [decide_eq_false q]
            exact stop t6 h6
        have gaps : ∀ b : Bool, ∃ gap : Nat, ((if b = true then some (.nx (.int 1)) else some (.nx (.int (k6 : Int)))) : Option (Ctl D (D × D × D × D × D × D × D) (D × D))) = some (.nx (.int (gap : Int))) := fun b => by
          cases b
          · exact ⟨k6, rfl⟩
          · exact ⟨1, rfl⟩
        have cond : ∃ b : Bool, (if (!fh) = true then (if decide (be = Str.ofString "word") = true then some (!decide (w.1 = Str.ofString "mark")) else some false).bind fun k34 => if k34 = true then some true else if decide (be = Str.ofString "number") = true then some (decide (w.1 = Str.ofString "number")) else some false else some false) = some b := by
          cases fh <;> cases decide (be = Str.ofString "word") <;> cases decide (w.1 = Str.ofString "mark") <;> cases decide (be = Str.ofString "number") <;> cases decide (w.1 = Str.ofString "number") <;> exact ⟨_, rfl⟩
        obtain ⟨b, eb⟩ := cond
        obtain ⟨gap, eg⟩ := gaps b
        rw [eb]
        simp -implicitDefEqProofs only [Option.bind_some]
        rw [eg]
        simp -implicitDefEqProofs only [Ctl.seq_nx]
        exact tail2 gap
      by_cases q : (0 : Int) < (f.length : Int)
      · rw [decide_eq_true q]
        obtain ⟨k6, t6, e6, b6, h6⟩ := tk 3 ht
        simp -implicitDefEqProofs only [if_true, e6, Option.bind_some, pEq_int, dBool_bool, Option.map_some]
        by_cases q6 : (k6 : Int) = 0
        · rw [decide_eq_true q6]
          obtain ⟨k7, t7, e7, b7, h7⟩ := tk 3 h6
          obtain ⟨x8, t8, e8, o8, h8⟩ := diagram_dg h7 n0 n5
          have er1 : (row : Int) + 1 = ((row + 1 : Nat) : Int) := by omega
          simp -implicitDefEqProofs only [if_true, pAdd_int, er1, Option.bind_some, e7, e8, Ctl.seq_nx]
          exact tail (row + 1) k7 t8 x8 true o8 h8
        · rw [decide_eq_false q6]
          simp -implicitDefEqProofs only [Bool.false_eq_true, if_false, Ctl.seq_nx]
          exact tail row col t6 x fh hx h6
      · rw [decide_eq_false q]
        simp -implicitDefEqProofs only [Bool.false_eq_true, if_false, Option.bind_some, Ctl.seq_nx]
        exact tail row col t x fh hx ht)
  have e' := e
  rw [show (PyData.int 0) = .int ((0 : Nat) : Int) from rfl] at e' ⊢
  rw [e']
  simp -implicitDefEqProofs only [Ctl.seq_nx, sl_lt, Option.bind_some, Ctl.fin_rt]
  refine ⟨f.take most, t', by rw [dFold, List.map_take], ⟨by rw [List.length_take]; omega, ?_, fun z hz => hdg z (List.mem_of_mem_take hz), fun z hz => htx z (List.mem_of_mem_take hz)⟩, ht'⟩
  simp only [List.nil_append, List.length_take] at hne ⊢
  omega
theorem world_ok {t : D} (ht : TO t) {most : Nat} (m0 : 1 ≤ most) (m9 : most ≤ 100) : ∃ (n : Nat) (ss : List Str) (g : Gram) (f : List Fd) (t' : D), m__law_world t (.int (most : Int)) = some (.tuple [.int (n : Int), g.d, dFold f], t') ∧ GramOk n ss g ∧ FoldOk n most f ∧ (4 ≤ n → f.length ≤ 3) ∧ TO t' := by
  obtain ⟨k1, t1, e1, b1, h1⟩ := tk 3 ht
  obtain ⟨k2, t2, e2, b2, h2⟩ := tk 8 h1
  have head : ∃ (n : Nat) (t3 : D) (ms : Nat), ((if decide ((k2 : Int) = 0) = true then (Option.map (fun z13 => (z13, ((m__law_take t2 (.int 2)).getD (.none, .none)).2)) (pAdd (.int 4) ((m__law_take t2 (.int 2)).getD (.none, .none)).1)).bind fun r14 => (pMin2 (.int (most : Int)) (.int 3)).bind fun x15 => some (.nx (r14.1, r14.2, x15)) else some (.nx (.int (1 + (k1 : Int)), t2, .int (most : Int)))) : Option (Ctl (D × D × D) Empty (D × D))) = some (.nx (.int (n : Int), t3, .int (ms : Int))) ∧ 1 ≤ n ∧ n ≤ 5 ∧ 1 ≤ ms ∧ ms ≤ most ∧ (4 ≤ n → ms ≤ 3) ∧ TO t3 := by
    by_cases q : (k2 : Int) = 0
    · rw [decide_eq_true q]
      obtain ⟨k3, t3, e3, b3, h3⟩ := tk 2 h2
      have em : pMin2 (.int (most : Int)) (.int 3) = some (.int ((min most 3 : Nat) : Int)) := by
        show some (PyData.int (if (3 : Int) < (most : Int) then 3 else most)) = _
        by_cases h : (3 : Int) < (most : Int)
        · rw [if_pos h]; refine congrArg (fun i => some (PyData.int i)) ?_; omega
        · rw [if_neg h]; refine congrArg (fun i => some (PyData.int i)) ?_; omega
      rw [e3]
      simp -implicitDefEqProofs only [if_true, Option.getD_some, pAdd_int, Option.map_some, Option.bind_some, em]
      exact ⟨4 + k3, t3, min most 3, by rw [show (4 : Int) + (k3 : Int) = ((4 + k3 : Nat) : Int) by omega], by omega, by omega, by omega, by omega, by omega, h3⟩
    · rw [decide_eq_false q]
      exact ⟨1 + k1, t2, most, by rw [show (1 : Int) + (k1 : Int) = ((1 + k1 : Nat) : Int) by omega]; rfl, by omega, by omega, by omega, by omega, by omega, h2⟩
  obtain ⟨n, t3, ms, eh, n1, n5, ms1, msm, ms3, h3⟩ := head
  obtain ⟨ss, g, t4, e4, G, h4⟩ := grammar_ok h3 n1 n5
  obtain ⟨k5, t5, e5, b5, h5⟩ := tkl ms h4 (by omega) (by omega)
  have ek : (1 : Int) + (k5 : Int) = ((1 + k5 : Nat) : Int) := by omega
  obtain ⟨f, t6, e6, Fo, h6⟩ := folded_ok G h5 (most := 1 + k5) (by omega) (by omega)
  unfold m__law_world m__law_world_b
  simp -implicitDefEqProofs only [Option.bind_some, e1, pAdd_int, Option.map_some, e2, pEq_int, dBool_bool]
  have eh' : ((if decide ((k2 : Int) = 0) = true then ((m__law_take t2 (.int 2)).bind fun r12 => (pAdd (.int 4) r12.1).map fun z13 => (z13, r12.2)).bind fun r14 => (pMin2 (.int (most : Int)) (.int 3)).bind fun x15 => some (.nx (r14.1, r14.2, x15)) else some (.nx (.int (1 + (k1 : Int)), t2, .int (most : Int)))) : Option (Ctl (D × D × D) Empty (D × D))) = some (.nx (.int (n : Int), t3, .int (ms : Int))) := by
    obtain ⟨k3, t3', e3, b3, h3'⟩ := tk 2 h2
    rw [e3] at eh ⊢
    exact eh
  rw [eh']
  simp -implicitDefEqProofs only [Ctl.seq_nx, e4, Option.bind_some, e5, pAdd_int, Option.map_some, ek, e6, Ctl.fin_rt]
  refine ⟨n, ss, g, f, t6, rfl, G, ⟨?_, Fo.ne, Fo.dg, Fo.t⟩, fun h => ?_, h6⟩
  · have := Fo.len; omega
  · have := Fo.len; have := ms3 h; omega
end P
namespace P
open PySem PySem.Spec L2 Z
/-! ## the form of texts, parts, demands -/
def isTrue : Option D → Bool
  | some (.bool true) => true
  | _ => false
def isFalse : Option D → Bool
  | some (.bool false) => true
  | _ => false
theorem isTrue_ok {o : Option D} (h : isTrue o = true) : o = some (.bool true) := by
  unfold isTrue at h
  split at h
  · rfl
  · cases h
theorem isFalse_ok {o : Option D} (h : isFalse o = true) : o = some (.bool false) := by
  unfold isFalse at h
  split at h
  · rfl
  · cases h
def letters : List Nat := [97, 98, 99, 100, 101, 102, 103, 104, 105, 106, 107, 108, 109, 110, 111, 112, 113, 114, 115, 116, 117, 118, 119, 120, 121, 122] ++ [65, 66, 67, 68, 69, 70, 71, 72, 73, 74, 75, 76, 77, 78, 79, 80, 81, 82, 83, 84, 85, 86, 87, 88, 89, 90]
def figures : List Nat := [48, 49, 50, 51, 52, 53, 54, 55, 56, 57]
theorem caps_eq : Str.ofString "ABCDEFGHIJKLMNOPQRSTUVWXYZ" = Z.st [65, 66, 67, 68, 69, 70, 71, 72, 73, 74, 75, 76, 77, 78, 79, 80, 81, 82, 83, 84, 85, 86, 87, 88, 89, 90] := by decide +kernel
theorem small_eq : Str.ofString "abcdefghijklmnopqrstuvwxyz" = Z.st [97, 98, 99, 100, 101, 102, 103, 104, 105, 106, 107, 108, 109, 110, 111, 112, 113, 114, 115, 116, 117, 118, 119, 120, 121, 122] := by decide +kernel
theorem figs_eq : Str.ofString "0123456789" = Z.st figures := by decide +kernel
theorem marks_no : ∀ c, 65 ≤ c → c ≤ 90 → c ∉ (Str.ofString "+-*/(){};,=<>!:.?&|").cps.toList := by
  have : ∀ c ∈ (Str.ofString "+-*/(){};,=<>!:.?&|").cps.toList, c < 65 ∨ 90 < c := by decide +kernel
  intro c h1 h2 hc
  have := this c hc
  omega
theorem add_sc : pAdd c_SMALL c_CAPITAL = some (.str (Z.st letters)) := by
  unfold c_SMALL c_CAPITAL
  rw [caps_eq, small_eq, pAdd_st (by decide)]
  rfl
theorem add_scf : pAdd (.str (Z.st letters)) c_FIGURES = some (.str (Z.st (letters ++ figures))) := by
  unfold c_FIGURES
  rw [figs_eq, pAdd_st (by decide)]
theorem let_cap {c : Nat} (h1 : 65 ≤ c) (h2 : c ≤ 90) : c ∈ letters := by
  have : ∀ i ∈ List.range 26, 65 + i ∈ letters := by decide +kernel
  have := this (c - 65) (by simp; omega)
  rwa [show 65 + (c - 65) = c by omega] at this
theorem let_in {c : Nat} (h : c ∈ inSym) : c ∈ letters := by
  have : ∀ c ∈ inSym, c ∈ letters := by decide +kernel
  exact this c h
theorem symok_let {c : Nat} {r : List Nat} (h1 : 65 ≤ c) (h2 : c ≤ 90) (h3 : ∀ x ∈ r, x ∈ inSym) : ∀ x ∈ c :: r, x ∈ letters := by
  intro x hx
  rcases List.mem_cons.mp hx with rfl | hx
  · exact let_cap h1 h2
  · exact let_in (h3 x hx)
theorem issym_ok {s : Str} (h : SymOk s) : m_is_symbol (.str s) = some (.bool true) := by
  obtain ⟨c, r, rfl, h1, h2, h3, h4⟩ := h
  have hl := symok_let h1 h2 h3
  have hlen : (c :: r).length = r.length + 1 := rfl
  unfold m_is_symbol m_is_symbol_b
  have e0 : pIdx (.str (Z.st (c :: r))) (.int 0) = some (.str (Z.st [c])) := pIdx_s (k := 0) (by show (c :: r).length ≤ 100000; omega) rfl
  have e1 : pNotIn (.str (Z.st [c])) c_CAPITAL = some (.bool false) := by
    unfold c_CAPITAL
    rw [pNotIn_one, caps_eq]
    have : c ∈ (Z.st [65, 66, 67, 68, 69, 70, 71, 72, 73, 74, 75, 76, 77, 78, 79, 80, 81, 82, 83, 84, 85, 86, 87, 88, 89, 90]).cps.toList := by
      have : ∀ i ∈ List.range 26, 65 + i ∈ (Z.st [65, 66, 67, 68, 69, 70, 71, 72, 73, 74, 75, 76, 77, 78, 79, 80, 81, 82, 83, 84, 85, 86, 87, 88, 89, 90]).cps.toList := by decide +kernel
      have := this (c - 65) (by simp; omega)
      rwa [show 65 + (c - 65) = c by omega] at this
    rw [decide_eq_true this]
    rfl
  have e2 : ((lcM (fun x10 => (pAdd c_SMALL c_CAPITAL).bind fun y11 => pIn x10 y11) ((c :: r).map fun c => PyData.str (Z.st [c]))).map PyData.list).bind pAll = some (.bool true) := by
    rw [all_lc (g := fun x => decide (x ∈ letters)) (fun x _ => by rw [add_sc, Option.bind_some, pIn_one]; rfl)]
    refine congrArg (fun b => some (PyData.bool b)) ?_
    rw [List.all_eq_true]
    intro x hx
    exact decide_eq_true (hl x hx)
  simp -implicitDefEqProofs only [PyData.isStr, Bool.not_true, Bool.false_eq_true, if_false, pLen_st (show (c :: r).length ≤ 100000 by omega), Option.bind_some, pLe_int, dBool_bool, hlen, e0, e1, pIter_st (show (c :: r).length ≤ 100000 by omega)]
  rw [decide_eq_false (show ¬ ((r.length + 1 : Nat) : Int) < 1 by omega), decide_eq_false (show ¬ (6 : Int) < ((r.length + 1 : Nat) : Int) by omega)]
  simp -implicitDefEqProofs only [Bool.not_false, if_true, Option.map_some, Bool.not_true, Bool.false_eq_true, if_false, Option.bind_some]
  rw [e2]
  rfl
theorem istext_ok {ss : List Str} (so : ∀ s ∈ ss, SymOk s) {s : Str} (h : s ∈ texts ∨ s ∈ ss) : m_is_text (.str s) = some (.bool true) := by
  rcases h with h | h
  · have : (texts.all fun s => isTrue (m_is_text (.str s))) = true := by decide +kernel
    exact isTrue_ok (List.all_eq_true.mp this s h)
  · obtain ⟨c, r, rfl, h1, h2, h3, h4⟩ := so s h
    have hl := symok_let h1 h2 h3
    have hlen : (c :: r).length = r.length + 1 := rfl
    unfold m_is_text m_is_text_b
    have e0 : pIdx (.str (Z.st (c :: r))) (.int 0) = some (.str (Z.st [c])) := pIdx_s (k := 0) (by show (c :: r).length ≤ 100000; omega) rfl
    have e2 : ((lcM (fun x13 => ((pAdd c_SMALL c_CAPITAL).bind fun x14 => pAdd x14 c_FIGURES).bind fun y15 => pIn x13 y15) ((c :: r).map fun c => PyData.str (Z.st [c]))).map PyData.list).bind pAll = some (.bool true) := by
      rw [all_lc (g := fun x => decide (x ∈ letters ++ figures)) (fun x _ => by rw [add_sc, Option.bind_some, add_scf, Option.bind_some, pIn_one]; rfl)]
      refine congrArg (fun b => some (PyData.bool b)) ?_
      rw [List.all_eq_true]
      intro x hx
      exact decide_eq_true (List.mem_append_left _ (hl x hx))
    have e3 : pIn (.str (Z.st [c])) (.str (Z.st letters)) = some (.bool true) := by
      rw [pIn_one, decide_eq_true (show c ∈ (Z.st letters).cps.toList from let_cap h1 h2)]
    have e4 : (if decide (((r.length + 1 : Nat) : Int) = 1) = true then (pIn (.str (Z.st (c :: r))) c_MARKS).bind dBool else some false) = some false := by
      by_cases q : ((r.length + 1 : Nat) : Int) = 1
      · have hr : r = [] := List.length_eq_zero_iff.mp (by omega)
        subst hr
        rw [decide_eq_true q, if_pos rfl]
        unfold c_MARKS
        rw [pIn_one, decide_eq_false (marks_no c h1 h2)]
        rfl
      · rw [decide_eq_false q]; rfl
    simp -implicitDefEqProofs only [PyData.isStr, Bool.not_true, Bool.false_eq_true, if_false, pLen_st (show (c :: r).length ≤ 100000 by omega), Option.bind_some, pLe_int, dBool_bool, hlen, e0, pEq_int, e4, pIter_st (show (c :: r).length ≤ 100000 by omega)]
    rw [decide_eq_false (show ¬ ((r.length + 1 : Nat) : Int) < 1 by omega), decide_eq_false (show ¬ (8 : Int) < ((r.length + 1 : Nat) : Int) by omega)]
    simp -implicitDefEqProofs only [Bool.not_false, if_true, Option.map_some, Bool.not_true, Bool.false_eq_true, if_false, Option.bind_some, add_sc, e3, pTru_bool]
    have e2' := e2
    simp -implicitDefEqProofs only [add_sc, Option.bind_some] at e2'
    rw [e2']
    rfl
theorem ispart_ok {ss : List Str} (so : ∀ s ∈ ss, SymOk s) {p : Part} (h : p.ok ss) : m_is_part p.d = some (.bool true) := by
  cases p with
  | num => exact isTrue_ok (by decide +kernel)
  | wrd => exact isTrue_ok (by decide +kernel)
  | txt s =>
    have e := istext_ok so h
    unfold m_is_part m_is_part_b
    have n1 : pEq (S "text") (S "kind") = some (.bool false) := by rw [pEq_str, decide_eq_false (by decide)]
    have n2 : pEq (S "text") (S "text") = some (.bool true) := by rw [pEq_str, decide_eq_true rfl]
    simp -implicitDefEqProofs only [Part.d, PyData.isTuple, Bool.not_true, Bool.false_eq_true, if_false, pLen_t, List.length_cons, List.length_nil, Option.bind_some, pNe_int, dBool_bool, t20, t21, n1, n2, e]
    rfl
  | sym s =>
    have e := issym_ok (so s h)
    unfold m_is_part m_is_part_b
    have n1 : pEq (S "symbol") (S "kind") = some (.bool false) := by rw [pEq_str, decide_eq_false (by decide)]
    have n2 : pEq (S "symbol") (S "text") = some (.bool false) := by rw [pEq_str, decide_eq_false (by decide)]
    have n3 : pEq (S "symbol") (S "symbol") = some (.bool true) := by rw [pEq_str, decide_eq_true rfl]
    simp -implicitDefEqProofs only [Part.d, PyData.isTuple, Bool.not_true, Bool.false_eq_true, if_false, pLen_t, List.length_cons, List.length_nil, Option.bind_some, pNe_int, dBool_bool, t20, t21, n1, n2, n3, pTru_bool, e]
    rfl
theorem isindex_ok (i c : Int) : m_is_index (.int i) (.int c) = some (.bool (decide (0 ≤ i) && decide (i < c))) := by
  unfold m_is_index m_is_index_b
  simp -implicitDefEqProofs only [PyData.isInt, PyData.isBool, if_true, Bool.not_false, Option.bind_some, pLe_int, dBool_bool, pLt_int]
  by_cases q : i < 0
  · rw [decide_eq_true q, decide_eq_false (show ¬ 0 ≤ i by omega)]; rfl
  · rw [decide_eq_false q, decide_eq_true (show 0 ≤ i by omega)]; rfl
theorem isindex_nat {i c : Nat} (h : i < c) : m_is_index (.int (i : Int)) (.int (c : Int)) = some (.bool true) := by
  rw [isindex_ok, decide_eq_true (show (0 : Int) ≤ i by omega), decide_eq_true (show (i : Int) < c by omega)]; rfl
theorem sl_one1 (a b : D) : pSl (.tuple [a, b]) (some 1) none = some (.tuple [b]) := rfl
theorem sl_one2 (a b c : D) : pSl (.tuple [a, b, c]) (some 1) none = some (.tuple [b, c]) := rfl
theorem isdem_ok {m : Nat} {x : Dem} (h : x.ok m) : m_is_demand x.d (.int (m : Int)) = some (.bool true) := by
  unfold m_is_demand m_is_demand_b
  have all1 : ∀ p : Nat, p < m → ((lcM (fun x6 => m_is_index x6 (.int (m : Int))) [.int (p : Int)]).map PyData.list).bind pAll = some (.bool true) := fun p hp => by
    simp -implicitDefEqProofs only [lcM, isindex_nat hp, Option.bind_some, Option.map_some]; rfl
  have all2 : ∀ p q : Nat, p < m → q < m → ((lcM (fun x6 => m_is_index x6 (.int (m : Int))) [.int (p : Int), .int (q : Int)]).map PyData.list).bind pAll = some (.bool true) := fun p q hp hq => by
    simp -implicitDefEqProofs only [lcM, isindex_nat hp, isindex_nat hq, Option.bind_some, Option.map_some]; rfl
  have two : ∀ (t : String) (p q : Nat), pEq (S t) (S "glued") = some (.bool false) → pIn (S t) (.tuple [(S "same"), (S "right"), (S "row")]) = some (.bool true) → p < m ∧ q < m ∧ p ≠ q → Ctl.fin Empty.elim (m_is_demand_b (.tuple [S t, .int (p : Int), .int (q : Int)]) (.int (m : Int))) = some (.bool true) := by
    intro t p q e1 e2 ⟨h1, h2, h3⟩
    unfold m_is_demand_b
    have hne : ¬ (p : Int) = (q : Int) := by omega
    have := all2 p q h1 h2
    simp -implicitDefEqProofs only [PyData.isTuple, Bool.not_true, Bool.false_eq_true, if_false, pLen_t, List.length_cons, List.length_nil, Option.bind_some, pLt_int, dBool_bool, pOpt_int, sl_one2, pIter_t]
    rw [this]
    simp -implicitDefEqProofs only [Option.bind_some, pTru_bool, Option.map_some, t30, t31, t32, e1, e2, dBool_bool, Bool.not_true, Bool.false_eq_true, if_false, if_true, pEq_int, pNe_int, decide_eq_false hne]
    rfl
  cases x with
  | glued p =>
    have := all1 p h
    have e1 : pEq (S "glued") (S "glued") = some (.bool true) := by rw [pEq_str, decide_eq_true rfl]
    simp -implicitDefEqProofs only [Dem.d, PyData.isTuple, Bool.not_true, Bool.false_eq_true, if_false, pLen_t, List.length_cons, List.length_nil, Option.bind_some, pLt_int, dBool_bool, pOpt_int, sl_one1, pIter_t]
    rw [this]
    simp -implicitDefEqProofs only [Option.bind_some, pTru_bool, Option.map_some, t20, e1, dBool_bool, Bool.not_true, Bool.false_eq_true, if_false, if_true]
    rfl
  | same p q => exact two "same" p q (by rw [pEq_str, decide_eq_false (by decide)]) (isTrue_ok (by decide +kernel)) h
  | right p q => exact two "right" p q (by rw [pEq_str, decide_eq_false (by decide)]) (isTrue_ok (by decide +kernel)) h
  | row p q => exact two "row" p q (by rw [pEq_str, decide_eq_false (by decide)]) (isTrue_ok (by decide +kernel)) h
theorem aredem_ok {m : Nat} {ds : List Dem} (h : ∀ x ∈ ds, x.ok m) (nd : ds.Nodup) (hl : ds.length ≤ 4) : m_are_demands (.tuple (ds.map Dem.d)) (.int (m : Int)) = some (.bool true) := by
  unfold m_are_demands m_are_demands_b
  simp -implicitDefEqProofs only [PyData.isTuple, Bool.not_true, Bool.false_eq_true, if_false, pLen_t, List.length_map, Option.bind_some, pGt_int, c_MAX_DEMANDS, dBool_bool, decide_eq_false (show ¬ (4 : Int) < (ds.length : Int) by omega), pRg_nat (show ds.length ≤ 100000 by omega)]
  rw [all_lc (enc := fun i : Nat => PyData.int (i : Int)) (g := fun _ => true) (fun i hi => ?_)]
  · simp -implicitDefEqProofs only [Option.bind_some, Ctl.fin_rt]
    simp
  · have hi : i < ds.length := by simpa using hi
    obtain ⟨x, g1, x1, m1⟩ := pickT (xs := ds) (enc := Dem.d) hi
    have e1 := isdem_ok (h x m1)
    have hni : pNotIn x.d (.tuple ((ds.take i).map Dem.d)) = some (.bool (!decide (x ∈ ds.take i))) := pNotIn_t (a := x) (xs := ds.take i) (by have := dem_dep x; show x.d.depth ≤ 100; omega)
    have hx : x ∉ ds.take i := by
      intro hm
      have e2 : ds = ds.take i ++ ds.drop i := (List.take_append_drop i ds).symm
      have e3 : ds.drop i = x :: ds.drop (i + 1) := by
        rw [List.drop_eq_getElem_cons hi]
        congr 1
        have := List.getElem?_eq_getElem hi
        rw [g1] at this
        exact (Option.some.inj this).symm
      rw [e2, List.nodup_append] at nd
      exact nd.2.2 x hm x (by rw [e3]; simp) rfl
    simp -implicitDefEqProofs only [x1, Option.bind_some, e1, pTru_bool, if_true, pOpt_int, sl_tt, ← List.map_take, hni, decide_eq_false hx, Bool.not_false]
end P
namespace P
open PySem PySem.Spec L2 Z
theorem same_ok {x y : Dg} (h : x.ht ≤ 90) : m_same x.d y.d = some (.bool (decide (x = y))) := by
  unfold m_same m_same_b
  rw [pEq, if_pos (Dg.dok h), Dg.eqv]
  simp -implicitDefEqProofs only [Option.bind_some, pTru_bool, decide_eq_true_eq, pEq_bool]
  by_cases h : x = y
  · subst h
    rw [if_pos rfl]
    simp
  · rw [if_neg h]
    simp
theorem below_ok : ∀ (n : Nat) (x : Dg) (lo cnt : Int), x.ht < n → x.ht ≤ 80 → m_is_below n x.d (.int lo) (.int cnt) = some (.bool (Dg.wf lo cnt x))
  | 0, _, _, _, h, _ => by omega
  | n + 1, .leaf b, lo, cnt, _, _ => rfl
  | n + 1, .node i l h, lo, cnt, hn, h80 => by
    simp only [Dg.ht] at hn h80
    have h1 := below_ok n l ((i : Int) + 1) cnt (by omega) (by omega)
    have h2 := below_ok n h ((i : Int) + 1) cnt (by omega) (by omega)
    have h3 := same_ok (x := l) (y := h) (by omega)
    unfold m_is_below m_is_below_b
    simp -implicitDefEqProofs only [Dg.d, t30, t31, t32, Option.bind_some, pLen_t, List.length_cons, List.length_nil, pNe_int, dBool_bool, Option.map_some, pTru_bool, pLe_int, pLt_int, pAdd_int, h1, h2, h3, pNot_b, PyData.isBool, PyData.isTuple, PyData.isInt]
    simp -implicitDefEqProofs only [Dg.wf, Bool.not_true, Bool.false_eq_true, if_false, Option.bind_some, decide_true, Bool.not_false, Option.map_some, if_true]
    have q1 : decide ((i : Int) < lo) = !decide (lo ≤ i) := by by_cases h : (i : Int) < lo <;> simp [h] <;> omega
    rw [q1]
    generalize decide (lo ≤ (i : Int)) = A
    generalize decide ((i : Int) < cnt) = B
    generalize Dg.wf ((i : Int) + 1) cnt l = W1
    generalize Dg.wf ((i : Int) + 1) cnt h = W2
    generalize decide (l = h) = E
    cases A <;> cases B <;> cases W1 <;> cases W2 <;> rfl
theorem isd_ok {x : Dg} {cnt : Int} (h : x.ht < 12) : m_is_diagram x.d (.int cnt) = some (.bool (Dg.wf 0 cnt x)) := by
  unfold m_is_diagram m_is_diagram_b
  rw [below_ok 12 x 0 cnt h (by omega)]
  rfl
theorem iscond_ok {n : Nat} (n5 : n ≤ 5) {x : Dg} (h : DgOk n x) : m_is_condition x.d (.int (n : Int)) = some (.bool true) := by
  have hh := Dg.wf_ht h.1 (by omega)
  unfold m_is_condition m_is_condition_b
  rw [isd_ok (x := x) (cnt := (n : Int)) (by omega), h.1]
  have hn : pIsNot x.d (.bool false) = some (.bool true) := by
    cases x with
    | leaf b => cases b with
      | false => exact absurd rfl h.2
      | true => rfl
    | node i l k => rfl
  simp -implicitDefEqProofs only [Option.bind_some, pTru_bool, if_true, hn]
  rfl
theorem isrule_ok {n : Nat} (n5 : n ≤ 5) {ss : List Str} (so : ∀ s ∈ ss, SymOk s) {r : Rule} (h : RuleOk n ss r) : m_is_rule r.d (.int (n : Int)) = some (.bool true) := by
  have e1 := issym_ok (so r.l h.l)
  have e2 := iscond_ok n5 h.dg
  have e3 := aredem_ok h.ds h.nd h.dl
  have l1 := h.len
  have e4 := all_lc (enc := Part.d) (f := fun x12 => m_is_part x12) (g := fun _ => true) (xs := r.ps) (fun p hp => ispart_ok so (h.ps p hp))
  unfold m_is_rule m_is_rule_b
  simp -implicitDefEqProofs only [Rule.d, PyData.isTuple, Bool.not_true, Bool.false_eq_true, if_false, pLen_t, List.length_cons, List.length_nil, Option.bind_some, pNe_int, dBool_bool, t40, t41, t42, t43, e1, pTru_bool, Option.map_some, List.length_map, pLe_int, c_MAX_PARTS, decide_eq_false (show ¬ (r.ps.length : Int) < 1 by omega), decide_eq_false (show ¬ (3 : Int) < (r.ps.length : Int) by omega), pIter_t, Bool.not_false, if_true]
  rw [show decide (((0 + 1 + 1 + 1 + 1 : Nat) : Int) = 4) = true from rfl]
  simp -implicitDefEqProofs only [Bool.not_true, Bool.false_eq_true, if_false, Option.bind_some]
  rw [e4]
  simp -implicitDefEqProofs only [Option.bind_some, pTru_bool, Option.map_some, List.all_eq_true, implies_true, decide_true, e2, e3, if_true]
  rw [show (r.ps.all fun _ => true) = true by simp]
  rfl
theorem knows_ok {rs : List Rule} (s : Str) : m_knows (.tuple (rs.map Rule.d)) (.str s) = some (.bool (rs.any fun r => decide (r.l = s))) := by
  unfold m_knows m_knows_b
  have h := any_lc (enc := Rule.d) (f := fun x3 => (pIdx x3 (.int 0)).bind fun x4 => pEq x4 (.str s)) (g := fun r => decide (r.l = s)) (xs := rs) (fun r _ => by
    have : pIdx r.d (.int 0) = some (.str r.l) := rfl
    rw [this, Option.bind_some, pEq_str])
  simp -implicitDefEqProofs only [pIter_t, Option.bind_some]
  rw [h]
  rfl
def unknown (rs : List Rule) (r : Rule) : Bool := r.ps.any fun p => match p with
  | .sym s => !rs.any fun r => decide (r.l = s)
  | _ => false
theorem unknown_ok {rs : List Rule} (r : Rule) : m_unknown_in (.tuple (rs.map Rule.d)) r.d = some (.bool (unknown rs r)) := by
  unfold m_unknown_in m_unknown_in_b
  have h := any_lc (enc := Part.d) (f := fun x3 => ((pIdx x3 (.int 0)).bind fun x4 => pEq x4 (S "symbol")).bind fun x6 => (pTru x6).bind fun k7 => if k7 = true then ((pIdx x3 (.int 1)).bind fun x5 => m_knows (.tuple (rs.map Rule.d)) x5).bind pNot else some x6) (g := fun p => match p with
    | .sym s => !rs.any fun r => decide (r.l = s)
    | _ => false) (xs := r.ps) (fun p _ => by
    cases p with
    | num =>
      have n1 : pEq (S "kind") (S "symbol") = some (.bool false) := by rw [pEq_str, decide_eq_false (by decide)]
      simp -implicitDefEqProofs only [Part.d, t20, Option.bind_some, n1, pTru_bool, Bool.false_eq_true, if_false]
    | wrd =>
      have n1 : pEq (S "kind") (S "symbol") = some (.bool false) := by rw [pEq_str, decide_eq_false (by decide)]
      simp -implicitDefEqProofs only [Part.d, t20, Option.bind_some, n1, pTru_bool, Bool.false_eq_true, if_false]
    | txt s =>
      have n1 : pEq (S "text") (S "symbol") = some (.bool false) := by rw [pEq_str, decide_eq_false (by decide)]
      simp -implicitDefEqProofs only [Part.d, t20, Option.bind_some, n1, pTru_bool, Bool.false_eq_true, if_false]
    | sym s =>
      have n1 : pEq (S "symbol") (S "symbol") = some (.bool true) := by rw [pEq_str, decide_eq_true rfl]
      simp -implicitDefEqProofs only [Part.d, t20, t21, Option.bind_some, n1, pTru_bool, if_true, knows_ok, pNot_b])
  have e1 : pIdx r.d (.int 1) = some (.tuple (r.ps.map Part.d)) := rfl
  simp -implicitDefEqProofs only [e1, pIter_t, Option.bind_some]
  rw [h]
  rfl
instance encPS : Enc (Str × Str) := inferInstance
def pd (p : Str × Str) : D := .tuple [.str p.1, .str p.2]
theorem units_ok {rs : List Rule} (hl : ∀ r ∈ rs, 1 ≤ r.ps.length) : m_unit_pairs (.tuple (rs.map Rule.d)) = some (.list ((units rs).map pd)) := by
  unfold m_unit_pairs m_unit_pairs_b
  simp -implicitDefEqProofs only [pIter_t, Option.bind_some]
  have h : ∀ rs : List Rule, (∀ r ∈ rs, 1 ≤ r.ps.length) → lcI (fun x3 => (((pIdx x3 (.int 1)).bind fun x8 => pLen x8).bind fun x9 => (pEq x9 (.int 1)).bind dBool).bind fun k13 => if k13 = true then (((pIdx x3 (.int 1)).bind fun x10 => pIdx x10 (.int 0)).bind fun x11 => pIdx x11 (.int 0)).bind fun x12 => (pEq x12 (S "symbol")).bind dBool else some false) (fun x3 => (pIdx x3 (.int 0)).bind fun x4 => (((pIdx x3 (.int 1)).bind fun x5 => pIdx x5 (.int 0)).bind fun x6 => pIdx x6 (.int 1)).bind fun x7 => some (.tuple [x4, x7])) (rs.map Rule.d) = some ((units rs).map pd) := by
    intro rs
    induction rs with
    | nil => intro _; rfl
    | cons r rs ih =>
      intro hl
      have ih := ih fun q hq => hl q (List.mem_cons_of_mem _ hq)
      have h1 := hl r List.mem_cons_self
      have e1 : pIdx r.d (.int 1) = some (.tuple (r.ps.map Part.d)) := rfl
      have e0 : pIdx r.d (.int 0) = some (.str r.l) := rfl
      rw [List.map_cons]
      simp -implicitDefEqProofs only [lcI, e1, e0, Option.bind_some, pLen_t, List.length_map, pEq_int, dBool_bool, ih]
      have hu : units (r :: rs) = (match unitOf r with | some b => b :: units rs | none => units rs) := by
        unfold units
        rw [List.filterMap_cons]
        cases unitOf r <;> rfl
      rw [hu]
      obtain ⟨l, ps, dg, ds⟩ := r
      match ps, h1 with
      | [p], _ =>
        have hp : pIdx (.tuple [p.d]) (.int 0) = some p.d := rfl
        have hq := part_eq p
        rw [decide_eq_true (show (([p] : List Part).length : Int) = 1 from rfl)]
        simp -implicitDefEqProofs only [if_true, List.map_cons, List.map_nil, hp, Option.bind_some, hq]
        cases p with
        | sym s => rfl
        | _ => rfl
      | p :: q :: t, _ =>
        rw [decide_eq_false (show ¬ (((p :: q :: t) : List Part).length : Int) = 1 by simp only [List.length_cons]; omega)]
        cases p <;> rfl
  rw [h rs hl]
  rfl
theorem pdStr_in {s : Str} {xs : List Str} : pIn (.str s) (.list (xs.map .str)) = some (.bool (decide (s ∈ xs))) := pIn_l (a := s) (xs := xs) (dep_str s)
theorem pdStr_notin {s : Str} {xs : List Str} : pNotIn (.str s) (.list (xs.map .str)) = some (.bool (!decide (s ∈ xs))) := pNotIn_l (a := s) (xs := xs) (dep_str s)
theorem lefts_loop {N R : Type} (rs : List Rule) (hr : rs.length ≤ 1000) : (forC (fun x2 s1 => (((pIdx x2 (.int 0)).bind fun x3 => (pNotIn x3 s1).bind dBool).bind fun k6 => if k6 = true then (pIdx x2 (.int 0)).bind fun y5 => (pApp s1 y5).bind fun z4 => some (.nx z4) else some (.nx s1) : Option (Ctl D D R))) (rs.map Rule.d) (.list []) : Option (Ctl D N R)) = some (.nx (.list ((lefts rs).map .str))) := by
  have h := forC_pre (L := N) (F := fun x2 s1 => (((pIdx x2 (.int 0)).bind fun x3 => (pNotIn x3 s1).bind dBool).bind fun k6 => if k6 = true then (pIdx x2 (.int 0)).bind fun y5 => (pApp s1 y5).bind fun z4 => some (.nx z4) else some (.nx s1) : Option (Ctl D D R))) (enc := Rule.d) (st := fun done => .list ((lefts done).map .str)) rs [] (fun d1 r d2 e => by
    have e0 : pIdx r.d (.int 0) = some (.str r.l) := rfl
    have hl : (lefts d1).length ≤ 1000 := by
      have h1 := lefts_len d1
      have h2 := congrArg List.length e
      simp at h2
      omega
    have hs : lefts (d1 ++ [r]) = addNew (lefts d1) r.l := by unfold lefts; rw [List.foldl_append]; rfl
    simp -implicitDefEqProofs only [e0, Option.bind_some, pdStr_notin, dBool_bool, hs]
    unfold addNew
    by_cases hm : r.l ∈ lefts d1
    · rw [decide_eq_true hm, if_pos hm]; rfl
    · rw [decide_eq_false hm, if_neg hm]
      simp -implicitDefEqProofs only [Bool.not_false, if_true]
      rw [pApp_l (by simp; omega)]
      simp)
  exact h
theorem lefts_ok {rs : List Rule} (hr : rs.length ≤ 1000) : m_lefts (.tuple (rs.map Rule.d)) = some (.list ((lefts rs).map .str)) := by
  unfold m_lefts m_lefts_b
  simp -implicitDefEqProofs only [pIter_t, Option.bind_some]
  rw [lefts_loop rs hr]
  rfl
theorem oIter_len (ps : List (Str × Str)) (n : Nat) (x : List Str × List Str) : (oIter ps n x).1.length + (oIter ps n x).2.length = x.1.length + x.2.length := by
  have := (oIter_perm ps n x).length_eq
  simp only [List.length_append] at this
  omega
theorem order_ok {rs : List Rule} (hr : rs.length ≤ 1000) (hl : ∀ r ∈ rs, 1 ≤ r.ps.length) : m_symbol_order (.tuple (rs.map Rule.d)) = some (.list ((order rs).map .str)) := by
  have hll := lefts_len rs
  unfold m_symbol_order m_symbol_order_b
  simp -implicitDefEqProofs only [pIter_t, Option.bind_some]
  rw [lefts_loop rs hr]
  simp -implicitDefEqProofs only [Ctl.seq_nx, units_ok hl, Option.bind_some, pLen_l, List.length_map, pRg_nat (show (lefts rs).length ≤ 100000 by omega), pIter_l]
  have h := forC_rangeE (L := Empty) (enc := fun i : Nat => PyData.int (i : Int)) (n := (lefts rs).length) (st := fun i => ((.list ((oIter (units rs) i (lefts rs, [])).1.map .str), .list ((oIter (units rs) i (lefts rs, [])).2.map .str)) : D × D)) (F := fun x11 s10 => (((pIter s10.1).bind fun xs13 => (lcI (fun x14 => ((((lcM (fun x17 => ((pIdx x17 (.int 0)).bind fun x18 => pEq x18 x14).bind fun x20 => (pTru x20).bind fun k21 => if k21 = true then (pIdx x17 (.int 1)).bind fun x19 => pIn x19 s10.1 else some x20) ((units rs).map pd)).map .list).bind fun x22 => pAny x22).bind pTru).map (!·)) (fun x14 => some x14) xs13).map .list).bind fun x23 => (pExt s10.2 x23).bind fun z24 => ((pIter s10.1).bind fun xs26 => (lcI (fun x27 => (pNotIn x27 x23).bind dBool) (fun x27 => some x27) xs26).map .list).bind fun x28 => some (.nx (x28, z24)) : Option (Ctl (D × D) (D × D) D))) (R := D) (fun i hi => by
    have hlen := oIter_len (units rs) i (lefts rs, [])
    show _ = some (Ctl.nx ((.list ((oStep (units rs) (oIter (units rs) i (lefts rs, []))).1.map .str), .list ((oStep (units rs) (oIter (units rs) i (lefts rs, []))).2.map .str)) : D × D))
    generalize oIter (units rs) i (lefts rs, []) = y at hlen
    have f1 : lcI (fun x14 => ((((lcM (fun x17 => ((pIdx x17 (.int 0)).bind fun x18 => pEq x18 x14).bind fun x20 => (pTru x20).bind fun k21 => if k21 = true then (pIdx x17 (.int 1)).bind fun x19 => pIn x19 (.list (y.1.map .str)) else some x20) ((units rs).map pd)).map .list).bind fun x22 => pAny x22).bind pTru).map (!·)) (fun x14 => some x14) (y.1.map .str) = some ((y.1.filter (isFree (units rs) y.1)).map .str) := by
      refine lcI_map (fun s _ => ?_) (fun s _ => rfl)
      have h := any_lc (enc := pd) (f := fun x17 => ((pIdx x17 (.int 0)).bind fun x18 => pEq x18 (.str s)).bind fun x20 => (pTru x20).bind fun k21 => if k21 = true then (pIdx x17 (.int 1)).bind fun x19 => pIn x19 (.list (y.1.map .str)) else some x20) (g := fun p => decide (p.1 = s) && decide (p.2 ∈ y.1)) (xs := units rs) (fun p _ => by
        have e0 : pIdx (pd p) (.int 0) = some (.str p.1) := rfl
        have e1 : pIdx (pd p) (.int 1) = some (.str p.2) := rfl
        simp -implicitDefEqProofs only [e0, e1, Option.bind_some, pEq_str, pTru_bool, pdStr_in]
        cases decide (p.1 = s) <;> rfl)
      rw [h]
      rfl
    have f2 : lcI (fun x27 => (pNotIn x27 (.list ((y.1.filter (isFree (units rs) y.1)).map .str))).bind dBool) (fun x27 => some x27) (y.1.map .str) = some ((oStep (units rs) y).1.map .str) := by
      refine lcI_map (fun s _ => ?_) (fun s _ => rfl)
      rw [pdStr_notin]
      simp
    simp -implicitDefEqProofs only [pIter_l, Option.bind_some]
    rw [f1]
    simp -implicitDefEqProofs only [Option.map_some, Option.bind_some]
    rw [f2]
    have hfl := List.length_filter_le (isFree (units rs) y.1) y.1
    rw [pExt_ll (by simp at hlen ⊢; omega)]
    simp -implicitDefEqProofs only [Option.map_some, Option.bind_some]
    rw [← List.map_append]
    rfl)
  simp -implicitDefEqProofs only [pIter_l, Option.bind_some] at h ⊢
  rw [show (PyData.list ((lefts rs).map .str), PyData.list []) = ((PyData.list ((oIter (units rs) 0 (lefts rs, [])).1.map .str), PyData.list ((oIter (units rs) 0 (lefts rs, [])).2.map .str)) : D × D) from rfl]
  rw [h]
  rfl
end P
namespace P
open PySem PySem.Spec L2 Z
/-! ## bars and grammars of the form -/
theorem isbar_ok {n : Nat} (n5 : n ≤ 5) {rs : List Rule} {b : Bar} (h : BarOk n rs b) : m_is_bar b.d (.tuple (rs.map Rule.d)) (.int (n : Int)) = some (.bool true) := by
  obtain ⟨r, q, gr, gq, gp⟩ := h.at_
  have br := (List.getElem?_eq_some_iff.mp gr).1
  have bq := (List.getElem?_eq_some_iff.mp gq).1
  have bp := (List.getElem?_eq_some_iff.mp gp).1
  have i1 := isindex_nat br
  have i2 := isindex_nat bq
  have i3 := isindex_nat bp
  have c1 := iscond_ok n5 h.dg
  have x1 : pIdx (.tuple (rs.map Rule.d)) (.int (b.r : Int)) = some r.d := pIdx_tn (by rw [List.getElem?_map, gr]; rfl)
  have x2 : pIdx (.tuple (rs.map Rule.d)) (.int (b.b : Int)) = some q.d := pIdx_tn (by rw [List.getElem?_map, gq]; rfl)
  have x3 : pIdx r.d (.int 1) = some (.tuple (r.ps.map Part.d)) := rfl
  have x4 : pIdx (.tuple (r.ps.map Part.d)) (.int (b.p : Int)) = some (.tuple [S "symbol", .str q.l]) := pIdx_tn (by rw [List.getElem?_map, gp]; rfl)
  have x5 : pIdx q.d (.int 0) = some (.str q.l) := rfl
  have x6 : pEq (.tuple [S "symbol", .str q.l]) (.tuple [S "symbol", .str q.l]) = some (.bool true) := pEq_refl (by simp [PyData.depth, PyData.depthAll]) rfl
  unfold m_is_bar m_is_bar_b
  simp -implicitDefEqProofs only [Bar.d, PyData.isTuple, Bool.not_true, Bool.false_eq_true, if_false, pLen_t, List.length_cons, List.length_nil, List.length_map, Option.bind_some, pNe_int, dBool_bool, t40, t41, t42, t43, i1, i2, i3, c1, pTru_bool, Option.map_some, x1, x2, x3, x4, x5, x6]
  rfl
theorem arebars_ok {n : Nat} (n5 : n ≤ 5) {rs : List Rule} {bs : List Bar} (hl : bs.length ≤ 12) (hb : ∀ b ∈ bs, BarOk n rs b) (hs : bs.Pairwise fun a b => lt3 a.key b.key) : m_are_bars (.tuple (bs.map Bar.d)) (.tuple (rs.map Rule.d)) (.int (n : Int)) = some (.bool true) := by
  have e1 := all_lc (enc := Bar.d) (f := fun x5 => m_is_bar x5 (.tuple (rs.map Rule.d)) (.int (n : Int))) (g := fun _ => true) (xs := bs) (fun b h => isbar_ok n5 (hb b h))
  have er : (pRg1 (.int ((bs.length : Int) - 1))) = some ((List.range (bs.length - 1)).map fun i : Nat => PyData.int (i : Int)) := by
    by_cases q : bs.length = 0
    · rw [q]; rfl
    · rw [show (bs.length : Int) - 1 = ((bs.length - 1 : Nat) : Int) by omega, pRg_nat (by omega)]
  have e2 := all_lc (enc := fun i : Nat => PyData.int (i : Int)) (f := fun x11 => ((pIdx (.tuple (bs.map Bar.d)) x11).bind fun x14 => (some none).bind fun l12 => (pOpt (.int 3)).bind fun h13 => pSl x14 l12 h13).bind fun x19 => (((pAdd x11 (.int 1)).bind fun y15 => pIdx (.tuple (bs.map Bar.d)) y15).bind fun x18 => (some none).bind fun l16 => (pOpt (.int 3)).bind fun h17 => pSl x18 l16 h17).bind fun y20 => pLt x19 y20) (g := fun _ => true) (xs := List.range (bs.length - 1)) (fun i hi => by
    have hi : i < bs.length - 1 := by simpa using hi
    obtain ⟨a, g1, x1, m1⟩ := pickT (xs := bs) (enc := Bar.d) (show i < bs.length by omega)
    obtain ⟨b, g2, x2, m2⟩ := pickT (xs := bs) (enc := Bar.d) (show i + 1 < bs.length by omega)
    have hlt : lt3 a.key b.key := by
      have := List.pairwise_iff_getElem.mp hs i (i + 1) (by omega) (by omega) (by omega)
      rw [List.getElem?_eq_getElem (by omega)] at g1 g2
      rw [Option.some.inj g1, Option.some.inj g2] at this
      exact this
    have ei : (i : Int) + 1 = ((i + 1 : Nat) : Int) := by omega
    have e3 : pLt (kd a.key) (kd b.key) = some (.bool true) := by
      rw [pLt, if_pos, kd_lt, decide_eq_true hlt]
      unfold ltOk
      rw [kd_alike, dOk_of (kd_depth _)]
      rfl
    simp -implicitDefEqProofs only [x1, Option.bind_some, pOpt_int, bar_cut, pAdd_int, ei, x2, e3])
  unfold m_are_bars m_are_bars_b
  simp -implicitDefEqProofs only [PyData.isTuple, Bool.not_true, Bool.false_eq_true, if_false, pLen_t, List.length_map, Option.bind_some, pGt_int, c_MAX_BARS, dBool_bool, decide_eq_false (show ¬ (12 : Int) < (bs.length : Int) by omega), pIter_t, pSub_int, er]
  rw [e1]
  simp -implicitDefEqProofs only [Option.bind_some] at e2
  simp -implicitDefEqProofs only [Option.bind_some, pTru_bool, Option.map_some]
  rw [e2]
  simp
theorem rank_of {n : Nat} {ss : List Str} {g : Gram} (G : GramOk n ss g) : ∃ rank : Str → Nat, ∀ p ∈ units g.rs, rank p.1 < rank p.2 := by
  refine ⟨fun s => (ss.findIdx (· == s)), fun p hp => ?_⟩
  unfold units at hp
  obtain ⟨r, hr, hu⟩ := List.mem_filterMap.mp hp
  have hx : ∀ (i : Nat) (s : Str), ss[i]? = some s → ss.findIdx (· == s) = i := fun i s h => by
    obtain ⟨hi, e⟩ := List.getElem?_eq_some_iff.mp h
    rw [List.findIdx_eq hi]
    refine ⟨by simp [e], fun j hj => ?_⟩
    have : ss[j] ≠ ss[i] := List.pairwise_iff_getElem.mp G.sn j i (by omega) hi hj
    simp [← e, this]
  unfold unitOf at hu
  split at hu
  · rename_i s es
    cases hu
    obtain ⟨i, j, h1, h2, h3⟩ := (G.rs r hr).unit s es
    show ss.findIdx (· == r.l) < ss.findIdx (· == s)
    rw [hx i _ h1, hx j _ h2]
    exact h3
  · cases hu
theorem isgram_ok {n : Nat} {ss : List Str} {g : Gram} (G : GramOk n ss g) : m_is_grammar g.d (.int (n : Int)) = some (.bool true) := by
  obtain ⟨n1, n5⟩ := G.nn
  obtain ⟨r1, r12⟩ := G.rl
  have e1 := issym_ok (G.so g.st G.st)
  have e2 := all_lc (enc := Rule.d) (f := fun x13 => m_is_rule x13 (.int (n : Int))) (g := fun _ => true) (xs := g.rs) (fun r hr => isrule_ok n5 G.so (G.rs r hr))
  have kn : ∀ s ∈ ss, (g.rs.any fun r => decide (r.l = s)) = true := fun s hs => by
    obtain ⟨r, hr, e, _⟩ := G.base s hs
    rw [List.any_eq_true]
    exact ⟨r, hr, decide_eq_true e⟩
  have e3 := knows_ok (rs := g.rs) g.st
  rw [kn g.st G.st] at e3
  have e4 := any_lc (enc := Rule.d) (f := fun x20 => m_unknown_in (.tuple (g.rs.map Rule.d)) x20) (g := fun r => unknown g.rs r) (xs := g.rs) (fun r hr => unknown_ok r)
  have e4' : (g.rs.any fun r => unknown g.rs r) = false := by
    rw [List.any_eq_false]
    intro r hr
    unfold unknown
    rw [Bool.not_eq_true, List.any_eq_false]
    intro p hp
    cases p with
    | sym s =>
      have : s ∈ ss := (G.rs r hr).ps _ hp
      simp [kn s this]
    | _ => simp
  rw [e4'] at e4
  obtain ⟨rank, hrank⟩ := rank_of G
  have e5 := order_ok (rs := g.rs) (by omega) (fun r hr => (G.rs r hr).len.1)
  have e6 := lefts_ok (rs := g.rs) (by omega)
  have e7 := (order_perm hrank).length_eq
  have e8 := arebars_ok n5 G.bl G.bs G.bsort
  unfold m_is_grammar m_is_grammar_b
  simp -implicitDefEqProofs only [Gram.d, PyData.isTuple, Bool.not_true, Bool.false_eq_true, if_false, pLen_t, List.length_cons, List.length_nil, List.length_map, Option.bind_some, pNe_int, dBool_bool, t30, t31, t32, e1, pTru_bool, Option.map_some, pLe_int, c_MAX_RULES, decide_eq_false (show ¬ (g.rs.length : Int) < 1 by omega), decide_eq_false (show ¬ (12 : Int) < (g.rs.length : Int) by omega), pIter_t, Bool.not_false, if_true]
  rw [show decide (((0 + 1 + 1 + 1 : Nat) : Int) = 3) = true from rfl, e2, e4]
  simp -implicitDefEqProofs only [Bool.not_true, Bool.false_eq_true, if_false, Option.bind_some, pTru_bool, Option.map_some, e3, e5, e6, e7, e8, pLen_l, List.length_map, pLt_int, dBool_bool, decide_eq_false (show ¬ ((lefts g.rs).length : Int) < ((lefts g.rs).length : Int) by omega)]
  rw [show (g.rs.all fun _ => true) = true by simp]
  rfl
end P
namespace P
open PySem PySem.Spec L2 Z
/-! ## grammars, in general -/
section
variable {n : Nat} {rs : List Rule} {stt : Str} {v : D}
theorem isgram_gen (hs : m_is_symbol (.str stt) = some (.bool true)) (hr : ∀ r ∈ rs, m_is_rule r.d (.int (n : Int)) = some (.bool true)) (r1 : 1 ≤ rs.length) (r12 : rs.length ≤ 12) (hp : ∀ r ∈ rs, 1 ≤ r.ps.length) :
    m_is_grammar (.tuple [.str stt, .tuple (rs.map Rule.d), v]) (.int (n : Int)) = bif (!(rs.any fun r => decide (r.l = stt))) || (rs.any fun r => unknown rs r) || decide ((order rs).length < (lefts rs).length) then some (.bool false) else m_are_bars v (.tuple (rs.map Rule.d)) (.int (n : Int)) := by
  have e2 := all_lc (enc := Rule.d) (f := fun x13 => m_is_rule x13 (.int (n : Int))) (g := fun _ => true) (xs := rs) hr
  have e3 := knows_ok (rs := rs) stt
  have e4 := any_lc (enc := Rule.d) (f := fun x20 => m_unknown_in (.tuple (rs.map Rule.d)) x20) (g := fun r => unknown rs r) (xs := rs) (fun r hr => unknown_ok r)
  have e5 := order_ok (rs := rs) (by omega) hp
  have e6 := lefts_ok (rs := rs) (by omega)
  unfold m_is_grammar m_is_grammar_b
  simp -implicitDefEqProofs only [PyData.isTuple, Bool.not_true, Bool.false_eq_true, if_false, pLen_t, List.length_cons, List.length_nil, List.length_map, Option.bind_some, pNe_int, dBool_bool, t30, t31, t32, hs, pTru_bool, Option.map_some, pLe_int, c_MAX_RULES, decide_eq_false (show ¬ (rs.length : Int) < 1 by omega), decide_eq_false (show ¬ (12 : Int) < (rs.length : Int) by omega), pIter_t, Bool.not_false, if_true]
  rw [show decide (((0 + 1 + 1 + 1 : Nat) : Int) = 3) = true from rfl, e2, e4]
  rw [show (rs.all fun _ => true) = true by simp]
  simp -implicitDefEqProofs only [Bool.not_true, Bool.false_eq_true, if_false, Option.bind_some, pTru_bool, Option.map_some, e3]
  cases hk : rs.any fun r => decide (r.l = stt) with
  | false => rfl
  | true =>
    simp -implicitDefEqProofs only [Bool.not_true, Bool.false_eq_true, if_false, Option.bind_some]
    cases hu : rs.any fun r => unknown rs r with
    | true => rfl
    | false =>
      simp -implicitDefEqProofs only [Bool.false_eq_true, if_false, Option.bind_some, e5, e6, pLen_l, List.length_map, pLt_int, dBool_bool]
      by_cases q : (order rs).length < (lefts rs).length
      · rw [decide_eq_true q, decide_eq_true (show ((order rs).length : Int) < ((lefts rs).length : Int) by omega)]
        rfl
      · rw [decide_eq_false q, decide_eq_false (show ¬ ((order rs).length : Int) < ((lefts rs).length : Int) by omega)]
        simp -implicitDefEqProofs only [Bool.false_eq_true, if_false]
        cases m_are_bars v (.tuple (rs.map Rule.d)) (.int (n : Int)) <;> rfl
theorem isgram_len {xs : List D} (hs : m_is_symbol (.str stt) = some (.bool true)) (h : xs.length = 0 ∨ 12 < xs.length) : m_is_grammar (.tuple [.str stt, .tuple xs, v]) (.int (n : Int)) = some (.bool false) := by
  unfold m_is_grammar m_is_grammar_b
  simp -implicitDefEqProofs only [PyData.isTuple, Bool.not_true, Bool.false_eq_true, if_false, pLen_t, List.length_cons, List.length_nil, List.length_map, Option.bind_some, pNe_int, dBool_bool, t30, t31, t32, hs, pTru_bool, Option.map_some, pLe_int, c_MAX_RULES]
  rcases h with h | h
  · rw [h]; rfl
  · rw [decide_eq_false (show ¬ (xs.length : Int) < 1 by omega), decide_eq_true (show (12 : Int) < (xs.length : Int) by omega)]; rfl
/-- one rule is none -/
theorem isgram_rule {as bs : List Rule} {x : D} (hs : m_is_symbol (.str stt) = some (.bool true)) (ha : ∀ r ∈ as, m_is_rule r.d (.int (n : Int)) = some (.bool true)) (hb : ∀ r ∈ bs, m_is_rule r.d (.int (n : Int)) = some (.bool true)) (hx : m_is_rule x (.int (n : Int)) = some (.bool false)) (hl : as.length + bs.length < 12) :
    m_is_grammar (.tuple [.str stt, .tuple (as.map Rule.d ++ [x] ++ bs.map Rule.d), v]) (.int (n : Int)) = some (.bool false) := by
  have e2 : ((lcM (fun x13 => m_is_rule x13 (.int (n : Int))) (as.map Rule.d ++ [x] ++ bs.map Rule.d)).map PyData.list).bind pAll = some (.bool false) := by
    have h := all_lc (enc := fun o : Option Rule => match o with | some r => r.d | none => x) (f := fun x13 => m_is_rule x13 (.int (n : Int))) (g := fun o => o.isSome) (xs := as.map some ++ [none] ++ bs.map some) (fun o ho => by
      cases o with
      | none => exact hx
      | some r =>
        simp only [List.mem_append, List.mem_map, Option.some.injEq, exists_eq_right, List.mem_singleton, reduceCtorEq, or_false] at ho
        rcases ho with ho | ho
        · exact ha r ho
        · exact hb r ho)
    simp only [List.map_append, List.map_map, List.map_cons, List.map_nil] at h
    refine Eq.trans h ?_
    simp
  unfold m_is_grammar m_is_grammar_b
  have hl2 : (as.map Rule.d ++ [x] ++ bs.map Rule.d).length = as.length + bs.length + 1 := by simp; omega
  simp -implicitDefEqProofs only [PyData.isTuple, Bool.not_true, Bool.false_eq_true, if_false, pLen_t, List.length_cons, List.length_nil, hl2, Option.bind_some, pNe_int, dBool_bool, t30, t31, t32, hs, pTru_bool, Option.map_some, pLe_int, c_MAX_RULES, pIter_t]
  rw [decide_eq_false (show ¬ ((as.length + bs.length + 1 : Nat) : Int) < 1 by omega), decide_eq_false (show ¬ (12 : Int) < ((as.length + bs.length + 1 : Nat) : Int) by omega), e2]
  rfl
end
/-! ## rules that are none -/
section
variable {n : Nat} {l : Str} {y z : D}
theorem br_part {p0 : D} {ps : List D} (hl : m_is_symbol (.str l) = some (.bool true)) (h0 : m_is_part p0 = some (.bool false)) (hp : ∀ p ∈ ps, m_is_part p = some (.bool true)) (h2 : ps.length ≤ 2) : m_is_rule (.tuple [.str l, .tuple (p0 :: ps), y, z]) (.int (n : Int)) = some (.bool false) := by
  have e : ((lcM (fun x12 => m_is_part x12) (p0 :: ps)).map PyData.list).bind pAll = some (.bool false) := by
    have hps : lcM (fun x12 => m_is_part x12) ps = some (ps.map fun _ => .bool true) := by
      have := lcM_map (enc := id) (f := fun x12 => m_is_part x12) (g := fun _ => PyData.bool true) (xs := ps) hp
      simpa using this
    simp -implicitDefEqProofs only [lcM, h0, Option.bind_some, hps, Option.map_some]
    rw [show (PyData.bool false :: ps.map fun _ => PyData.bool true) = (false :: ps.map fun _ => true).map .bool by simp, pAll_bools]
    rfl
  unfold m_is_rule m_is_rule_b
  simp -implicitDefEqProofs only [PyData.isTuple, Bool.not_true, Bool.false_eq_true, if_false, pLen_t, List.length_cons, List.length_nil, Option.bind_some, pNe_int, dBool_bool, t40, t41, t42, t43, hl, pTru_bool, Option.map_some, pLe_int, c_MAX_PARTS, decide_eq_false (show ¬ ((ps.length + 1 : Nat) : Int) < 1 by omega), decide_eq_false (show ¬ (3 : Int) < ((ps.length + 1 : Nat) : Int) by omega), pIter_t, Bool.not_false, if_true]
  rw [e]
  rfl
theorem br_gen {ps : List Part} {b1 b2 : Bool} (hl : m_is_symbol (.str l) = some (.bool true)) (hp : ∀ p ∈ ps, m_is_part p.d = some (.bool true)) (h1 : 1 ≤ ps.length) (h3 : ps.length ≤ 3) (hy : m_is_condition y (.int (n : Int)) = some (.bool b1)) (hz : b1 = true → m_are_demands z (.int (ps.length : Int)) = some (.bool b2)) : m_is_rule (.tuple [.str l, .tuple (ps.map Part.d), y, z]) (.int (n : Int)) = some (.bool (b1 && b2)) := by
  have e4 := all_lc (enc := Part.d) (f := fun x12 => m_is_part x12) (g := fun _ => true) (xs := ps) hp
  unfold m_is_rule m_is_rule_b
  simp -implicitDefEqProofs only [PyData.isTuple, Bool.not_true, Bool.false_eq_true, if_false, pLen_t, List.length_cons, List.length_nil, Option.bind_some, pNe_int, dBool_bool, t40, t41, t42, t43, hl, pTru_bool, Option.map_some, List.length_map, pLe_int, c_MAX_PARTS, decide_eq_false (show ¬ (ps.length : Int) < 1 by omega), decide_eq_false (show ¬ (3 : Int) < (ps.length : Int) by omega), pIter_t, Bool.not_false, if_true]
  rw [show decide (((0 + 1 + 1 + 1 + 1 : Nat) : Int) = 4) = true from rfl]
  simp -implicitDefEqProofs only [Bool.not_true, Bool.false_eq_true, if_false, Option.bind_some]
  rw [e4, show (ps.all fun _ => true) = true by simp]
  simp -implicitDefEqProofs only [Option.bind_some, pTru_bool, Option.map_some, hy, Bool.not_true, Bool.false_eq_true, if_false]
  cases b1 with
  | false => rfl
  | true => simp -implicitDefEqProofs only [hz rfl, if_true, Option.bind_some]; rfl
theorem br_left {p : D} (hl : m_is_symbol (.str l) = some (.bool false)) : m_is_rule (.tuple [.str l, p, y, z]) (.int (n : Int)) = some (.bool false) := by
  unfold m_is_rule m_is_rule_b
  simp -implicitDefEqProofs only [PyData.isTuple, Bool.not_true, Bool.false_eq_true, if_false, pLen_t, List.length_cons, List.length_nil, Option.bind_some, pNe_int, dBool_bool, t40, hl, pTru_bool, Option.map_some]
  rfl
theorem br_len {ps : List D} (hl : m_is_symbol (.str l) = some (.bool true)) (h : ps.length = 0 ∨ 3 < ps.length) : m_is_rule (.tuple [.str l, .tuple ps, y, z]) (.int (n : Int)) = some (.bool false) := by
  unfold m_is_rule m_is_rule_b
  simp -implicitDefEqProofs only [PyData.isTuple, Bool.not_true, Bool.false_eq_true, if_false, pLen_t, List.length_cons, List.length_nil, Option.bind_some, pNe_int, dBool_bool, t40, t41, hl, pTru_bool, Option.map_some, pLe_int, c_MAX_PARTS]
  rcases h with h | h
  · rw [h]; rfl
  · rw [decide_eq_false (show ¬ (ps.length : Int) < 1 by omega), decide_eq_true (show (3 : Int) < (ps.length : Int) by omega)]; rfl
theorem br_parts {s : Str} (hl : m_is_symbol (.str l) = some (.bool true)) : m_is_rule (.tuple [.str l, .str s, y, z]) (.int (n : Int)) = some (.bool false) := by
  unfold m_is_rule m_is_rule_b
  simp -implicitDefEqProofs only [PyData.isTuple, Bool.not_true, Bool.false_eq_true, if_false, pLen_t, List.length_cons, List.length_nil, Option.bind_some, pNe_int, dBool_bool, t40, t41, hl, pTru_bool, Option.map_some]
  rfl
theorem br_three {a b c : D} : m_is_rule (.tuple [a, b, c]) (.int (n : Int)) = some (.bool false) := rfl
theorem br_seven : m_is_rule (.int 7) (.int (n : Int)) = some (.bool false) := rfl
theorem bc_false : m_is_condition (.bool false) (.int (n : Int)) = some (.bool false) := rfl
theorem bc_n (n1 : 1 ≤ n) : m_is_condition (.tuple [.int (n : Int), .bool false, .bool true]) (.int (n : Int)) = some (.bool false) := by
  unfold m_is_condition m_is_condition_b
  have h := isd_ok (x := .node n (.leaf false) (.leaf true)) (cnt := (n : Int)) (by simp [Dg.ht])
  rw [show Dg.wf 0 (n : Int) (.node n (.leaf false) (.leaf true)) = false by simp [Dg.wf]] at h
  rw [show (PyData.tuple [.int (n : Int), .bool false, .bool true]) = (Dg.node n (.leaf false) (.leaf true)).d from rfl, h]
  rfl
theorem bc_0 : m_is_condition (.tuple [.int 0, .bool true, .bool true]) (.int (n : Int)) = some (.bool false) := by
  unfold m_is_condition m_is_condition_b
  have h := isd_ok (x := .node 0 (.leaf true) (.leaf true)) (cnt := (n : Int)) (by simp [Dg.ht])
  rw [show Dg.wf 0 (n : Int) (.node 0 (.leaf true) (.leaf true)) = false by simp [Dg.wf]] at h
  rw [show (PyData.tuple [.int 0, .bool true, .bool true]) = (Dg.node 0 (.leaf true) (.leaf true)).d from rfl, h]
  rfl
/-- one demand alone -/
theorem bd_one {x : D} {m : Nat} (h : m_is_demand x (.int (m : Int)) = some (.bool false)) : m_are_demands (.tuple [x]) (.int (m : Int)) = some (.bool false) := by
  unfold m_are_demands m_are_demands_b
  have e : ((pRg1 (.int (([x] : List D).length : Int))).bind fun xs4 => (lcM (fun x5 => ((pIdx (.tuple [x]) x5).bind fun x6 => m_is_demand x6 (.int (m : Int))).bind fun x11 => (pTru x11).bind fun k12 => if k12 = true then (pIdx (.tuple [x]) x5).bind fun x9 => ((pOpt x5).bind fun h8 => pSl (.tuple [x]) none h8).bind fun y10 => pNotIn x9 y10 else some x11) xs4).map PyData.list) = some (PyData.list [.bool false]) := by
    rw [show (pRg1 (.int (([x] : List D).length : Int))) = some [.int 0] from pRg_nat (n := 1) (by decide)]
    simp -implicitDefEqProofs only [Option.bind_some, lcM, t10, h, pTru_bool, Bool.false_eq_true, if_false, Option.map_some]
  simp -implicitDefEqProofs only [PyData.isTuple, Bool.not_true, Bool.false_eq_true, if_false, pLen_t, Option.bind_some, pGt_int, c_MAX_DEMANDS, dBool_bool]
  rw [show decide ((4 : Int) < (([x] : List D).length : Int)) = false from rfl]
  simp -implicitDefEqProofs only [Bool.false_eq_true, if_false]
  rw [e]
  rfl
theorem bd_idx {t : String} {i : Int} {m : Nat} (hi : (decide (0 ≤ i) && decide (i < (m : Int))) = false) : m_is_demand (.tuple [S t, .int i]) (.int (m : Int)) = some (.bool false) := by
  unfold m_is_demand m_is_demand_b
  simp -implicitDefEqProofs only [PyData.isTuple, Bool.not_true, Bool.false_eq_true, if_false, pLen_t, List.length_cons, List.length_nil, Option.bind_some, pLt_int, dBool_bool, pOpt_int, sl_one1, pIter_t, lcM, isindex_ok, hi, Option.map_some]
  rfl
theorem bd_word {t : String} {m : Nat} (hm : 1 ≤ m) (h1 : pEq (S t) (S "glued") = some (.bool false)) (h2 : ∃ b, pIn (S t) (.tuple [(S "same"), (S "right"), (S "row")]) = some (.bool b)) : m_is_demand (.tuple [S t, .int 0]) (.int (m : Int)) = some (.bool false) := by
  obtain ⟨b, h2⟩ := h2
  unfold m_is_demand m_is_demand_b
  have i0 : m_is_index (.int 0) (.int (m : Int)) = some (.bool true) := isindex_nat (i := 0) (by omega)
  simp -implicitDefEqProofs only [PyData.isTuple, Bool.not_true, Bool.false_eq_true, if_false, pLen_t, List.length_cons, List.length_nil, Option.bind_some, pLt_int, dBool_bool, pOpt_int, sl_one1, pIter_t, lcM, i0, Option.map_some]
  rw [show pAll (.list [.bool true]) = some (.bool true) from rfl]
  simp -implicitDefEqProofs only [Option.bind_some, pTru_bool, Option.map_some, t20, h1, h2, dBool_bool, Bool.not_true, Bool.false_eq_true, if_false]
  cases b <;> rfl
theorem bd_same {m : Nat} (hm : 1 ≤ m) : m_is_demand (.tuple [S "same", .int 0, .int 0]) (.int (m : Int)) = some (.bool false) := by
  unfold m_is_demand m_is_demand_b
  have i0 : m_is_index (.int 0) (.int (m : Int)) = some (.bool true) := isindex_nat (i := 0) (by omega)
  have e1 : pEq (S "same") (S "glued") = some (.bool false) := by rw [pEq_str, decide_eq_false (by decide)]
  have e2 : pIn (S "same") (.tuple [(S "same"), (S "right"), (S "row")]) = some (.bool true) := isTrue_ok (by decide +kernel)
  simp -implicitDefEqProofs only [PyData.isTuple, Bool.not_true, Bool.false_eq_true, if_false, pLen_t, List.length_cons, List.length_nil, Option.bind_some, pLt_int, dBool_bool, pOpt_int, sl_one2, pIter_t, lcM, i0, Option.map_some]
  rw [show pAll (.list [.bool true, .bool true]) = some (.bool true) from rfl]
  simp -implicitDefEqProofs only [Option.bind_some, pTru_bool, Option.map_some, t30, t31, t32, e1, e2, dBool_bool, Bool.not_true, Bool.false_eq_true, if_false]
  rfl
theorem bd_twice {m : Nat} (hm : 1 ≤ m) : m_are_demands (.tuple [.tuple [S "glued", .int 0], .tuple [S "glued", .int 0]]) (.int (m : Int)) = some (.bool false) := by
  have h : m_is_demand (.tuple [S "glued", .int 0]) (.int (m : Int)) = some (.bool true) := isdem_ok (x := .glued 0) (show 0 < m by omega)
  unfold m_are_demands m_are_demands_b
  have n0 : pNotIn (.tuple [S "glued", .int 0]) (.tuple []) = some (.bool true) := rfl
  have n1 : pNotIn (.tuple [S "glued", .int 0]) (.tuple [.tuple [S "glued", .int 0]]) = some (.bool false) := isFalse_ok (by decide +kernel)
  have s0 : pSl (.tuple [.tuple [S "glued", .int 0], .tuple [S "glued", .int 0]]) none (some 0) = some (.tuple []) := rfl
  have s1 : pSl (.tuple [.tuple [S "glued", .int 0], .tuple [S "glued", .int 0]]) none (some 1) = some (.tuple [.tuple [S "glued", .int 0]]) := rfl
  simp -implicitDefEqProofs only [PyData.isTuple, Bool.not_true, Bool.false_eq_true, if_false, pLen_t, Option.bind_some, pGt_int, c_MAX_DEMANDS, dBool_bool]
  rw [show decide ((4 : Int) < (([.tuple [S "glued", .int 0], .tuple [S "glued", .int 0]] : List D).length : Int)) = false from rfl, show (pRg1 (.int (([.tuple [S "glued", .int 0], .tuple [S "glued", .int 0]] : List D).length : Int))) = some [.int 0, .int 1] from pRg_nat (n := 2) (by decide)]
  simp -implicitDefEqProofs only [Bool.false_eq_true, if_false, Option.bind_some, lcM, t20, t21, h, pTru_bool, if_true, pOpt_int, s0, s1, n0, n1, Option.map_some]
  rfl
end
end P
namespace P
open PySem PySem.Spec L2 Z
/-! ## grammars that are none -/
theorem pOpt_nat (k : Nat) : pOpt (.int (k : Int)) = some (some (k : Int)) := rfl
theorem sl_rest (p : D) (ps : List D) : pSl (.tuple (p :: ps)) (some 1) none = some (.tuple ps) := by
  have := sl_td (xs := p :: ps) (k := 1)
  simpa using this
theorem add_hd (x : D) {ps : List D} (h : ps.length ≤ 1000) : pAdd (.tuple [x]) (.tuple ps) = some (.tuple (x :: ps)) := by rw [pAdd_tt (by simp; omega)]; rfl
/-- what the law puts in a rule's place: no rule, or one with a symbol that is no left -/
def Nowh : Str := Str.ofString "Nowher"
theorem nowh_sym : m_is_symbol (.str Nowh) = some (.bool true) := isTrue_ok (by decide +kernel)
theorem symok_ne {s : Str} (h : SymOk s) {c d : Nat} {l : List Nat} (hd : d ∉ inSym) : s ≠ Z.st (c :: d :: l) := by
  obtain ⟨a, r, rfl, _, _, h3, _⟩ := h
  intro e
  have := st_inj.mp e
  simp only [List.cons.injEq] at this
  exact hd (h3 d (by rw [this.2]; simp))
theorem ne_nowh {s : Str} (h : SymOk s) : s ≠ Nowh := by
  have e : Nowh = Z.st [78, 111, 119, 104, 101, 114] := by decide +kernel
  rw [e]; exact symok_ne h (by decide)
theorem ne_ring {s : Str} (h : SymOk s) : s ≠ Str.ofString "Ring" := by
  have e : Str.ofString "Ring" = Z.st [82, 105, 110, 103] := by decide +kernel
  rw [e]; exact symok_ne h (by decide)
theorem badrule_ok {t : D} (ht : TO t) {n : Nat} (n1 : 1 ≤ n) (n5 : n ≤ 5) {ss : List Str} (so : ∀ s ∈ ss, SymOk s) {r : Rule} (h : RuleOk n ss r) : ∃ (v : D) (t' : D), m__law_bad_rule t r.d (.int (n : Int)) = some (v, t') ∧ (m_is_rule v (.int (n : Int)) = some (.bool false) ∨ ∃ ps, 1 ≤ ps.length + 1 ∧ v = (Rule.mk r.l (.sym Nowh :: ps) r.dg []).d ∧ m_is_rule v (.int (n : Int)) = some (.bool true)) ∧ TO t' := by
  obtain ⟨l, ps, dg, ds⟩ := r
  have hl := issym_ok (so l h.l)
  have hps : ∀ p ∈ ps, m_is_part p.d = some (.bool true) := fun p hp => ispart_ok so (h.ps p hp)
  have hdg : m_is_condition dg.d (.int (n : Int)) = some (.bool true) := iscond_ok n5 h.dg
  have hl1 : 1 ≤ ps.length := h.len.1
  have hl3 : ps.length ≤ 3 := h.len.2
  obtain ⟨p, qs, rfl⟩ : ∃ p qs, ps = p :: qs := by
    cases ps with
    | nil => simp at hl1
    | cons p qs => exact ⟨p, qs, rfl⟩
  have hq2 : (qs.map Part.d).length ≤ 2 := by simp at hl3 ⊢; omega
  have hqs : ∀ q ∈ qs.map Part.d, m_is_part q = some (.bool true) := fun q hq => by
    obtain ⟨x, hx, rfl⟩ := List.mem_map.mp hq
    exact hps x (List.mem_cons_of_mem _ hx)
  obtain ⟨k1, t1, e1, b1, h1⟩ := tk 30 ht
  obtain ⟨k2, t2, e2, b2, h2⟩ := tk 23 h1
  have en : pNeg (.int (1 + (k1 : Int))) = some (.int (-(1 + (k1 : Int)))) := rfl
  have ew : pMulD (.tuple [(.tuple [(S "kind"), (S "word")])]) (.int 3) = some (.tuple [Part.wrd.d, Part.wrd.d, Part.wrd.d]) := rfl
  have ea : pAdd (.tuple (p.d :: qs.map Part.d)) (.tuple [Part.wrd.d, Part.wrd.d, Part.wrd.d]) = some (.tuple (p.d :: qs.map Part.d ++ [Part.wrd.d, Part.wrd.d, Part.wrd.d])) := pAdd_tt (by simp at hq2 ⊢; omega)
  have part : ∀ x : D, isFalse (m_is_part x) = true → m_is_part x = some (.bool false) := fun x hx => isFalse_ok hx
  unfold m__law_bad_rule m__law_bad_rule_b
  simp -implicitDefEqProofs only [Rule.d, Option.bind_some, un4, e1, pAdd_int, Option.map_some, List.map_cons, pOpt_int, sl_rest, add_hd _ (show (qs.map Part.d).length ≤ 1000 by omega), pLen_t, List.length_cons, List.length_map, en, ew, ea, e2]
  have fin : ∀ xs : List D, xs.length = 23 → (∀ v ∈ xs, m_is_rule v (.int (n : Int)) = some (.bool false) ∨ ∃ ps, 1 ≤ ps.length + 1 ∧ v = (Rule.mk l (.sym Nowh :: ps) dg []).d ∧ m_is_rule v (.int (n : Int)) = some (.bool true)) → ∃ v t', Ctl.fin Empty.elim (((pIdx (.list xs) (.int (k2 : Int))).map fun z56 => (z56, t2)).bind fun r57 => (some (.rt (r57.1, r57.2)) : Option (Ctl Empty Empty (D × D)))) = some (v, t') ∧ (m_is_rule v (.int (n : Int)) = some (.bool false) ∨ ∃ ps, 1 ≤ ps.length + 1 ∧ v = (Rule.mk l (.sym Nowh :: ps) dg []).d ∧ m_is_rule v (.int (n : Int)) = some (.bool true)) ∧ TO t' := by
    intro xs hx hv
    have hk : k2 < xs.length := by omega
    rw [pIdx_ln (List.getElem?_eq_getElem hk)]
    simp -implicitDefEqProofs only [Option.map_some, Option.bind_some, Ctl.fin_rt]
    exact ⟨_, t2, rfl, hv _ (List.getElem_mem hk), h2⟩
  have bad0 : ∀ (x : D) (b : Bool), m_are_demands x (.int (((p :: qs).length : Nat) : Int)) = some (.bool b) → b = false → m_is_rule (.tuple [.str l, .tuple (p.d :: qs.map Part.d), dg.d, x]) (.int (n : Int)) = some (.bool false) := fun x b hx hb => by
    have := br_gen (n := n) (l := l) (y := dg.d) (z := x) (ps := p :: qs) (b1 := true) (b2 := b) hl hps hl1 hl3 hdg (fun _ => hx)
    rw [hb] at this
    exact this
  have cond0 : ∀ x : D, m_is_condition x (.int (n : Int)) = some (.bool false) → m_is_rule (.tuple [.str l, .tuple (p.d :: qs.map Part.d), x, .tuple (ds.map Dem.d)]) (.int (n : Int)) = some (.bool false) := fun x hx => br_gen (n := n) (l := l) (y := x) (z := .tuple (ds.map Dem.d)) (ps := p :: qs) (b1 := false) (b2 := false) hl hps hl1 hl3 hx (fun e => by cases e)
  have hm : 1 ≤ (p :: qs).length := hl1
  refine fin _ rfl fun v hv => ?_
  simp only [List.mem_cons, List.not_mem_nil, or_false] at hv
  rcases hv with rfl | rfl | rfl | rfl | rfl | rfl | rfl | rfl | rfl | rfl | rfl | rfl | rfl | rfl | rfl | rfl | rfl | rfl | rfl | rfl | rfl | rfl | rfl
  · exact .inl (br_left (isFalse_ok (by decide +kernel)))
  · exact .inl (br_left (isFalse_ok (by decide +kernel)))
  · exact .inl (br_len hl (.inl rfl))
  · exact .inl (cond0 _ bc_false)
  · exact .inl (br_part hl (part _ (by decide +kernel)) hqs hq2)
  · exact .inl (br_part hl (part _ (by decide +kernel)) hqs hq2)
  · exact .inl br_three
  · exact .inl (br_part hl (part _ (by decide +kernel)) hqs hq2)
  · exact .inl (br_part hl (part _ (by decide +kernel)) hqs hq2)
  · exact .inl (cond0 _ (bc_n n1))
  · refine .inr ⟨qs, by omega, rfl, ?_⟩
    have hN : ∀ q ∈ Part.sym Nowh :: qs, m_is_part q.d = some (.bool true) := fun q hq => by
      rcases List.mem_cons.mp hq with rfl | hq
      · exact isTrue_ok (by decide +kernel)
      · exact hps q (List.mem_cons_of_mem _ hq)
    exact br_gen (n := n) (l := l) (y := dg.d) (z := .tuple []) (ps := .sym Nowh :: qs) (b1 := true) (b2 := true) hl hN hl1 hl3 hdg (fun _ => aredem_ok (ds := []) (by simp) (by simp) (by simp))
  · exact .inl (bad0 _ false (bd_one (bd_idx (by
      rw [decide_eq_false (show ¬ (((qs.length + 1 : Nat) : Int) < (((p :: qs).length : Nat) : Int)) by simp only [List.length_cons]; omega), Bool.and_false]))) rfl)
  · exact .inl (bad0 _ false (bd_one (bd_same hm)) rfl)
  · exact .inl (bad0 _ false (bd_twice hm) rfl)
  · exact .inl (bad0 _ false (bd_one (bd_word hm (by rw [pEq_str, decide_eq_false (by decide)]) ⟨false, isFalse_ok (by decide +kernel)⟩)) rfl)
  · exact .inl (bad0 _ false (bd_one (bd_idx (by
      rw [decide_eq_false (show ¬ ((0 : Int) ≤ -(1 + (k1 : Int))) by omega), Bool.false_and]))) rfl)
  · exact .inl (br_len hl (.inr (by simp)))
  · exact .inl (cond0 _ bc_0)
  · exact .inl br_seven
  · exact .inl (br_parts hl)
  · exact .inl (br_part hl (part _ (by decide +kernel)) hqs hq2)
  · exact .inl (br_part hl (part _ (by decide +kernel)) hqs hq2)
  · exact .inl (bad0 _ false (bd_one (bd_word hm (by rw [pEq_str, decide_eq_false (by decide)]) ⟨true, isTrue_ok (by decide +kernel)⟩)) rfl)
end P
namespace P
open PySem PySem.Spec L2 Z
theorem sl_neg1 (xs : List D) : pSl (.tuple xs) (some (-1)) none = some (.tuple (xs.drop (xs.length - 1))) := by
  show some (PyData.tuple _) = _
  refine congrArg (fun l => some (PyData.tuple l)) ?_
  have e : HT.sIx xs.length 0 (some (-1)) = xs.length - 1 := by
    show ((-1 : Int) + (xs.length : Int)).toNat = _
    omega
  simp only [cutD, HT.sIx_none, e]
  rw [List.take_of_length_le (by simp)]
section
variable {n : Nat} {rs : List Rule}
theorem arebars_len {xs : List D} (h : 12 < xs.length) : m_are_bars (.tuple xs) (.tuple (rs.map Rule.d)) (.int (n : Int)) = some (.bool false) := by
  unfold m_are_bars m_are_bars_b
  simp -implicitDefEqProofs only [PyData.isTuple, Bool.not_true, Bool.false_eq_true, if_false, pLen_t, Option.bind_some, pGt_int, c_MAX_BARS, dBool_bool, decide_eq_true (show (12 : Int) < (xs.length : Int) by omega), if_true]
  rfl
theorem arebars_bad (n5 : n ≤ 5) {as : List Bar} {x : D} (ha : ∀ b ∈ as, BarOk n rs b) (hx : m_is_bar x (.tuple (rs.map Rule.d)) (.int (n : Int)) = some (.bool false)) : m_are_bars (.tuple (as.map Bar.d ++ [x])) (.tuple (rs.map Rule.d)) (.int (n : Int)) = some (.bool false) := by
  by_cases q : 12 < (as.map Bar.d ++ [x]).length
  · exact arebars_len q
  · have e2 : ((lcM (fun x5 => m_is_bar x5 (.tuple (rs.map Rule.d)) (.int (n : Int))) (as.map Bar.d ++ [x])).map PyData.list).bind pAll = some (.bool false) := by
      have h := all_lc (enc := fun o : Option Bar => match o with | some r => r.d | none => x) (f := fun x5 => m_is_bar x5 (.tuple (rs.map Rule.d)) (.int (n : Int))) (g := fun o => o.isSome) (xs := as.map some ++ [none]) (fun o ho => by
        cases o with
        | none => exact hx
        | some r =>
          simp only [List.mem_append, List.mem_map, Option.some.injEq, exists_eq_right, List.mem_singleton, reduceCtorEq, or_false] at ho
          exact isbar_ok n5 (ha r ho))
      simp only [List.map_append, List.map_map, List.map_cons, List.map_nil] at h
      refine Eq.trans h ?_
      simp
    unfold m_are_bars m_are_bars_b
    simp -implicitDefEqProofs only [PyData.isTuple, Bool.not_true, Bool.false_eq_true, if_false, pLen_t, Option.bind_some, pGt_int, c_MAX_BARS, dBool_bool, decide_eq_false (show ¬ (12 : Int) < ((as.map Bar.d ++ [x]).length : Int) by omega), pIter_t]
    rw [e2]
    rfl
theorem isbar_4 {R N : D} : m_is_bar (.int 4) R N = some (.bool false) := rfl
theorem isbar_bad1 {a p b : Int} {x : D} (h : (decide (0 ≤ a) && decide (a < (rs.length : Int))) = false ∨ (decide (0 ≤ b) && decide (b < (rs.length : Int))) = false) : m_is_bar (.tuple [.int a, .int p, .int b, x]) (.tuple (rs.map Rule.d)) (.int (n : Int)) = some (.bool false) := by
  unfold m_is_bar m_is_bar_b
  simp -implicitDefEqProofs only [PyData.isTuple, Bool.not_true, Bool.false_eq_true, if_false, pLen_t, List.length_cons, List.length_nil, List.length_map, Option.bind_some, pNe_int, dBool_bool, t40, t41, t42, t43, isindex_ok, pTru_bool, Option.map_some]
  rw [show decide (((0 + 1 + 1 + 1 + 1 : Nat) : Int) = 4) = true from rfl]
  rcases h with h | h
  · rw [h]; rfl
  · rw [h]
    cases (decide (0 ≤ a) && decide (a < (rs.length : Int))) <;> rfl
theorem isbar_bad2 {r : Rule} {rest : List Rule} {p : Int} {x : D} {b1 : Bool} (he : rs = r :: rest) (hx : m_is_condition x (.int (n : Int)) = some (.bool b1)) (h : (decide (0 ≤ p) && decide (p < (r.ps.length : Int))) = false ∨ b1 = false) : m_is_bar (.tuple [.int 0, .int p, .int 0, x]) (.tuple (rs.map Rule.d)) (.int (n : Int)) = some (.bool false) := by
  subst he
  have x1 : pIdx (.tuple ((r :: rest).map Rule.d)) (.int 0) = some r.d := t_hd _ _
  have x3 : pIdx r.d (.int 1) = some (.tuple (r.ps.map Part.d)) := rfl
  have i0 : m_is_index (.int 0) (.int ((r :: rest).length : Int)) = some (.bool true) := isindex_nat (i := 0) (by simp)
  unfold m_is_bar m_is_bar_b
  simp -implicitDefEqProofs only [PyData.isTuple, Bool.not_true, Bool.false_eq_true, if_false, pLen_t, List.length_cons, List.length_nil, List.length_map, Option.bind_some, pNe_int, dBool_bool, t40, t41, t42, t43, pTru_bool, Option.map_some, x1, x3]
  simp -implicitDefEqProofs only [List.length_cons] at i0
  rw [show decide (((0 + 1 + 1 + 1 + 1 : Nat) : Int) = 4) = true from rfl, i0]
  simp -implicitDefEqProofs only [Bool.not_true, Bool.false_eq_true, if_false, Option.bind_some, pTru_bool, Option.map_some, isindex_ok, hx]
  rcases h with h | h
  · rw [h]; rfl
  · rw [h]
    cases (decide (0 ≤ p) && decide (p < (r.ps.length : Int))) <;> rfl
end
section
variable (a b c d e f g h i j k l m o : D)
theorem cat63 : pCat (.list [a, b, c, d, e, f]) (.list [g, h, i]) = some (.list [a, b, c, d, e, f, g, h, i]) := pCat_ll (by simp)
theorem cat94 : pCat (.list [a, b, c, d, e, f, g, h, i]) (.list [j, k, l, m]) = some (.list [a, b, c, d, e, f, g, h, i, j, k, l, m]) := pCat_ll (by simp)
theorem app13 : pApp (.list [a, b, c, d, e, f, g, h, i, j, k, l, m]) o = some (.list [a, b, c, d, e, f, g, h, i, j, k, l, m, o]) := pApp_l (by simp)
end
theorem isgram_sym {n : Nat} {s : Str} {x v : D} (h : m_is_symbol (.str s) = some (.bool false)) : m_is_grammar (.tuple [.str s, x, v]) (.int (n : Int)) = some (.bool false) := by
  unfold m_is_grammar m_is_grammar_b
  simp -implicitDefEqProofs only [PyData.isTuple, Bool.not_true, Bool.false_eq_true, if_false, pLen_t, List.length_cons, List.length_nil, Option.bind_some, pNe_int, dBool_bool, t30, h, pTru_bool, Option.map_some]
  rfl
theorem unit_rule {n : Nat} (n5 : n ≤ 5) {l s : Str} (hl : m_is_symbol (.str l) = some (.bool true)) (hs : m_is_symbol (.str s) = some (.bool true)) : m_is_rule (Rule.mk l [.sym s] (.leaf true) []).d (.int (n : Int)) = some (.bool true) := by
  have hp : ∀ q ∈ [Part.sym s], m_is_part q.d = some (.bool true) := fun q hq => by
    rw [List.mem_singleton.mp hq]
    unfold m_is_part m_is_part_b
    have n1 : pEq (S "symbol") (S "kind") = some (.bool false) := by rw [pEq_str, decide_eq_false (by decide)]
    have n2 : pEq (S "symbol") (S "text") = some (.bool false) := by rw [pEq_str, decide_eq_false (by decide)]
    have n3 : pEq (S "symbol") (S "symbol") = some (.bool true) := by rw [pEq_str, decide_eq_true rfl]
    simp -implicitDefEqProofs only [Part.d, PyData.isTuple, Bool.not_true, Bool.false_eq_true, if_false, pLen_t, List.length_cons, List.length_nil, Option.bind_some, pNe_int, dBool_bool, t20, t21, n1, n2, n3, pTru_bool, hs]
    rfl
  exact br_gen (n := n) (l := l) (y := .bool true) (z := .tuple []) (ps := [.sym s]) (b1 := true) (b2 := true) hl hp (by simp) (by simp) (iscond_ok n5 (dg_true n)) (fun _ => aredem_ok (ds := []) (by simp) (by simp) (by simp))
theorem bad_ok {t : D} (ht : TO t) {n : Nat} {ss : List Str} {g : Gram} (G : GramOk n ss g) : ∃ (v : D) (t' : D), m__law_bad t g.d (.int (n : Int)) = some (v, t') ∧ m_is_grammar v (.int (n : Int)) = some (.bool false) ∧ TO t' := by
  obtain ⟨n1, n5⟩ := G.nn
  obtain ⟨r1, r12⟩ := G.rl
  have hst := issym_ok (G.so g.st G.st)
  have hrule : ∀ r ∈ g.rs, m_is_rule r.d (.int (n : Int)) = some (.bool true) := fun r hr => isrule_ok n5 G.so (G.rs r hr)
  have hp1 : ∀ r ∈ g.rs, 1 ≤ r.ps.length := fun r hr => (G.rs r hr).len.1
  obtain ⟨at_, ra, t1, e1, b1, ga, xa, ma, h1⟩ := draw (xs := g.rs) (enc := Rule.d) ht (by omega) (by omega)
  obtain ⟨k2, t2, e2, b2, h2⟩ := tk 2 h1
  -- the first rule
  obtain ⟨r0, rest, er⟩ : ∃ r rest, g.rs = r :: rest := by
    cases h : g.rs with
    | nil => rw [h] at r1; simp at r1
    | cons a b => exact ⟨a, b, rfl⟩
  have x0 : pIdx (.tuple (g.rs.map Rule.d)) (.int 0) = some r0.d := by rw [er]; exact t_hd _ _
  have r0len := (G.rs r0 (by rw [er]; simp)).len
  -- additions
  have a1 : ∀ ys : List D, ys.length ≤ 20 → pAdd (.tuple (g.rs.map Rule.d)) (.tuple ys) = some (.tuple (g.rs.map Rule.d ++ ys)) := fun ys hy => pAdd_tt (by simp; omega)
  have bl := G.bl
  have a2 : ∀ ys : List D, ys.length ≤ 20 → pAdd (.tuple (g.bs.map Bar.d)) (.tuple ys) = some (.tuple (g.bs.map Bar.d ++ ys)) := fun ys hy => pAdd_tt (by simp; omega)
  have a3 : pSl (.tuple (g.bs.map Bar.d)) (some (-1)) none = some (.tuple ((g.bs.drop (g.bs.length - 1)).map Bar.d)) := by rw [sl_neg1, List.length_map, List.map_drop]
  have a4 : pAdd (.tuple (g.bs.map Bar.d ++ (g.bs.drop (g.bs.length - 1)).map Bar.d)) (.tuple [(.int 4)]) = some (.tuple ((g.bs ++ g.bs.drop (g.bs.length - 1)).map Bar.d ++ [.int 4])) := by
    rw [pAdd_tt (by simp; omega), List.map_append]
  have a5 : pMulD (.tuple [r0.d]) (.int 13) = some (.tuple (List.replicate 13 r0.d)) := rfl
  unfold m__law_bad m__law_bad_b
  simp -implicitDefEqProofs only [Gram.d, Option.bind_some, un3, pLen_t, List.length_map, e1, a1 [_] (show 1 ≤ 20 by decide), a2 [_] (show 1 ≤ 20 by decide), cat63, cat94, x0, a5, pOpt_int, a3, a2 _ (show ((g.bs.drop (g.bs.length - 1)).map Bar.d).length ≤ 20 by simp; omega), a4, pTuple_l, a1 [_, _] (show 2 ≤ 20 by decide), app13, e2, pEq_int, dBool_bool, Option.map_some]
  by_cases q : (k2 : Int) = 0
  · rw [decide_eq_true q]
    obtain ⟨v, t3, e3, hv, h3⟩ := badrule_ok h2 n1 n5 G.so (G.rs ra ma)
    have xa' : pIdx (.tuple (g.rs.map Rule.d)) (.int (at_ : Int)) = some ra.d := pIdx_tn (by rw [List.getElem?_map, ga]; rfl)
    have ea : (at_ : Int) + 1 = ((at_ + 1 : Nat) : Int) := by omega
    simp -implicitDefEqProofs only [if_true, Option.bind_some, pOpt_int, sl_tt, Option.map_some, xa', e3, pAdd_int, ea, sl_td, ← List.map_take, ← List.map_drop]
    rw [pAdd_tt (by simp; omega)]
    simp -implicitDefEqProofs only [Option.map_some, Option.bind_some]
    rw [pAdd_tt (by simp; omega)]
    simp -implicitDefEqProofs only [Option.map_some, Option.bind_some, Ctl.ex, Ctl.fin_rt]
    refine ⟨_, t3, rfl, ?_, h3⟩
    have hta : ∀ r ∈ g.rs.take at_, r ∈ g.rs := fun r hr => List.mem_of_mem_take hr
    have hda : ∀ r ∈ g.rs.drop (at_ + 1), r ∈ g.rs := fun r hr => List.mem_of_mem_drop hr
    rcases hv with hv | ⟨ps, _, rfl, hv⟩
    · exact isgram_rule hst (fun r hr => hrule r (hta r hr)) (fun r hr => hrule r (hda r hr)) hv (by simp; omega)
    · have e : g.rs.take at_ |>.map Rule.d |> (· ++ [(Rule.mk ra.l (.sym Nowh :: ps) ra.dg []).d] ++ (g.rs.drop (at_ + 1)).map Rule.d) |> (· = (g.rs.take at_ ++ [Rule.mk ra.l (.sym Nowh :: ps) ra.dg []] ++ g.rs.drop (at_ + 1)).map Rule.d) := by simp
      have e' : (g.rs.take at_).map Rule.d ++ [(Rule.mk ra.l (.sym Nowh :: ps) ra.dg []).d] ++ (g.rs.drop (at_ + 1)).map Rule.d = (g.rs.take at_ ++ [Rule.mk ra.l (.sym Nowh :: ps) ra.dg []] ++ g.rs.drop (at_ + 1)).map Rule.d := by simp
      rw [e']
      generalize hrs : g.rs.take at_ ++ [Rule.mk ra.l (.sym Nowh :: ps) ra.dg []] ++ g.rs.drop (at_ + 1) = rs'
      have hmem : ∀ r ∈ rs', r ∈ g.rs ∨ r = Rule.mk ra.l (.sym Nowh :: ps) ra.dg [] := fun r hr => by
        rw [← hrs] at hr
        simp only [List.mem_append, List.mem_singleton] at hr
        rcases hr with (hr | hr) | hr
        · exact .inl (hta r hr)
        · exact .inr hr
        · exact .inl (hda r hr)
      have hlen : rs'.length = g.rs.length := by rw [← hrs]; simp; omega
      rw [isgram_gen hst (fun r hr => by
        rcases hmem r hr with h | h
        · exact hrule r h
        · rw [h]; exact hv) (by omega) (by omega) (fun r hr => by
        rcases hmem r hr with h | h
        · exact hp1 r h
        · rw [h]; simp)]
      have hu : (rs'.any fun r => unknown rs' r) = true := by
        rw [List.any_eq_true]
        refine ⟨Rule.mk ra.l (.sym Nowh :: ps) ra.dg [], by rw [← hrs]; simp, ?_⟩
        unfold unknown
        rw [List.any_cons]
        have : (rs'.any fun r => decide (r.l = Nowh)) = false := by
          rw [List.any_eq_false]
          intro r hr
          have hl : r.l ∈ ss := by
            rcases hmem r hr with h | h
            · exact (G.rs r h).l
            · rw [h]; exact (G.rs ra ma).l
          simp [ne_nowh (G.so _ hl)]
        show ((!rs'.any fun r => decide (r.l = Nowh)) || _) = true
        rw [this]
        rfl
      rw [hu, Bool.or_true, Bool.true_or]
      rfl
  · rw [decide_eq_false q]
    simp -implicitDefEqProofs only [Bool.false_eq_true, if_false, Option.bind_some, pLen_l]
    have fin : ∀ xs : List D, xs.length = 14 → (∀ v ∈ xs, m_is_grammar v (.int (n : Int)) = some (.bool false)) → ∃ v t', Ctl.fin Empty.elim (((m__law_take t2 (.int (xs.length : Int))).bind fun r57 => (pIdx (.list xs) r57.1).map fun z58 => (z58, r57.2)).bind fun r59 => (some (.rt (r59.1, r59.2)) : Option (Ctl Empty Empty (D × D)))) = some (v, t') ∧ m_is_grammar v (.int (n : Int)) = some (.bool false) ∧ TO t' := by
      intro xs hx hv
      obtain ⟨k3, t3, e3, b3, h3⟩ := tkl xs.length h2 (by omega) (by omega)
      rw [e3]
      simp -implicitDefEqProofs only [Option.bind_some, pIdx_ln (List.getElem?_eq_getElem b3), Option.map_some, Ctl.fin_rt]
      exact ⟨_, t3, rfl, hv _ (List.getElem_mem b3), h3⟩
    have bars : ∀ v : D, m_are_bars v (.tuple (g.rs.map Rule.d)) (.int (n : Int)) = some (.bool false) → m_is_grammar (.tuple [.str g.st, .tuple (g.rs.map Rule.d), v]) (.int (n : Int)) = some (.bool false) := fun v hv => by
      rw [isgram_gen hst hrule r1 r12 hp1, hv]
      cases (!(g.rs.any fun r => decide (r.l = g.st))) || (g.rs.any fun r => unknown g.rs r) || decide ((order g.rs).length < (lefts g.rs).length) <;> rfl
    have onebar : ∀ x : D, m_is_bar x (.tuple (g.rs.map Rule.d)) (.int (n : Int)) = some (.bool false) → m_is_grammar (.tuple [.str g.st, .tuple (g.rs.map Rule.d), .tuple [x]]) (.int (n : Int)) = some (.bool false) := fun x hx => bars _ (arebars_bad (as := []) n5 (by simp) hx)
    have ring : ∀ (more : List Rule) (C : List Str) (v : D), more.length ≤ 2 → (∀ r ∈ more, m_is_rule r.d (.int (n : Int)) = some (.bool true)) → (∀ r ∈ more, 1 ≤ r.ps.length) → C ≠ [] → (∀ a ∈ C, ∃ p ∈ units (g.rs ++ more), p.1 = a ∧ p.2 ∈ C) → m_is_grammar (.tuple [.str g.st, .tuple (g.rs.map Rule.d ++ more.map Rule.d), v]) (.int (n : Int)) = some (.bool false) := by
      intro more C v hm hr hp hne hc
      rw [← List.map_append]
      by_cases q : 12 < (g.rs ++ more).length
      · exact isgram_len hst (.inr (by simpa using q))
      · rw [isgram_gen hst (fun r h => by
          rcases List.mem_append.mp h with h | h
          · exact hrule r h
          · exact hr r h) (by simp; omega) (by omega) (fun r h => by
          rcases List.mem_append.mp h with h | h
          · exact hp1 r h
          · exact hp r h)]
        have ho := order_ring (rs := g.rs ++ more) hne (fun a ha => by
          obtain ⟨p, hp, e, _⟩ := hc a ha
          obtain ⟨r, hr, hu⟩ := List.mem_filterMap.mp hp
          rw [lefts_mem]
          refine ⟨r, hr, ?_⟩
          unfold unitOf at hu
          split at hu
          · cases hu; exact e
          · cases hu) hc
        rw [decide_eq_true ho, Bool.or_true]
        rfl
    have hring : m_is_symbol (S "Ring") = some (.bool true) := isTrue_ok (by decide +kernel)
    have um : ∀ (l s : Str) (more : List Rule), Rule.mk l [.sym s] (.leaf true) [] ∈ more → (l, s) ∈ units (g.rs ++ more) := fun l s more hm => List.mem_filterMap.mpr ⟨_, List.mem_append_right _ hm, rfl⟩
    refine fin _ rfl fun v hv => ?_
    simp only [List.cons_append, List.nil_append, List.mem_cons, List.not_mem_nil, or_false] at hv
    rcases hv with rfl | rfl | rfl | rfl | rfl | rfl | rfl | rfl | rfl | rfl | rfl | rfl | rfl | rfl
    · rfl
    · rw [show (PyData.tuple [S "Nowher", .tuple (g.rs.map Rule.d), .tuple (g.bs.map Bar.d)]) = .tuple [.str Nowh, .tuple (g.rs.map Rule.d), .tuple (g.bs.map Bar.d)] from rfl, isgram_gen nowh_sym hrule r1 r12 hp1]
      have : (g.rs.any fun r => decide (r.l = Nowh)) = false := by
        rw [List.any_eq_false]
        intro r hr
        simp [ne_nowh (G.so _ (G.rs r hr).l)]
      rw [this]
      rfl
    · exact isgram_len hst (.inl rfl)
    · exact onebar _ (isbar_bad1 (.inr (by rw [decide_eq_false (show ¬ ((g.rs.length : Nat) : Int) < (g.rs.length : Int) by omega), Bool.and_false])))
    · exact onebar _ (isbar_bad2 er (iscond_ok n5 (dg_true n)) (.inl (by rw [decide_eq_false (show ¬ (3 : Int) < (r0.ps.length : Int) by omega), Bool.and_false])))
    · rfl
    · exact ring [Rule.mk g.st [.sym g.st] (.leaf true) []] [g.st] _ (by simp) (fun r hr => by rw [List.mem_singleton.mp hr]; exact unit_rule n5 hst hst) (fun r hr => by rw [List.mem_singleton.mp hr]; simp) (by simp) (fun a ha => ⟨(g.st, g.st), um _ _ _ (by simp), (List.mem_singleton.mp ha).symm, by simp⟩)
    · exact bars _ (arebars_bad n5 G.bs (isbar_bad2 er bc_false (.inr rfl)))
    · exact bars _ rfl
    · exact isgram_len hst (.inr (by simp))
    · exact onebar _ (isbar_bad1 (.inl rfl))
    · exact isgram_sym (isFalse_ok (by decide +kernel))
    · exact bars _ (arebars_bad n5 (fun b hb => by
        rcases List.mem_append.mp hb with hb | hb
        · exact G.bs b hb
        · exact G.bs b (List.mem_of_mem_drop hb)) isbar_4)
    · refine ring [Rule.mk (Str.ofString "Ring") [.sym g.st] (.leaf true) [], Rule.mk g.st [.sym (Str.ofString "Ring")] (.leaf true) []] [g.st, Str.ofString "Ring"] _ (by simp) (fun r hr => ?_) (fun r hr => ?_) (by simp) (fun a ha => ?_)
      · simp only [List.mem_cons, List.not_mem_nil, or_false] at hr
        rcases hr with rfl | rfl
        · exact unit_rule n5 hring hst
        · exact unit_rule n5 hst hring
      · simp only [List.mem_cons, List.not_mem_nil, or_false] at hr
        rcases hr with rfl | rfl <;> simp
      · simp only [List.mem_cons, List.not_mem_nil, or_false] at ha
        rcases ha with rfl | rfl
        · exact ⟨(g.st, Str.ofString "Ring"), um _ _ _ (by simp), rfl, by simp⟩
        · exact ⟨(Str.ofString "Ring", g.st), um _ _ _ (by simp), rfl, by simp⟩
end P
namespace P
open PySem PySem.Spec L2 Z
def niD (i : Nat) : D := .int (i : Int)
theorem rulesof_ok (g : Gram) (s : Str) : m_rules_of g.d (.str s) = some (.list ((rulesOf g.rs s).map niD)) := by
  have g1 : pIdx g.d (.int 1) = some (.tuple (g.rs.map Rule.d)) := rfl
  have e : enumD (g.rs.map Rule.d) = (List.range g.rs.length).map fun i : Nat => PyData.tuple [.int (i : Int), (g.rs.map Rule.d).getD i .none] := by
    unfold enumD
    rw [mapIdx_range _ PyData.none, List.length_map]
  have h : lcTI pUn2 (fun x3 => (pIdx x3.2 (.int 0)).bind fun x4 => (pEq x4 (.str s)).bind dBool) (fun x3 => some x3.1) (enumD (g.rs.map Rule.d)) = some ((rulesOf g.rs s).map niD) := by
    rw [e]
    refine lcI_map (p := fun k => decide ((g.rs[k]?).map Rule.l = some s)) (fun i hi => ?_) (fun i _ => rfl)
    have hi : i < g.rs.length := by simpa using hi
    obtain ⟨r, gr⟩ : ∃ r, g.rs[i]? = some r := ⟨_, List.getElem?_eq_getElem hi⟩
    have hx : (g.rs.map Rule.d).getD i .none = r.d := getD_of (by rw [List.getElem?_map, gr]; rfl)
    have e0 : pIdx r.d (.int 0) = some (.str r.l) := rfl
    rw [hx, gr]
    simp -implicitDefEqProofs only [un2, Option.bind_some, e0, pEq_str, dBool_bool, Option.map_some, Option.some.injEq]
  unfold m_rules_of m_rules_of_b
  simp -implicitDefEqProofs only [g1, Option.bind_some, pEnum, h, Option.map_some, Ctl.fin_rt]
theorem match_ok (p : Part) (t : Z.Tok) : m_matches p.d t.d = some (.bool (p.mt t)) ∧ m__law_matches p.d t.d = some (.bool (p.mt t)) := by
  have k0 : pIdx t.d (.int 0) = some (.str t.k) := rfl
  have k1 : pIdx t.d (.int 1) = some (.str t.t) := rfl
  have n1 : pEq (S "kind") (S "kind") = some (.bool true) := by rw [pEq_str, decide_eq_true rfl]
  have n2 : pEq (S "text") (S "kind") = some (.bool false) := by rw [pEq_str, decide_eq_false (by decide)]
  have n3 : pEq (S "symbol") (S "kind") = some (.bool false) := by rw [pEq_str, decide_eq_false (by decide)]
  unfold m_matches m_matches_b m__law_matches m__law_matches_b
  cases p with
  | num =>
    simp -implicitDefEqProofs only [Part.d, t20, t21, k0, k1, n1, Option.bind_some, dBool_bool, if_true]
    simp -implicitDefEqProofs only [S, pEq_str, Option.bind_some]
    exact ⟨rfl, rfl⟩
  | wrd =>
    simp -implicitDefEqProofs only [Part.d, t20, t21, k0, k1, n1, Option.bind_some, dBool_bool, if_true]
    simp -implicitDefEqProofs only [S, pEq_str, Option.bind_some]
    exact ⟨rfl, rfl⟩
  | txt s =>
    simp -implicitDefEqProofs only [Part.d, t20, t21, k0, k1, n2, Option.bind_some, dBool_bool, Bool.false_eq_true, if_false, pEq_str]
    exact ⟨rfl, rfl⟩
  | sym s =>
    simp -implicitDefEqProofs only [Part.d, t20, t21, k0, k1, n3, Option.bind_some, dBool_bool, Bool.false_eq_true, if_false, pEq_str]
    exact ⟨rfl, rfl⟩
theorem lawis_ok (b : Bool) : m__law_is (.bool b) (.bool b) = some (.bool true) := by cases b <;> rfl
/-! ## demands -/
section
variable (t : Z.Tok)
theorem tk2 : pIdx t.d (.int 2) = some (.int (t.row : Int)) := rfl
theorem tk3 : pIdx t.d (.int 3) = some (.int (t.col : Int)) := rfl
theorem tk4 : pIdx t.d (.int 4) = some (.bool t.gl) := rfl
end
theorem demtag : (pEq (S "glued") (S "glued") = some (.bool true)) ∧ (pEq (S "same") (S "glued") = some (.bool false)) ∧ (pEq (S "right") (S "glued") = some (.bool false)) ∧ (pEq (S "row") (S "glued") = some (.bool false)) ∧ (pEq (S "same") (S "same") = some (.bool true)) ∧ (pEq (S "right") (S "same") = some (.bool false)) ∧ (pEq (S "row") (S "same") = some (.bool false)) ∧ (pEq (S "right") (S "right") = some (.bool true)) ∧ (pEq (S "row") (S "right") = some (.bool false)) := by
  refine ⟨?_, ?_, ?_, ?_, ?_, ?_, ?_, ?_, ?_⟩ <;> rw [pEq_str] <;> first | rw [decide_eq_true rfl] | rw [decide_eq_false (by decide)]
theorem demand_ok {m : Nat} {x : Dem} (h : x.ok m) {F : D} {f : Nat → Z.Tok} (hf : ∀ i, i < m → pIdx F (.int (i : Int)) = some (f i).d) : m_demand_holds x.d F = some (.bool (x.holds f)) := by
  obtain ⟨d1, d2, d3, d4, d5, d6, d7, d8, d9⟩ := demtag
  unfold m_demand_holds m_demand_holds_b
  have ei : ∀ i j : Nat, decide ((i : Int) = (j : Int)) = decide (i = j) := fun i j => by rw [Bool.eq_iff_iff, decide_eq_true_eq, decide_eq_true_eq]; omega
  have el : ∀ i j : Nat, decide ((i : Int) < (j : Int)) = decide (i < j) := fun i j => by rw [Bool.eq_iff_iff, decide_eq_true_eq, decide_eq_true_eq]; omega
  cases x with
  | glued p => simp -implicitDefEqProofs only [Dem.d, t20, t21, Option.bind_some, hf p h, d1, dBool_bool, if_true, tk4]; rfl
  | same p q => simp -implicitDefEqProofs only [Dem.d, t30, t31, t32, Option.bind_some, hf p h.1, hf q h.2.1, d2, d5, dBool_bool, Bool.false_eq_true, if_false, if_true, tk3, pEq_int, ei]; rfl
  | right p q => simp -implicitDefEqProofs only [Dem.d, t30, t31, t32, Option.bind_some, hf p h.1, hf q h.2.1, d3, d6, d8, dBool_bool, Bool.false_eq_true, if_false, if_true, tk3, pGt_int, el]; rfl
  | row p q => simp -implicitDefEqProofs only [Dem.d, t30, t31, t32, Option.bind_some, hf p h.1, hf q h.2.1, d4, d7, d9, dBool_bool, Bool.false_eq_true, if_false, if_true, tk2, pEq_int, ei]; rfl
theorem forC_const {S L R : Type} {F : D → S → Option (Ctl S S R)} {s : S} (h : ∀ x, F x s = some (.nx s)) : ∀ xs, (forC F xs s : Option (Ctl S L R)) = some (.nx s)
  | [] => rfl
  | x :: xs => by rw [forC, h x]; exact forC_const h xs
theorem lawfirst_int (i : Int) : m__law_first (.int i) = some (.int i) := by
  unfold m__law_first m__law_first_b
  rw [show (PyData.int 90) = .int ((90 : Nat) : Int) from rfl, pRg_nat (by decide)]
  simp -implicitDefEqProofs only [Option.bind_some]
  rw [forC_const (fun x => rfl)]
  rfl
theorem lawdemand_ok {m : Nat} {x : Dem} (h : x.ok m) {C : D} {ix : Nat → Nat} {fs : List Fd} (hc : ∀ i, i < m → ∃ y, pIdx C (.int (i : Int)) = some y ∧ m__law_first y = some (niD (ix i)) ∧ ix i < fs.length) {f : Nat → Z.Tok} (hf : ∀ i, i < m → f i = (fs.getD (ix i) (tok0, .leaf false)).1) : m__law_demand (dFold fs) x.d C = some (.bool (x.holds f)) := by
  obtain ⟨d1, d2, d3, d4, d5, d6, d7, d8, d9⟩ := demtag
  unfold m__law_demand m__law_demand_b
  have ei : ∀ i j : Nat, decide ((i : Int) = (j : Int)) = decide (i = j) := fun i j => by rw [Bool.eq_iff_iff, decide_eq_true_eq, decide_eq_true_eq]; omega
  have el : ∀ i j : Nat, decide ((i : Int) < (j : Int)) = decide (i < j) := fun i j => by rw [Bool.eq_iff_iff, decide_eq_true_eq, decide_eq_true_eq]; omega
  have one : ∀ i, i < m → ((((pIdx C (.int (i : Int))).bind fun x2 => m__law_first x2).bind fun y3 => pIdx (dFold fs) y3).bind fun x4 => pIdx x4 (.int 0)) = some (f i).d := fun i hi => by
    obtain ⟨y, h1, h2, h3⟩ := hc i hi
    obtain ⟨a, ha, hx, _⟩ := pick (xs := fs) (enc := Fd.d) h3
    have e0 : pIdx (Fd.d a) (.int 0) = some a.1.d := rfl
    rw [h1, Option.bind_some, h2, Option.bind_some]
    rw [show pIdx (dFold fs) (niD (ix i)) = some (Fd.d a) from hx, Option.bind_some, e0, hf i hi, getD_of ha]
  cases x with
  | glued p => simp -implicitDefEqProofs only [Dem.d, t20, t21, Option.bind_some, one p h, d1, dBool_bool, if_true, tk4]; rfl
  | same p q => simp -implicitDefEqProofs only [Dem.d, t30, t31, t32, Option.bind_some, one p h.1, one q h.2.1, d2, d5, dBool_bool, Bool.false_eq_true, if_false, if_true, tk3, pEq_int, ei]; rfl
  | right p q => simp -implicitDefEqProofs only [Dem.d, t30, t31, t32, Option.bind_some, one p h.1, one q h.2.1, d3, d6, d8, dBool_bool, Bool.false_eq_true, if_false, if_true, tk3, pGt_int, el]; rfl
  | row p q => simp -implicitDefEqProofs only [Dem.d, t30, t31, t32, Option.bind_some, one p h.1, one q h.2.1, d4, d7, d9, dBool_bool, Bool.false_eq_true, if_false, if_true, tk2, pEq_int, ei]; rfl
/-! ## bars -/
theorem kd_eq (a b : Nat × Nat × Nat) : pEq (kd a) (kd b) = some (.bool (decide (a = b))) := by
  have z := pEq_enc (a := K3.mk a) (b := K3.mk b) (by show (kd _).depth ≤ 100; exact kd_depth _)
  refine Eq.trans z ?_
  refine congrArg (fun q => some (PyData.bool q)) ?_
  rw [Bool.eq_iff_iff, decide_eq_true_eq, decide_eq_true_eq, K3.mk.injEq]
theorem barred_ok (g : Gram) (r p b : Nat) : m_barred g.d (.int (r : Int)) (.int (p : Int)) (.int (b : Int)) = some (barOf g.bs (r, p, b)).d := by
  have g2 : pIdx g.d (.int 2) = some (.tuple (g.bs.map Bar.d)) := rfl
  unfold m_barred m_barred_b
  simp -implicitDefEqProofs only [g2, Option.bind_some, pIter_t]
  unfold barOf
  generalize g.bs = bs
  induction bs with
  | nil => rfl
  | cons x bs ih =>
    have e3 : pIdx x.d (.int 3) = some x.dg.d := rfl
    have ek : pEq (kd x.key) (.tuple [.int (r : Int), .int (p : Int), .int (b : Int)]) = some (.bool (decide (x.key = (r, p, b)))) := kd_eq x.key (r, p, b)
    rw [List.map_cons, forC, List.find?_cons]
    simp -implicitDefEqProofs only [pOpt_int, Option.bind_some, bar_cut, ek, dBool_bool, e3]
    cases decide (x.key = (r, p, b)) with
    | true => rfl
    | false => exact ih
theorem dg_ne (x : Dg) (h : x.ht ≤ 90) : pNe x.d x.d = some (.bool false) := by
  rw [pNe, if_pos (Dg.dok h), Dg.eqv, decide_eq_true rfl]; rfl
end P
namespace P
open PySem PySem.Spec L2 Z
/-! ## the law -/
theorem forC_same {S L R A : Type} {F : D → S → Option (Ctl S S R)} {s : S} {enc : A → D} : ∀ xs : List A, (∀ x ∈ xs, F (enc x) s = some (.nx s)) → (forC F (xs.map enc) s : Option (Ctl S L R)) = some (.nx s)
  | [], _ => rfl
  | x :: xs, h => by rw [List.map_cons, forC, h x List.mem_cons_self]; exact forC_same xs fun y hy => h y (List.mem_cons_of_mem _ hy)
theorem ints_ne (xs : List Nat) : pNe (.list (xs.map niD)) (.list (xs.map niD)) = some (.bool false) := by
  refine pNe_refl ?_ ?_
  · have := depthAll_enc (A := Nat) (n := 1) xs fun a _ => by show (PyData.int _).depth ≤ 1; simp [PyData.depth]
    have h : PyData.depthAll (xs.map niD) ≤ 1 := this
    simp only [PyData.depth]
    omega
  · show PyData.plainAll (xs.map niD) = true
    induction xs with
    | nil => rfl
    | cons x xs ih => exact ih
theorem law_math : ∀ ns : List Int, ns.length ≤ 63 → (∀ z ∈ ns, Builtin.Int.intBits z ≤ 1048576) → m_law ns = some (.bool true) := by
  intro ns _ hb
  obtain ⟨n, ss, g, f, t1, e1, G, Fo, _, h1⟩ := world_ok (tape_to hb) (most := 9) (by decide) (by decide)
  obtain ⟨n1, n5⟩ := G.nn
  obtain ⟨r1, r12⟩ := G.rl
  have e2 := isgram_ok G
  obtain ⟨v, t2, e3, e4, h2⟩ := bad_ok h1 G
  have g1 : pIdx g.d (.int 1) = some (.tuple (g.rs.map Rule.d)) := rfl
  have g2 : pIdx g.d (.int 2) = some (.tuple (g.bs.map Bar.d)) := rfl
  have hrg : pRg1 (.int (g.rs.length : Int)) = some ((List.range g.rs.length).map niD) := pRg_nat (by omega)
  have rd1 : ∀ r : Rule, pIdx r.d (.int 1) = some (.tuple (r.ps.map Part.d)) := fun _ => rfl
  have rd3 : ∀ r : Rule, pIdx r.d (.int 3) = some (.tuple (r.ds.map Dem.d)) := fun _ => rfl
  unfold m_law m_law_b
  rw [show (PyData.int 9) = .int ((9 : Nat) : Int) from rfl]
  simp -implicitDefEqProofs only [e1, Option.bind_some, un3, c_MAX_PARTS, c_MAX_RULES, pNe_int, dBool_bool, e2, pIsNot_b, e3, e4, Option.map_some, g1, pIter_t]
  have c1 : (!decide ((3 : Int) = 3)) = false := rfl
  have c2 : (!decide ((12 : Int) = 12)) = false := rfl
  have c3 : (!(true == true)) = false := rfl
  have c4 : (!(false == false)) = false := rfl
  simp -implicitDefEqProofs only [c1, c2, c3, c4, Bool.false_eq_true, if_false, Option.bind_some]
  -- the symbols
  have q1 : lcM (fun x30 => pIdx x30 (.int 0)) (g.rs.map Rule.d) = some ((g.rs.map Rule.l).map .str) := by
    rw [List.map_map]; exact lcM_map fun r _ => rfl
  have q2 : pAdd (.list ((g.rs.map Rule.l).map .str)) (.list [S "Nowher"]) = some (.list ((g.rs.map Rule.l ++ [Nowh]).map .str)) := by
    rw [pAdd_ll (by simp; omega)]; simp [Nowh]
  simp -implicitDefEqProofs only [q1, Option.map_some, Option.bind_some, q2, pIter_l, pLen_t, List.length_map]
  rw [forC_same _ (fun s _ => by
    have h : lcI (fun x20 => ((pIdx (.tuple (g.rs.map Rule.d)) x20).bind fun x21 => pIdx x21 (.int 0)).bind fun x22 => (pEq x22 (.str s)).bind dBool) (fun x20 => some x20) ((List.range g.rs.length).map niD) = some ((rulesOf g.rs s).map niD) := by
      refine lcI_map (p := fun k => decide ((g.rs[k]?).map Rule.l = some s)) (fun i hi => ?_) (fun i _ => rfl)
      have hi : i < g.rs.length := by simpa using hi
      obtain ⟨r, gr, xr, _⟩ := pickT (xs := g.rs) (enc := Rule.d) hi
      have e0 : pIdx r.d (.int 0) = some (.str r.l) := rfl
      rw [show niD i = .int (i : Int) from rfl, xr, gr]
      simp -implicitDefEqProofs only [Option.bind_some, e0, pEq_str, dBool_bool, Option.map_some, Option.some.injEq]
    rw [rulesof_ok, hrg]
    simp -implicitDefEqProofs only [Option.bind_some, h, Option.map_some, ints_ne, dBool_bool, Bool.false_eq_true, if_false])]
  simp -implicitDefEqProofs only [Ctl.seq_nx]
  -- parts and demands
  rw [forC_same (enc := Rule.d) _ (fun r hr => by
    have hro := G.rs r hr
    have hl3 := hro.len
    simp -implicitDefEqProofs only [rd1, rd3, Option.bind_some, pIter_t]
    rw [forC_same (enc := Part.d) _ (fun p hp => by
      rw [show pIter (dFold f) = some (f.map Fd.d) from rfl]
      simp -implicitDefEqProofs only [Option.bind_some]
      rw [forC_same (enc := Fd.d) _ (fun x hx => by
        have u : pUn2 (Fd.d x) = some (x.1.d, x.2.d) := rfl
        obtain ⟨m1, m2⟩ := match_ok p x.1
        have pn := part_ne p
        simp -implicitDefEqProofs only [u, Option.bind_some, m1, m2, lawis_ok, pTru_bool, Option.map_some]
        have pn' : ((pIdx p.d (.int 0)).bind fun x39 => (pNe x39 (S "symbol")).bind dBool) = some (!p.isSym) := by
          obtain ⟨s, h1, h2⟩ := part_issym p
          rw [h1]
          simp -implicitDefEqProofs only [Option.bind_some, S, pNe_str, h2, dBool_bool]
        rw [pn']
        cases p.isSym <;> rfl)]
      rfl)]
    simp -implicitDefEqProofs only [Ctl.seq_nx, pLen_t, List.length_map, Option.bind_some]
    rw [show pLen (dFold f) = some (.int (f.length : Int)) from by unfold dFold; rw [pLen_l, List.length_map]]
    simp -implicitDefEqProofs only [Option.bind_some, pGe_int, dBool_bool]
    by_cases q : (f.length : Int) < (r.ps.length : Int)
    · rw [decide_eq_true q]; rfl
    · rw [decide_eq_false q]
      have er : pLRg1 (.int (r.ps.length : Int)) = some (.list ((List.range r.ps.length).map niD)) := by
        have : r.ps.length = 1 ∨ r.ps.length = 2 ∨ r.ps.length = 3 := by omega
        rcases this with h | h | h <;> rw [h] <;> rfl
      simp -implicitDefEqProofs only [Bool.not_false, if_true, er, Option.bind_some, pIter_l]
      have hcut : lcM (fun x59 => (pIdx (dFold f) x59).bind fun x60 => pIdx x60 (.int 0)) ((List.range r.ps.length).map niD) = some ((List.range r.ps.length).map fun i => (f.getD i (tok0, .leaf false)).1.d) := lcM_map fun i hi => by
        have hi : i < r.ps.length := by simpa using hi
        obtain ⟨a, ga, xa, _⟩ := pick (xs := f) (enc := Fd.d) (show i < f.length by omega)
        rw [show pIdx (dFold f) (niD i) = some (Fd.d a) from xa, Option.bind_some, getD_of ga]
        rfl
      rw [forC_same (enc := Dem.d) _ (fun x hx => by
        have d1 := demand_ok (hro.ds x hx) (F := .list ((List.range r.ps.length).map fun i => (f.getD i (tok0, .leaf false)).1.d)) (f := fun i => (f.getD i (tok0, .leaf false)).1) (fun i hi => pIdx_ln (by simp [hi]))
        have d2 := lawdemand_ok (hro.ds x hx) (C := .list ((List.range r.ps.length).map niD)) (ix := id) (fs := f) (f := fun i => (f.getD i (tok0, .leaf false)).1) (fun i hi => ⟨niD i, pIdx_ln (by simp [hi]), lawfirst_int i, by show i < f.length; omega⟩) (fun i hi => rfl)
        simp -implicitDefEqProofs only [hcut, Option.map_some, Option.bind_some, d1, d2, lawis_ok, pTru_bool, Bool.not_true, Bool.false_eq_true, if_false])]
      rfl)]
  simp -implicitDefEqProofs only [Ctl.seq_nx, hrg, Option.bind_some]
  -- bars
  rw [forC_same (enc := niD) _ (fun a ha => by
    have ha : a < g.rs.length := by simpa using ha
    obtain ⟨r, gr, xr, mr⟩ := pickT (xs := g.rs) (enc := Rule.d) ha
    have hro := (G.rs r mr).len
    rw [show pIdx (.tuple (g.rs.map Rule.d)) (niD a) = some r.d from xr]
    simp -implicitDefEqProofs only [Option.bind_some, rd1, pLen_t, List.length_map]
    rw [show pRg1 (.int (r.ps.length : Int)) = some ((List.range r.ps.length).map niD) from pRg_nat (by omega)]
    simp -implicitDefEqProofs only [Option.bind_some]
    rw [forC_same (enc := niD) _ (fun p hp => by
      rw [forC_same (enc := niD) _ (fun b hb => by
        have h : lcI (fun x79 => ((pOpt (.int 3)).bind fun h81 => pSl x79 none h81).bind fun x82 => (pEq x82 (.tuple [niD a, niD p, niD b])).bind dBool) (fun x79 => pIdx x79 (.int 3)) (g.bs.map Bar.d) = some ((g.bs.filter fun c => decide (c.key = (a, p, b))).map fun c => c.dg.d) := by
          refine lcI_map (fun c _ => ?_) (fun c _ => rfl)
          rw [pOpt_int, Option.bind_some, bar_cut, Option.bind_some]
          rw [show pEq (kd c.key) (.tuple [niD a, niD p, niD b]) = some (.bool (decide (c.key = (a, p, b)))) from kd_eq c.key (a, p, b)]
          rfl
        have hb2 := barred_ok g a p b
        have ht : (barOf g.bs (a, p, b)).ht ≤ 90 := by
          unfold barOf
          cases hf : g.bs.find? fun c => decide (c.key = (a, p, b)) with
          | none => simp [Dg.ht]
          | some c =>
            have hw := (G.bs c (List.mem_of_find?_eq_some hf)).dg.1
            have := Dg.wf_ht hw (by omega)
            show c.dg.ht ≤ 90
            omega
        have hdue : ((pGt (.int (((g.bs.filter fun c => decide (c.key = (a, p, b))).map fun c => c.dg.d).length : Int)) (.int 0)).bind dBool).bind (fun k85 => if k85 = true then pIdx (.list ((g.bs.filter fun c => decide (c.key = (a, p, b))).map fun c => c.dg.d)) (.int 0) else some (.bool false)) = some (barOf g.bs (a, p, b)).d := by
          unfold barOf
          rw [← List.head?_filter]
          generalize g.bs.filter (fun c => decide (c.key = (a, p, b))) = l
          cases l with
          | nil => rfl
          | cons c l =>
            rw [pGt_int, decide_eq_true (by simp)]
            simp -implicitDefEqProofs only [Option.bind_some, dBool_bool, if_true, List.map_cons, l_hd]
            rfl
        simp -implicitDefEqProofs only [g2, Option.bind_some, pIter_t, h, Option.map_some]
        rw [show m_barred g.d (niD a) (niD p) (niD b) = some (barOf g.bs (a, p, b)).d from hb2]
        simp -implicitDefEqProofs only [Option.bind_some, pLen_l]
        rw [hdue]
        simp -implicitDefEqProofs only [Option.bind_some, dg_ne _ ht, dBool_bool, Bool.false_eq_true, if_false])]
      rfl)]
    rfl)]
  rfl
end P
namespace P
open PySem PySem.Spec L2 Z
theorem law_ok {E : ME} {f : Addr} {fd : FuncData} (F : Fun E.K "law" "law" s_law f fd) (hd__law_tape : DefAt E "_law_tape" "_law_tape" s__law_tape ["_law_script", "_law_budget"]) (hd__law_mix : DefAt E "_law_mix" "_law_mix" s__law_mix ["_law_number"]) (hd__law_take : DefAt E "_law_take" "_law_take" s__law_take ["_law_tape_here", "_law_many_here"]) (hd__law_symbols : DefAt E "_law_symbols" "_law_symbols" s__law_symbols ["_law_tape_here", "_law_many_here"]) (hd__law_turned : DefAt E "_law_turned" "_law_turned" s__law_turned ["_law_tape_here", "_law_rules"]) (hd__law_right : DefAt E "_law_right" "_law_right" s__law_right ["_law_tape_here", "_law_symbols_here", "_law_at"]) (hd__law_switch_diagram : DefAt E "_law_switch_diagram" "_law_switch_diagram" s__law_switch_diagram ["_law_tape_here", "_law_count"]) (hd__law_diagram : DefAt E "_law_diagram" "_law_diagram" s__law_diagram ["_law_tape_here", "_law_count"]) (hd__law_demands : DefAt E "_law_demands" "_law_demands" s__law_demands ["_law_tape_here", "_law_many_here"]) (hd__law_bars : DefAt E "_law_bars" "_law_bars" s__law_bars ["_law_tape_here", "_law_rules", "_law_count"]) (hd__law_base : DefAt E "_law_base" "_law_base" s__law_base ["_law_tape_here"]) (hd__law_grammar : DefAt E "_law_grammar" "_law_grammar" s__law_grammar ["_law_tape_here", "_law_count"]) (hd__law_word : DefAt E "_law_word" "_law_word" s__law_word ["_law_tape_here", "_law_part"]) (hd__law_sentence : DefAt E "_law_sentence" "_law_sentence" s__law_sentence ["_law_tape_here", "_law_grammar_here", "_law_symbol", "_law_deep"]) (hd__law_folded : DefAt E "_law_folded" "_law_folded" s__law_folded ["_law_tape_here", "_law_grammar_here", "_law_count", "_law_most"]) (hd__law_world : DefAt E "_law_world" "_law_world" s__law_world ["_law_tape_here", "_law_most"]) (hd_is_index : DefAt E "is_index" "is_index" s_is_index ["value", "count"]) (hd_same : DefAt E "same" "same" s_same ["d", "e"]) (hd_is_below : DefAt E "is_below" "is_below" s_is_below ["value", "first", "count"]) (hd_is_diagram : DefAt E "is_diagram" "is_diagram" s_is_diagram ["value", "count"]) (hd_is_condition : DefAt E "is_condition" "is_condition" s_is_condition ["value", "count"]) (hd_is_bar : DefAt E "is_bar" "is_bar" s_is_bar ["value", "rules", "count"]) (hd_are_bars : DefAt E "are_bars" "are_bars" s_are_bars ["value", "rules", "count"]) (hd_is_symbol : DefAt E "is_symbol" "is_symbol" s_is_symbol ["value"]) (hd_knows : DefAt E "knows" "knows" s_knows ["rules", "symbol"]) (hd_unknown_in : DefAt E "unknown_in" "unknown_in" s_unknown_in ["rules", "rule"]) (hd_unit_pairs : DefAt E "unit_pairs" "unit_pairs" s_unit_pairs ["rules"]) (hd_symbol_order : DefAt E "symbol_order" "symbol_order" s_symbol_order ["rules"]) (hd_lefts : DefAt E "lefts" "lefts" s_lefts ["rules"]) (hd_is_demand : DefAt E "is_demand" "is_demand" s_is_demand ["value", "many"]) (hd_are_demands : DefAt E "are_demands" "are_demands" s_are_demands ["value", "many"]) (hd_is_text : DefAt E "is_text" "is_text" s_is_text ["value"]) (hd_is_part : DefAt E "is_part" "is_part" s_is_part ["value"]) (hd_is_rule : DefAt E "is_rule" "is_rule" s_is_rule ["value", "count"]) (hd_is_grammar : DefAt E "is_grammar" "is_grammar" s_is_grammar ["value", "count"]) (hd__law_bad_rule : DefAt E "_law_bad_rule" "_law_bad_rule" s__law_bad_rule ["_law_tape_here", "_law_rule", "_law_count"]) (hd__law_bad : DefAt E "_law_bad" "_law_bad" s__law_bad ["_law_tape_here", "_law_grammar_here", "_law_count"]) (hd_rules_of : DefAt E "rules_of" "rules_of" s_rules_of ["grammar", "symbol"]) (hd_demand_holds : DefAt E "demand_holds" "demand_holds" s_demand_holds ["demand", "firsts"]) (hd__law_is : DefAt E "_law_is" "_law_is" s__law_is ["_law_told", "_law_due"]) (hd_barred : DefAt E "barred" "barred" s_barred ["grammar", "rule", "place", "below"]) (hd__law_first : DefAt E "_law_first" "_law_first" s__law_first ["_law_tree"]) (hd__law_demand : DefAt E "_law_demand" "_law_demand" s__law_demand ["_law_folded_here", "_law_demand_here", "_law_children"]) (hd_matches : DefAt E "matches" "matches" s_matches ["part", "token"]) (hd__law_matches : DefAt E "_law_matches" "_law_matches" s__law_matches ["_law_part", "_law_token"]) (z_all : Free E "all") (z_any : Free E "any") (z_bool : Free E "bool") (z_enumerate : Free E "enumerate") (z_int : Free E "int") (z_isinstance : Free E "isinstance") (z_len : Free E "len") (z_list : Free E "list") (z_max : Free E "max") (z_min : Free E "min") (z_range : Free E "range") (z_sorted : Free E "sorted") (z_str : Free E "str") (z_tuple : Free E "tuple") (k_CAPITAL : GConst E "CAPITAL" c_CAPITAL) (k_FIGURES : GConst E "FIGURES" c_FIGURES) (k_MARKS : GConst E "MARKS" c_MARKS) (k_MAX_BARS : GConst E "MAX_BARS" c_MAX_BARS) (k_MAX_DEMANDS : GConst E "MAX_DEMANDS" c_MAX_DEMANDS) (k_MAX_PARTS : GConst E "MAX_PARTS" c_MAX_PARTS) (k_MAX_RULES : GConst E "MAX_RULES" c_MAX_RULES) (k_SMALL : GConst E "SMALL" c_SMALL) : FnOk E.prog E.w E.K E.mg E.base CX0 19 f fd ["_law_script"] (spLaw E.K) := by
  have h__law_mix : FnM E 1 "_law_mix" (CP (g1 m__law_mix)) := f__law_mix (kk := 0) hd__law_mix z_int
  have h__law_take : FnM E 2 "_law_take" (CO1 .l (fun t => g1 (m__law_take t))) := f__law_take (kk := 1) hd__law_take z_int z_len h__law_mix
  have h__law_symbols : FnM E 3 "_law_symbols" (CO1 .l (fun t => g1 (m__law_symbols t))) := f__law_symbols (kk := 2) hd__law_symbols z_range h__law_take
  have h__law_turned : FnM E 3 "_law_turned" (CO1 .l (fun t => g1 (m__law_turned t))) := f__law_turned (kk := 2) hd__law_turned z_len z_list z_range h__law_take
  have h__law_right : FnM E 3 "_law_right" (CO1 .l (fun t => g2 (m__law_right t))) := f__law_right (kk := 2) hd__law_right z_len h__law_take
  have h__law_switch_diagram : FnM E 3 "_law_switch_diagram" (CO1 .l (fun t => g1 (m__law_switch_diagram t))) := f__law_switch_diagram (kk := 2) hd__law_switch_diagram h__law_take
  have h__law_diagram : FnM E 4 "_law_diagram" (CO1 .l (fun t => g1 (m__law_diagram t))) := f__law_diagram (kk := 3) hd__law_diagram h__law_switch_diagram (h__law_take.mono (by decide))
  have h__law_demands : FnM E 3 "_law_demands" (CO1 .l (fun t => g1 (m__law_demands t))) := f__law_demands (kk := 2) hd__law_demands z_int z_len z_max z_range z_tuple h__law_take
  have h__law_bars : FnM E 5 "_law_bars" (CO1 .l (fun t => g2 (m__law_bars t))) := f__law_bars (kk := 4) hd__law_bars z_len z_range z_sorted z_tuple h__law_diagram (h__law_take.mono (by decide))
  have h__law_base : FnM E 3 "_law_base" (CO1 .l (fun t => g0 (m__law_base t))) := f__law_base (kk := 2) hd__law_base h__law_take
  have h__law_grammar : FnM E 6 "_law_grammar" (CO1 .l (fun t => g1 (m__law_grammar t))) := f__law_grammar (kk := 5) hd__law_grammar z_len z_range z_tuple h__law_bars (h__law_base.mono (by decide)) (h__law_demands.mono (by decide)) (h__law_diagram.mono (by decide)) (h__law_right.mono (by decide)) (h__law_symbols.mono (by decide)) (h__law_take.mono (by decide)) (h__law_turned.mono (by decide))
  have h__law_word : FnM E 3 "_law_word" (CO1 .l (fun t => g1 (m__law_word t))) := f__law_word (kk := 2) hd__law_word h__law_take
  have g__law_sentence := r__law_sentence (E := E) (kk := 3) hd__law_sentence z_all z_len (h__law_take.mono (by decide)) h__law_word 8
  have h__law_sentence : FnM E 11 "_law_sentence" (CO1 .l (fun t => g3 (m__law_sentence 8 t))) := g__law_sentence
  have h__law_folded : FnM E 12 "_law_folded" (CO1 .l (fun t => g3 (m__law_folded t))) := f__law_folded (kk := 11) hd__law_folded z_len (h__law_diagram.mono (by decide)) h__law_sentence (h__law_switch_diagram.mono (by decide)) (h__law_take.mono (by decide))
  have h__law_world : FnM E 13 "_law_world" (CO1 .l (fun t => g1 (m__law_world t))) := f__law_world (kk := 12) hd__law_world z_min h__law_folded (h__law_grammar.mono (by decide)) (h__law_take.mono (by decide))
  have h_is_index : FnM E 1 "is_index" (CP (g2 m_is_index)) := f_is_index (kk := 0) hd_is_index z_bool z_int z_isinstance
  have h_same : FnM E 1 "same" (CP (g2 m_same)) := f_same (kk := 0) hd_same z_isinstance z_tuple
  have g_is_below := r_is_below (E := E) (kk := 1) hd_is_below z_bool z_int z_isinstance z_len z_tuple h_same 12
  have h_is_below : FnM E 13 "is_below" (CP (g3 (m_is_below 12))) := g_is_below
  have h_is_diagram : FnM E 14 "is_diagram" (CP (g2 m_is_diagram)) := f_is_diagram (kk := 13) hd_is_diagram h_is_below
  have h_is_condition : FnM E 15 "is_condition" (CP (g2 m_is_condition)) := f_is_condition (kk := 14) hd_is_condition h_is_diagram
  have h_is_bar : FnM E 16 "is_bar" (CP (g3 m_is_bar)) := f_is_bar (kk := 15) hd_is_bar z_isinstance z_len z_tuple h_is_condition (h_is_index.mono (by decide))
  have h_are_bars : FnM E 17 "are_bars" (CP (g3 m_are_bars)) := f_are_bars (kk := 16) hd_are_bars z_all z_isinstance z_len z_range z_tuple k_MAX_BARS h_is_bar
  have h_is_symbol : FnM E 1 "is_symbol" (CP (g1 m_is_symbol)) := f_is_symbol (kk := 0) hd_is_symbol z_all z_isinstance z_len z_str k_CAPITAL k_SMALL
  have h_knows : FnM E 1 "knows" (CP (g2 m_knows)) := f_knows (kk := 0) hd_knows z_any
  have h_unknown_in : FnM E 2 "unknown_in" (CP (g2 m_unknown_in)) := f_unknown_in (kk := 1) hd_unknown_in z_any h_knows
  have h_unit_pairs : FnM E 1 "unit_pairs" (CP (g1 m_unit_pairs)) := f_unit_pairs (kk := 0) hd_unit_pairs z_len
  have h_symbol_order : FnM E 2 "symbol_order" (CP (g1 m_symbol_order)) := f_symbol_order (kk := 1) hd_symbol_order z_any z_len z_range h_unit_pairs
  have h_lefts : FnM E 1 "lefts" (CP (g1 m_lefts)) := f_lefts (kk := 0) hd_lefts
  have h_is_demand : FnM E 2 "is_demand" (CP (g2 m_is_demand)) := f_is_demand (kk := 1) hd_is_demand z_all z_isinstance z_len z_tuple h_is_index
  have h_are_demands : FnM E 3 "are_demands" (CP (g2 m_are_demands)) := f_are_demands (kk := 2) hd_are_demands z_all z_isinstance z_len z_range z_tuple k_MAX_DEMANDS h_is_demand
  have h_is_text : FnM E 1 "is_text" (CP (g1 m_is_text)) := f_is_text (kk := 0) hd_is_text z_all z_isinstance z_len z_str k_CAPITAL k_FIGURES k_MARKS k_SMALL
  have h_is_part : FnM E 2 "is_part" (CP (g1 m_is_part)) := f_is_part (kk := 1) hd_is_part z_isinstance z_len z_tuple h_is_symbol h_is_text
  have h_is_rule : FnM E 16 "is_rule" (CP (g2 m_is_rule)) := f_is_rule (kk := 15) hd_is_rule z_all z_isinstance z_len z_tuple k_MAX_PARTS (h_are_demands.mono (by decide)) h_is_condition (h_is_part.mono (by decide)) (h_is_symbol.mono (by decide))
  have h_is_grammar : FnM E 18 "is_grammar" (CP (g2 m_is_grammar)) := f_is_grammar (kk := 17) hd_is_grammar z_all z_any z_isinstance z_len z_tuple k_MAX_RULES h_are_bars (h_is_rule.mono (by decide)) (h_is_symbol.mono (by decide)) (h_knows.mono (by decide)) (h_lefts.mono (by decide)) (h_symbol_order.mono (by decide)) (h_unknown_in.mono (by decide))
  have h__law_bad_rule : FnM E 3 "_law_bad_rule" (CO1 .l (fun t => g2 (m__law_bad_rule t))) := f__law_bad_rule (kk := 2) hd__law_bad_rule z_len h__law_take
  have h__law_bad : FnM E 4 "_law_bad" (CO1 .l (fun t => g2 (m__law_bad t))) := f__law_bad (kk := 3) hd__law_bad z_len z_tuple h__law_bad_rule (h__law_take.mono (by decide))
  have h_rules_of : FnM E 1 "rules_of" (CP (g2 m_rules_of)) := f_rules_of (kk := 0) hd_rules_of z_enumerate
  have h_demand_holds : FnM E 1 "demand_holds" (CP (g2 m_demand_holds)) := f_demand_holds (kk := 0) hd_demand_holds
  have h__law_is : FnM E 1 "_law_is" (CP (g2 m__law_is)) := f__law_is (kk := 0) hd__law_is z_bool z_isinstance
  have h_barred : FnM E 1 "barred" (CP (g4 m_barred)) := f_barred (kk := 0) hd_barred
  have h__law_first : FnM E 1 "_law_first" (CP (g1 m__law_first)) := f__law_first (kk := 0) hd__law_first z_isinstance z_range z_tuple
  have h__law_demand : FnM E 2 "_law_demand" (CP (g3 m__law_demand)) := f__law_demand (kk := 1) hd__law_demand h__law_first
  have h_matches : FnM E 1 "matches" (CP (g2 m_matches)) := f_matches (kk := 0) hd_matches
  have h__law_matches : FnM E 1 "_law_matches" (CP (g2 m__law_matches)) := f__law_matches (kk := 0) hd__law_matches
  exact law_end (f_law (kk := 18) F z_len z_list z_range k_MAX_PARTS k_MAX_RULES (h__law_bad.mono (by decide)) (h__law_demand.mono (by decide)) (h__law_is.mono (by decide)) (h__law_matches.mono (by decide)) (h__law_world.mono (by decide)) (h_barred.mono (by decide)) (h_demand_holds.mono (by decide)) h_is_grammar (h_matches.mono (by decide)) (h_rules_of.mono (by decide)) (f__law_tape (kk := 17) hd__law_tape z_list)) law_math

set_option maxHeartbeats 0 in
theorem all_mk {l : PySem.W.OpenLaw} {w : World} {K : PySem.W.Frag} {h : Heap} {mg : Str → Option Value} (X : K.In h) (G : h.Ns mainGlobals mg) {fl f9 : Addr} {odl anl : Option Addr} {sll : Array (Option Value)} {ocl kVl dcl pml cdl ctl : Value} (hfl : mg "law" = some (.ref fl))
    (d0 : DF K "_law_tape" "_law_tape" s__law_tape)
    (d1 : DF K "_law_mix" "_law_mix" s__law_mix)
    (d2 : DF K "_law_take" "_law_take" s__law_take)
    (d3 : DF K "_law_symbols" "_law_symbols" s__law_symbols)
    (d4 : DF K "_law_turned" "_law_turned" s__law_turned)
    (d5 : DF K "_law_right" "_law_right" s__law_right)
    (d6 : DF K "_law_switch_diagram" "_law_switch_diagram" s__law_switch_diagram)
    (d7 : DF K "_law_diagram" "_law_diagram" s__law_diagram)
    (d8 : DF K "_law_demands" "_law_demands" s__law_demands)
    (d9 : DF K "_law_bars" "_law_bars" s__law_bars)
    (d10 : DF K "_law_base" "_law_base" s__law_base)
    (d11 : DF K "_law_grammar" "_law_grammar" s__law_grammar)
    (d12 : DF K "_law_word" "_law_word" s__law_word)
    (d13 : DF K "_law_sentence" "_law_sentence" s__law_sentence)
    (d14 : DF K "_law_folded" "_law_folded" s__law_folded)
    (d15 : DF K "_law_world" "_law_world" s__law_world)
    (d16 : DF K "is_index" "is_index" s_is_index)
    (d17 : DF K "same" "same" s_same)
    (d18 : DF K "is_below" "is_below" s_is_below)
    (d19 : DF K "is_diagram" "is_diagram" s_is_diagram)
    (d20 : DF K "is_condition" "is_condition" s_is_condition)
    (d21 : DF K "is_bar" "is_bar" s_is_bar)
    (d22 : DF K "are_bars" "are_bars" s_are_bars)
    (d23 : DF K "is_symbol" "is_symbol" s_is_symbol)
    (d24 : DF K "knows" "knows" s_knows)
    (d25 : DF K "unknown_in" "unknown_in" s_unknown_in)
    (d26 : DF K "unit_pairs" "unit_pairs" s_unit_pairs)
    (d27 : DF K "symbol_order" "symbol_order" s_symbol_order)
    (d28 : DF K "lefts" "lefts" s_lefts)
    (d29 : DF K "is_demand" "is_demand" s_is_demand)
    (d30 : DF K "are_demands" "are_demands" s_are_demands)
    (d31 : DF K "is_text" "is_text" s_is_text)
    (d32 : DF K "is_part" "is_part" s_is_part)
    (d33 : DF K "is_rule" "is_rule" s_is_rule)
    (d34 : DF K "is_grammar" "is_grammar" s_is_grammar)
    (d35 : DF K "_law_bad_rule" "_law_bad_rule" s__law_bad_rule)
    (d36 : DF K "_law_bad" "_law_bad" s__law_bad)
    (d37 : DF K "rules_of" "rules_of" s_rules_of)
    (d38 : DF K "demand_holds" "demand_holds" s_demand_holds)
    (d39 : DF K "_law_is" "_law_is" s__law_is)
    (d40 : DF K "barred" "barred" s_barred)
    (d41 : DF K "_law_first" "_law_first" s__law_first)
    (d42 : DF K "_law_demand" "_law_demand" s__law_demand)
    (d43 : DF K "matches" "matches" s_matches)
    (d44 : DF K "_law_matches" "_law_matches" s__law_matches)
    (al : PySem.W.nsIn K mainGlobals "law" = some (some (.ref f9))) (ll : K.lookup f9 = some ⟨ocl, odl, .func (PySem.W.fnOf "law" "law" (defArgs s_law) (defBody s_law) (defScope s_law) .none kVl dcl pml anl cdl ctl), sll⟩) (cl : PySem.W.codeIn K cdl "law" = true) (kl : PySem.W.keepIn K (.ref f9) = true)
    (z0 : PySem.W.nsIn K mainGlobals "all" = some none)
    (z1 : PySem.W.nsIn K mainGlobals "any" = some none)
    (z2 : PySem.W.nsIn K mainGlobals "bool" = some none)
    (z3 : PySem.W.nsIn K mainGlobals "enumerate" = some none)
    (z4 : PySem.W.nsIn K mainGlobals "int" = some none)
    (z5 : PySem.W.nsIn K mainGlobals "isinstance" = some none)
    (z6 : PySem.W.nsIn K mainGlobals "len" = some none)
    (z7 : PySem.W.nsIn K mainGlobals "list" = some none)
    (z8 : PySem.W.nsIn K mainGlobals "max" = some none)
    (z9 : PySem.W.nsIn K mainGlobals "min" = some none)
    (z10 : PySem.W.nsIn K mainGlobals "range" = some none)
    (z11 : PySem.W.nsIn K mainGlobals "sorted" = some none)
    (z12 : PySem.W.nsIn K mainGlobals "str" = some none)
    (z13 : PySem.W.nsIn K mainGlobals "tuple" = some none)
    (q0 : GS K "CAPITAL" "ABCDEFGHIJKLMNOPQRSTUVWXYZ")
    (q1 : GS K "FIGURES" "0123456789")
    (q2 : GS K "MARKS" "+-*/(){};,=<>!:.?&|")
    (q3 : GI K "MAX_BARS" (12))
    (q4 : GI K "MAX_DEMANDS" (4))
    (q5 : GI K "MAX_PARTS" (3))
    (q6 : GI K "MAX_RULES" (12))
    (q7 : GS K "SMALL" "abcdefghijklmnopqrstuvwxyz") :
    ∃ fd : FuncData, (∀ (s : Shared) (v : Value), BindsTo s fd ⟨[v], []⟩ [("_law_script", v)]) ∧ ∀ base : Heap, K.In base → base.Ns mainGlobals mg → FnOk l.prog w K mg base CX0 19 fl fd ["_law_script"] (spLaw K) := by
  have e := hfl.symm.trans (PySem.W.mg_of X G al)
  cases e
  have F := fun_mk (st := s_law) ll cl kl
  refine ⟨PySem.W.fnOf "law" "law" (defArgs s_law) (defBody s_law) (defScope s_law) .none kVl dcl pml anl cdl ctl, fun s v => .of_eq rfl, fun base _ _ => ?_⟩
  let E : ME := ⟨l.prog, w, K, mg, base⟩
  have hd__law_tape : DefAt E "_law_tape" "_law_tape" s__law_tape ["_law_script", "_law_budget"] := df_at (E := E) X G (fun _ _ _ _ _ _ us hl => match us, hl with | [_, _], _ => rfl) d0
  have hd__law_mix : DefAt E "_law_mix" "_law_mix" s__law_mix ["_law_number"] := df_at (E := E) X G (fun _ _ _ _ _ _ us hl => match us, hl with | [_], _ => rfl) d1
  have hd__law_take : DefAt E "_law_take" "_law_take" s__law_take ["_law_tape_here", "_law_many_here"] := df_at (E := E) X G (fun _ _ _ _ _ _ us hl => match us, hl with | [_, _], _ => rfl) d2
  have hd__law_symbols : DefAt E "_law_symbols" "_law_symbols" s__law_symbols ["_law_tape_here", "_law_many_here"] := df_at (E := E) X G (fun _ _ _ _ _ _ us hl => match us, hl with | [_, _], _ => rfl) d3
  have hd__law_turned : DefAt E "_law_turned" "_law_turned" s__law_turned ["_law_tape_here", "_law_rules"] := df_at (E := E) X G (fun _ _ _ _ _ _ us hl => match us, hl with | [_, _], _ => rfl) d4
  have hd__law_right : DefAt E "_law_right" "_law_right" s__law_right ["_law_tape_here", "_law_symbols_here", "_law_at"] := df_at (E := E) X G (fun _ _ _ _ _ _ us hl => match us, hl with | [_, _, _], _ => rfl) d5
  have hd__law_switch_diagram : DefAt E "_law_switch_diagram" "_law_switch_diagram" s__law_switch_diagram ["_law_tape_here", "_law_count"] := df_at (E := E) X G (fun _ _ _ _ _ _ us hl => match us, hl with | [_, _], _ => rfl) d6
  have hd__law_diagram : DefAt E "_law_diagram" "_law_diagram" s__law_diagram ["_law_tape_here", "_law_count"] := df_at (E := E) X G (fun _ _ _ _ _ _ us hl => match us, hl with | [_, _], _ => rfl) d7
  have hd__law_demands : DefAt E "_law_demands" "_law_demands" s__law_demands ["_law_tape_here", "_law_many_here"] := df_at (E := E) X G (fun _ _ _ _ _ _ us hl => match us, hl with | [_, _], _ => rfl) d8
  have hd__law_bars : DefAt E "_law_bars" "_law_bars" s__law_bars ["_law_tape_here", "_law_rules", "_law_count"] := df_at (E := E) X G (fun _ _ _ _ _ _ us hl => match us, hl with | [_, _, _], _ => rfl) d9
  have hd__law_base : DefAt E "_law_base" "_law_base" s__law_base ["_law_tape_here"] := df_at (E := E) X G (fun _ _ _ _ _ _ us hl => match us, hl with | [_], _ => rfl) d10
  have hd__law_grammar : DefAt E "_law_grammar" "_law_grammar" s__law_grammar ["_law_tape_here", "_law_count"] := df_at (E := E) X G (fun _ _ _ _ _ _ us hl => match us, hl with | [_, _], _ => rfl) d11
  have hd__law_word : DefAt E "_law_word" "_law_word" s__law_word ["_law_tape_here", "_law_part"] := df_at (E := E) X G (fun _ _ _ _ _ _ us hl => match us, hl with | [_, _], _ => rfl) d12
  have hd__law_sentence : DefAt E "_law_sentence" "_law_sentence" s__law_sentence ["_law_tape_here", "_law_grammar_here", "_law_symbol", "_law_deep"] := df_at (E := E) X G (fun _ _ _ _ _ _ us hl => match us, hl with | [_, _, _, _], _ => rfl) d13
  have hd__law_folded : DefAt E "_law_folded" "_law_folded" s__law_folded ["_law_tape_here", "_law_grammar_here", "_law_count", "_law_most"] := df_at (E := E) X G (fun _ _ _ _ _ _ us hl => match us, hl with | [_, _, _, _], _ => rfl) d14
  have hd__law_world : DefAt E "_law_world" "_law_world" s__law_world ["_law_tape_here", "_law_most"] := df_at (E := E) X G (fun _ _ _ _ _ _ us hl => match us, hl with | [_, _], _ => rfl) d15
  have hd_is_index : DefAt E "is_index" "is_index" s_is_index ["value", "count"] := df_at (E := E) X G (fun _ _ _ _ _ _ us hl => match us, hl with | [_, _], _ => rfl) d16
  have hd_same : DefAt E "same" "same" s_same ["d", "e"] := df_at (E := E) X G (fun _ _ _ _ _ _ us hl => match us, hl with | [_, _], _ => rfl) d17
  have hd_is_below : DefAt E "is_below" "is_below" s_is_below ["value", "first", "count"] := df_at (E := E) X G (fun _ _ _ _ _ _ us hl => match us, hl with | [_, _, _], _ => rfl) d18
  have hd_is_diagram : DefAt E "is_diagram" "is_diagram" s_is_diagram ["value", "count"] := df_at (E := E) X G (fun _ _ _ _ _ _ us hl => match us, hl with | [_, _], _ => rfl) d19
  have hd_is_condition : DefAt E "is_condition" "is_condition" s_is_condition ["value", "count"] := df_at (E := E) X G (fun _ _ _ _ _ _ us hl => match us, hl with | [_, _], _ => rfl) d20
  have hd_is_bar : DefAt E "is_bar" "is_bar" s_is_bar ["value", "rules", "count"] := df_at (E := E) X G (fun _ _ _ _ _ _ us hl => match us, hl with | [_, _, _], _ => rfl) d21
  have hd_are_bars : DefAt E "are_bars" "are_bars" s_are_bars ["value", "rules", "count"] := df_at (E := E) X G (fun _ _ _ _ _ _ us hl => match us, hl with | [_, _, _], _ => rfl) d22
  have hd_is_symbol : DefAt E "is_symbol" "is_symbol" s_is_symbol ["value"] := df_at (E := E) X G (fun _ _ _ _ _ _ us hl => match us, hl with | [_], _ => rfl) d23
  have hd_knows : DefAt E "knows" "knows" s_knows ["rules", "symbol"] := df_at (E := E) X G (fun _ _ _ _ _ _ us hl => match us, hl with | [_, _], _ => rfl) d24
  have hd_unknown_in : DefAt E "unknown_in" "unknown_in" s_unknown_in ["rules", "rule"] := df_at (E := E) X G (fun _ _ _ _ _ _ us hl => match us, hl with | [_, _], _ => rfl) d25
  have hd_unit_pairs : DefAt E "unit_pairs" "unit_pairs" s_unit_pairs ["rules"] := df_at (E := E) X G (fun _ _ _ _ _ _ us hl => match us, hl with | [_], _ => rfl) d26
  have hd_symbol_order : DefAt E "symbol_order" "symbol_order" s_symbol_order ["rules"] := df_at (E := E) X G (fun _ _ _ _ _ _ us hl => match us, hl with | [_], _ => rfl) d27
  have hd_lefts : DefAt E "lefts" "lefts" s_lefts ["rules"] := df_at (E := E) X G (fun _ _ _ _ _ _ us hl => match us, hl with | [_], _ => rfl) d28
  have hd_is_demand : DefAt E "is_demand" "is_demand" s_is_demand ["value", "many"] := df_at (E := E) X G (fun _ _ _ _ _ _ us hl => match us, hl with | [_, _], _ => rfl) d29
  have hd_are_demands : DefAt E "are_demands" "are_demands" s_are_demands ["value", "many"] := df_at (E := E) X G (fun _ _ _ _ _ _ us hl => match us, hl with | [_, _], _ => rfl) d30
  have hd_is_text : DefAt E "is_text" "is_text" s_is_text ["value"] := df_at (E := E) X G (fun _ _ _ _ _ _ us hl => match us, hl with | [_], _ => rfl) d31
  have hd_is_part : DefAt E "is_part" "is_part" s_is_part ["value"] := df_at (E := E) X G (fun _ _ _ _ _ _ us hl => match us, hl with | [_], _ => rfl) d32
  have hd_is_rule : DefAt E "is_rule" "is_rule" s_is_rule ["value", "count"] := df_at (E := E) X G (fun _ _ _ _ _ _ us hl => match us, hl with | [_, _], _ => rfl) d33
  have hd_is_grammar : DefAt E "is_grammar" "is_grammar" s_is_grammar ["value", "count"] := df_at (E := E) X G (fun _ _ _ _ _ _ us hl => match us, hl with | [_, _], _ => rfl) d34
  have hd__law_bad_rule : DefAt E "_law_bad_rule" "_law_bad_rule" s__law_bad_rule ["_law_tape_here", "_law_rule", "_law_count"] := df_at (E := E) X G (fun _ _ _ _ _ _ us hl => match us, hl with | [_, _, _], _ => rfl) d35
  have hd__law_bad : DefAt E "_law_bad" "_law_bad" s__law_bad ["_law_tape_here", "_law_grammar_here", "_law_count"] := df_at (E := E) X G (fun _ _ _ _ _ _ us hl => match us, hl with | [_, _, _], _ => rfl) d36
  have hd_rules_of : DefAt E "rules_of" "rules_of" s_rules_of ["grammar", "symbol"] := df_at (E := E) X G (fun _ _ _ _ _ _ us hl => match us, hl with | [_, _], _ => rfl) d37
  have hd_demand_holds : DefAt E "demand_holds" "demand_holds" s_demand_holds ["demand", "firsts"] := df_at (E := E) X G (fun _ _ _ _ _ _ us hl => match us, hl with | [_, _], _ => rfl) d38
  have hd__law_is : DefAt E "_law_is" "_law_is" s__law_is ["_law_told", "_law_due"] := df_at (E := E) X G (fun _ _ _ _ _ _ us hl => match us, hl with | [_, _], _ => rfl) d39
  have hd_barred : DefAt E "barred" "barred" s_barred ["grammar", "rule", "place", "below"] := df_at (E := E) X G (fun _ _ _ _ _ _ us hl => match us, hl with | [_, _, _, _], _ => rfl) d40
  have hd__law_first : DefAt E "_law_first" "_law_first" s__law_first ["_law_tree"] := df_at (E := E) X G (fun _ _ _ _ _ _ us hl => match us, hl with | [_], _ => rfl) d41
  have hd__law_demand : DefAt E "_law_demand" "_law_demand" s__law_demand ["_law_folded_here", "_law_demand_here", "_law_children"] := df_at (E := E) X G (fun _ _ _ _ _ _ us hl => match us, hl with | [_, _, _], _ => rfl) d42
  have hd_matches : DefAt E "matches" "matches" s_matches ["part", "token"] := df_at (E := E) X G (fun _ _ _ _ _ _ us hl => match us, hl with | [_, _], _ => rfl) d43
  have hd__law_matches : DefAt E "_law_matches" "_law_matches" s__law_matches ["_law_part", "_law_token"] := df_at (E := E) X G (fun _ _ _ _ _ _ us hl => match us, hl with | [_, _], _ => rfl) d44
  have z_all : Free E "all" := free_at (E := E) X G z0
  have z_any : Free E "any" := free_at (E := E) X G z1
  have z_bool : Free E "bool" := free_at (E := E) X G z2
  have z_enumerate : Free E "enumerate" := free_at (E := E) X G z3
  have z_int : Free E "int" := free_at (E := E) X G z4
  have z_isinstance : Free E "isinstance" := free_at (E := E) X G z5
  have z_len : Free E "len" := free_at (E := E) X G z6
  have z_list : Free E "list" := free_at (E := E) X G z7
  have z_max : Free E "max" := free_at (E := E) X G z8
  have z_min : Free E "min" := free_at (E := E) X G z9
  have z_range : Free E "range" := free_at (E := E) X G z10
  have z_sorted : Free E "sorted" := free_at (E := E) X G z11
  have z_str : Free E "str" := free_at (E := E) X G z12
  have z_tuple : Free E "tuple" := free_at (E := E) X G z13
  have k_CAPITAL : GConst E "CAPITAL" c_CAPITAL := gs_at (E := E) X G q0
  have k_FIGURES : GConst E "FIGURES" c_FIGURES := gs_at (E := E) X G q1
  have k_MARKS : GConst E "MARKS" c_MARKS := gs_at (E := E) X G q2
  have k_MAX_BARS : GConst E "MAX_BARS" c_MAX_BARS := gi_at (E := E) X G q3
  have k_MAX_DEMANDS : GConst E "MAX_DEMANDS" c_MAX_DEMANDS := gi_at (E := E) X G q4
  have k_MAX_PARTS : GConst E "MAX_PARTS" c_MAX_PARTS := gi_at (E := E) X G q5
  have k_MAX_RULES : GConst E "MAX_RULES" c_MAX_RULES := gi_at (E := E) X G q6
  have k_SMALL : GConst E "SMALL" c_SMALL := gs_at (E := E) X G q7
  exact law_ok (E := E) F hd__law_tape hd__law_mix hd__law_take hd__law_symbols hd__law_turned hd__law_right hd__law_switch_diagram hd__law_diagram hd__law_demands hd__law_bars hd__law_base hd__law_grammar hd__law_word hd__law_sentence hd__law_folded hd__law_world hd_is_index hd_same hd_is_below hd_is_diagram hd_is_condition hd_is_bar hd_are_bars hd_is_symbol hd_knows hd_unknown_in hd_unit_pairs hd_symbol_order hd_lefts hd_is_demand hd_are_demands hd_is_text hd_is_part hd_is_rule hd_is_grammar hd__law_bad_rule hd__law_bad hd_rules_of hd_demand_holds hd__law_is hd_barred hd__law_first hd__law_demand hd_matches hd__law_matches z_all z_any z_bool z_enumerate z_int z_isinstance z_len z_list z_max z_min z_range z_sorted z_str z_tuple k_CAPITAL k_FIGURES k_MARKS k_MAX_BARS k_MAX_DEMANDS k_MAX_PARTS k_MAX_RULES k_SMALL

theorem walk {l : PySem.W.OpenLaw} {q : Program} {loose : List Str} {XP : (Str → Option Value) → Heap → Prop} {YP : World → Heap → Prop} {d : DefRec} {K : Params → PySem.W.Frag} (hn : l.most = some 63) (hdf : d.params.defaults = [])
    (hY : ∀ (w : World) (h : Heap), YP w h → (K w.params).In h)
    (F : ∀ (w : World) (mg : Str → Option Value) (fa : Addr) (h : Heap), (K w.params).In h → h.Ns mainGlobals mg → mg d.name = some (.ref fa) →
      ∃ fd : FuncData, (∀ (s : Shared) (u : Value), BindsTo s fd ⟨[u], []⟩ [("_law_script", u)]) ∧ ∀ base : Heap, (K w.params).In base → base.Ns mainGlobals mg → FnOk l.prog w (K w.params) mg base CX0 19 fa fd ["_law_script"] (spLaw (K w.params))) :
    PySem.W.WalkO q loose XP YP l.row.toRowW d [] (fun f vs => PySem.call f vs) :=
  L2.walk_ofB (n := 63) (k := 19) (x := "_law_script") (CX := fun _ => CX0) (sp := fun w => spLaw (K w.params)) hn (by decide) hdf ⟨rfl, by decide, by decide⟩ hY F (fun _ _ a ns hl hb ho hS => ⟨a, ns, rfl, hS, hl, hb, ho, fun _ => rfl⟩) fun _ _ _ _ _ z => z

end P
open PySem PySem.W PyProof.Rows
set_option maxRecDepth 100000 in
set_option maxHeartbeats 0 in
theorem PySem.Challenge.cw_oncefolded_k30_forms_of_grammars_holds : PySem.Challenge.rw_oncefolded_k30_forms_of_grammars.Holds := by
  w_on; o_law; k_head; (case hw => w_witness2)
  k_fill
  refine P.walk (l := PySem.Challenge.rw_oncefolded_k30_forms_of_grammars) rfl rfl (fun w h Y => PySem.W.kIn_of Y) ?F
  case F =>
    intro w mg fa h KX G hmg
    refine' P.all_mk KX G hmg ?d0 ?d1 ?d2 ?d3 ?d4 ?d5 ?d6 ?d7 ?d8 ?d9 ?d10 ?d11 ?d12 ?d13 ?d14 ?d15 ?d16 ?d17 ?d18 ?d19 ?d20 ?d21 ?d22 ?d23 ?d24 ?d25 ?d26 ?d27 ?d28 ?d29 ?d30 ?d31 ?d32 ?d33 ?d34 ?d35 ?d36 ?d37 ?d38 ?d39 ?d40 ?d41 ?d42 ?d43 ?d44 ?al ?ll ?cl ?kl ?z0 ?z1 ?z2 ?z3 ?z4 ?z5 ?z6 ?z7 ?z8 ?z9 ?z10 ?z11 ?z12 ?z13 ?q0 ?q1 ?q2 ?q3 ?q4 ?q5 ?q6 ?q7
    (case d0 => refine' Z.df_mk ?a ?l ?c ?k; (case a => k_is); (case l => k_is); (case c => k_is); (case k => k_is))
    (case d1 => refine' Z.df_mk ?a ?l ?c ?k; (case a => k_is); (case l => k_is); (case c => k_is); (case k => k_is))
    (case d2 => refine' Z.df_mk ?a ?l ?c ?k; (case a => k_is); (case l => k_is); (case c => k_is); (case k => k_is))
    (case d3 => refine' Z.df_mk ?a ?l ?c ?k; (case a => k_is); (case l => k_is); (case c => k_is); (case k => k_is))
    (case d4 => refine' Z.df_mk ?a ?l ?c ?k; (case a => k_is); (case l => k_is); (case c => k_is); (case k => k_is))
    (case d5 => refine' Z.df_mk ?a ?l ?c ?k; (case a => k_is); (case l => k_is); (case c => k_is); (case k => k_is))
    (case d6 => refine' Z.df_mk ?a ?l ?c ?k; (case a => k_is); (case l => k_is); (case c => k_is); (case k => k_is))
    (case d7 => refine' Z.df_mk ?a ?l ?c ?k; (case a => k_is); (case l => k_is); (case c => k_is); (case k => k_is))
    (case d8 => refine' Z.df_mk ?a ?l ?c ?k; (case a => k_is); (case l => k_is); (case c => k_is); (case k => k_is))
    (case d9 => refine' Z.df_mk ?a ?l ?c ?k; (case a => k_is); (case l => k_is); (case c => k_is); (case k => k_is))
    (case d10 => refine' Z.df_mk ?a ?l ?c ?k; (case a => k_is); (case l => k_is); (case c => k_is); (case k => k_is))
    (case d11 => refine' Z.df_mk ?a ?l ?c ?k; (case a => k_is); (case l => k_is); (case c => k_is); (case k => k_is))
    (case d12 => refine' Z.df_mk ?a ?l ?c ?k; (case a => k_is); (case l => k_is); (case c => k_is); (case k => k_is))
    (case d13 => refine' Z.df_mk ?a ?l ?c ?k; (case a => k_is); (case l => k_is); (case c => k_is); (case k => k_is))
    (case d14 => refine' Z.df_mk ?a ?l ?c ?k; (case a => k_is); (case l => k_is); (case c => k_is); (case k => k_is))
    (case d15 => refine' Z.df_mk ?a ?l ?c ?k; (case a => k_is); (case l => k_is); (case c => k_is); (case k => k_is))
    (case d16 => refine' Z.df_mk ?a ?l ?c ?k; (case a => k_is); (case l => k_is); (case c => k_is); (case k => k_is))
    (case d17 => refine' Z.df_mk ?a ?l ?c ?k; (case a => k_is); (case l => k_is); (case c => k_is); (case k => k_is))
    (case d18 => refine' Z.df_mk ?a ?l ?c ?k; (case a => k_is); (case l => k_is); (case c => k_is); (case k => k_is))
    (case d19 => refine' Z.df_mk ?a ?l ?c ?k; (case a => k_is); (case l => k_is); (case c => k_is); (case k => k_is))
    (case d20 => refine' Z.df_mk ?a ?l ?c ?k; (case a => k_is); (case l => k_is); (case c => k_is); (case k => k_is))
    (case d21 => refine' Z.df_mk ?a ?l ?c ?k; (case a => k_is); (case l => k_is); (case c => k_is); (case k => k_is))
    (case d22 => refine' Z.df_mk ?a ?l ?c ?k; (case a => k_is); (case l => k_is); (case c => k_is); (case k => k_is))
    (case d23 => refine' Z.df_mk ?a ?l ?c ?k; (case a => k_is); (case l => k_is); (case c => k_is); (case k => k_is))
    (case d24 => refine' Z.df_mk ?a ?l ?c ?k; (case a => k_is); (case l => k_is); (case c => k_is); (case k => k_is))
    (case d25 => refine' Z.df_mk ?a ?l ?c ?k; (case a => k_is); (case l => k_is); (case c => k_is); (case k => k_is))
    (case d26 => refine' Z.df_mk ?a ?l ?c ?k; (case a => k_is); (case l => k_is); (case c => k_is); (case k => k_is))
    (case d27 => refine' Z.df_mk ?a ?l ?c ?k; (case a => k_is); (case l => k_is); (case c => k_is); (case k => k_is))
    (case d28 => refine' Z.df_mk ?a ?l ?c ?k; (case a => k_is); (case l => k_is); (case c => k_is); (case k => k_is))
    (case d29 => refine' Z.df_mk ?a ?l ?c ?k; (case a => k_is); (case l => k_is); (case c => k_is); (case k => k_is))
    (case d30 => refine' Z.df_mk ?a ?l ?c ?k; (case a => k_is); (case l => k_is); (case c => k_is); (case k => k_is))
    (case d31 => refine' Z.df_mk ?a ?l ?c ?k; (case a => k_is); (case l => k_is); (case c => k_is); (case k => k_is))
    (case d32 => refine' Z.df_mk ?a ?l ?c ?k; (case a => k_is); (case l => k_is); (case c => k_is); (case k => k_is))
    (case d33 => refine' Z.df_mk ?a ?l ?c ?k; (case a => k_is); (case l => k_is); (case c => k_is); (case k => k_is))
    (case d34 => refine' Z.df_mk ?a ?l ?c ?k; (case a => k_is); (case l => k_is); (case c => k_is); (case k => k_is))
    (case d35 => refine' Z.df_mk ?a ?l ?c ?k; (case a => k_is); (case l => k_is); (case c => k_is); (case k => k_is))
    (case d36 => refine' Z.df_mk ?a ?l ?c ?k; (case a => k_is); (case l => k_is); (case c => k_is); (case k => k_is))
    (case d37 => refine' Z.df_mk ?a ?l ?c ?k; (case a => k_is); (case l => k_is); (case c => k_is); (case k => k_is))
    (case d38 => refine' Z.df_mk ?a ?l ?c ?k; (case a => k_is); (case l => k_is); (case c => k_is); (case k => k_is))
    (case d39 => refine' Z.df_mk ?a ?l ?c ?k; (case a => k_is); (case l => k_is); (case c => k_is); (case k => k_is))
    (case d40 => refine' Z.df_mk ?a ?l ?c ?k; (case a => k_is); (case l => k_is); (case c => k_is); (case k => k_is))
    (case d41 => refine' Z.df_mk ?a ?l ?c ?k; (case a => k_is); (case l => k_is); (case c => k_is); (case k => k_is))
    (case d42 => refine' Z.df_mk ?a ?l ?c ?k; (case a => k_is); (case l => k_is); (case c => k_is); (case k => k_is))
    (case d43 => refine' Z.df_mk ?a ?l ?c ?k; (case a => k_is); (case l => k_is); (case c => k_is); (case k => k_is))
    (case d44 => refine' Z.df_mk ?a ?l ?c ?k; (case a => k_is); (case l => k_is); (case c => k_is); (case k => k_is))
    (case al => k_is); (case ll => k_is); (case cl => k_is); (case kl => k_is)
    (case z0 => k_is)
    (case z1 => k_is)
    (case z2 => k_is)
    (case z3 => k_is)
    (case z4 => k_is)
    (case z5 => k_is)
    (case z6 => k_is)
    (case z7 => k_is)
    (case z8 => k_is)
    (case z9 => k_is)
    (case z10 => k_is)
    (case z11 => k_is)
    (case z12 => k_is)
    (case z13 => k_is)
    (case q0 => refine' Z.gs_mk ?a; (case a => k_is))
    (case q1 => refine' Z.gs_mk ?a; (case a => k_is))
    (case q2 => refine' Z.gs_mk ?a; (case a => k_is))
    (case q3 => refine' Z.gi_mk ?a; (case a => k_is))
    (case q4 => refine' Z.gi_mk ?a; (case a => k_is))
    (case q5 => refine' Z.gi_mk ?a; (case a => k_is))
    (case q6 => refine' Z.gi_mk ?a; (case a => k_is))
    (case q7 => refine' Z.gs_mk ?a; (case a => k_is))
#print axioms PySem.Challenge.cw_oncefolded_k30_forms_of_grammars_holds

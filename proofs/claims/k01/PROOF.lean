import PyProof.Rows.All
import Wide.All
import OpenK.AllK
import Wide.FinOn
import HandS.WideBits
import HandS.ForMost
import HandS.ForExc
import HandS.IsInst
import HandS.Flow
import HandS.Deep
import HandS.Wide
import HandS.SortKw
import HandS.TupAny
import HandS.TupMul
import HandS.Zip
import KE.DataEq
import KE.DataCmp
import KE.DataIsa
import KE.DataAny
import KE.SortData
import KE.LtData
import HandS.Strs
import HandS.Replace
import HandS.EndBits
import PySem.Challenge.RW_oncefolded_k01_whole_diagrams
set_option Elab.async false
set_option linter.all false
set_option maxRecDepth 100000
namespace Z
open PySem PySem.Spec L2

abbrev D := PyData

/-! ### heaps as partial maps -/
def Le (F H : Hp) : Prop := ∀ a o, F a = some o → H a = some o
theorem Le.refl (H : Hp) : Le H H := fun _ _ h => h
theorem Le.trans {F G H : Hp} (a : Le F G) (b : Le G H) : Le F H := fun x o h => b x o (a x o h)
theorem Le.new {H : Hp} {p : Addr} {o : HO} (h : H p = none) : Le H (upd H p o) := fun a u e => by
  rw [upd_ne (ne_of_none e h)]; exact e
theorem Le.none {F H : Hp} (l : Le F H) {a : Addr} (h : H a = none) : F a = none := by
  cases q : F a with
  | none => rfl
  | some o => rw [l a o q] at h; cases h

/-! ### data -/
/-- a tuple that is read: its object has no dict of its own -/
def tupMix (xs : List V) : Bool := xs.any fun v => match v with | .str _ => false | _ => true
def Tp (K : PySem.W.Frag) (F : Hp) (a : Addr) (xs : List V) : Prop := (∃ o, o.dict = none ∧ F a = some (.frz o (.tup xs))) ∨ (F a = some (.tup xs) ∧ tupMix xs = true) ∨
  ∃ (o : Obj) (its : Array Value) (n : Nat), K.lookup a = some o ∧ o.cls = .type "tuple" ∧ o.dict = none ∧ o.data = .seq its n ∧ its.size ≤ sizeLine ∧ Vals xs its.toList
theorem Tp.mono {K : PySem.W.Frag} {F F' : Hp} {a : Addr} {xs : List V} (e : Le F F') (h : Tp K F a xs) : Tp K F' a xs := by
  rcases h with ⟨o, h1, h2⟩ | ⟨h1, h2⟩ | h
  · exact .inl ⟨o, h1, e _ _ h2⟩
  · exact .inr (.inl ⟨e _ _ h1, h2⟩)
  · exact .inr (.inr h)
theorem Tp.sq {K : PySem.W.Frag} {F : Hp} {a : Addr} {xs : List V} (h : Tp K F a xs) : SqT K F a xs := by
  rcases h with ⟨o, h1, h2⟩ | ⟨h1, h2⟩ | ⟨o, its, n, h1, h2, h3, h4, h5, h6⟩
  · exact .inl (.inr ⟨o, h2⟩)
  · exact .inl (.inl h1)
  · exact .inr ⟨o, its, n, h1, h2, h4, h5, h6⟩
mutual
inductive Rep (K : PySem.W.Frag) (F : Hp) : V → D → Prop
  | non : Rep K F .non .none
  | bl (b : Bool) : Rep K F (.bl b) (.bool b)
  | int (i : Int) : Rep K F (.int i) (.int i)
  | str (x : Str) : Rep K F (.str x) (.str x)
  | lst {a : Addr} {xs : List V} {ds : List D} : F a = some (.lst xs) ∧ xs.length ≤ sizeLine → Reps K F xs ds → Rep K F (.ref a) (.list ds)
  | tup {a : Addr} {xs : List V} {ds : List D} : Tp K F a xs ∧ xs.length ≤ sizeLine → Reps K F xs ds → Rep K F (.ref a) (.tuple ds)
inductive Reps (K : PySem.W.Frag) (F : Hp) : List V → List D → Prop
  | nil : Reps K F [] []
  | cons {v : V} {vs : List V} {d : D} {ds : List D} : Rep K F v d → Reps K F vs ds → Reps K F (v :: vs) (d :: ds)
end

section
variable {K : PySem.W.Frag} {F F' H : Hp}
theorem le_rd {a : Addr} {u : HO} (e : Le F F') (h : Rd F a u) : Rd F' a u := by
  rcases h with h | ⟨o, h⟩
  · exact Or.inl (e a _ h)
  · exact Or.inr ⟨o, e a _ h⟩
theorem le_l {a : Addr} {xs : List V} (e : Le F F') (h : SqL K F a xs) : SqL K F' a xs := by
  rcases h with h | h
  · exact Or.inl (le_rd e h)
  · exact Or.inr h
theorem le_t {a : Addr} {xs : List V} (e : Le F F') (h : SqT K F a xs) : SqT K F' a xs := by
  rcases h with h | h
  · exact Or.inl (le_rd e h)
  · exact Or.inr h
mutual
theorem Rep.mono (e : Le F F') : ∀ {d : D} {v : V}, Rep K F v d → Rep K F' v d
  | _, _, .non => .non
  | _, _, .bl b => .bl b
  | _, _, .int i => .int i
  | _, _, .str x => .str x
  | _, _, .lst h r => .lst ⟨e _ _ h.1, h.2⟩ (Reps.mono e r)
  | _, _, .tup h r => .tup ⟨h.1.mono e, h.2⟩ (Reps.mono e r)
theorem Reps.mono (e : Le F F') : ∀ {ds : List D} {vs : List V}, Reps K F vs ds → Reps K F' vs ds
  | _, _, .nil => .nil
  | _, _, .cons h r => .cons (Rep.mono e h) (Reps.mono e r)
end
theorem Reps.length : ∀ {vs : List V} {ds : List D}, Reps K F vs ds → vs.length = ds.length
  | _, _, .nil => rfl
  | _, _, .cons _ r => congrArg (· + 1) (Reps.length r)
theorem Reps.get : ∀ {vs : List V} {ds : List D} {i : Nat} {d : D}, Reps K F vs ds → ds[i]? = some d → ∃ v, vs[i]? = some v ∧ Rep K F v d
  | _, _, _, _, .nil, e => by simp at e
  | _, _, 0, _, .cons r _, e => by simp at e; subst e; exact ⟨_, rfl, r⟩
  | _, _, i + 1, _, .cons _ t, e => by
    obtain ⟨v, h1, h2⟩ := Reps.get (i := i) t (by simpa using e)
    exact ⟨v, by simpa using h1, h2⟩
theorem Reps.getV : ∀ {vs : List V} {ds : List D} {i : Nat} {v : V}, Reps K F vs ds → vs[i]? = some v → ∃ d, ds[i]? = some d ∧ Rep K F v d
  | _, _, _, _, .nil, e => by simp at e
  | _, _, 0, _, .cons r _, e => by simp at e; subst e; exact ⟨_, rfl, r⟩
  | _, _, i + 1, _, .cons _ t, e => by
    obtain ⟨v, h1, h2⟩ := Reps.getV (i := i) t (by simpa using e)
    exact ⟨v, by simpa using h1, h2⟩
theorem Reps.append : ∀ {vs ws : List V} {ds es : List D}, Reps K F vs ds → Reps K F ws es → Reps K F (vs ++ ws) (ds ++ es)
  | _, _, _, _, .nil, s => s
  | _, _, _, _, .cons r t, s => .cons r (Reps.append t s)
theorem Reps.snoc {vs : List V} {ds : List D} {v : V} {d : D} (r : Reps K F vs ds) (h : Rep K F v d) : Reps K F (vs ++ [v]) (ds ++ [d]) := r.append (.cons h .nil)
theorem Reps.take : ∀ {vs : List V} {ds : List D} (n : Nat), Reps K F vs ds → Reps K F (vs.take n) (ds.take n)
  | _, _, 0, _ => by simp; exact .nil
  | _, _, _ + 1, .nil => .nil
  | _, _, n + 1, .cons r t => .cons r (Reps.take n t)
theorem Reps.drop : ∀ {vs : List V} {ds : List D} (n : Nat), Reps K F vs ds → Reps K F (vs.drop n) (ds.drop n)
  | _, _, 0, r => r
  | _, _, _ + 1, .nil => .nil
  | _, _, n + 1, .cons _ t => Reps.drop n t
theorem Reps.set : ∀ {vs : List V} {ds : List D} {v : V} {d : D} (n : Nat), Reps K F vs ds → Rep K F v d → Reps K F (vs.set n v) (ds.set n d)
  | _, _, _, _, _, .nil, _ => .nil
  | _, _, _, _, 0, .cons _ t, h => .cons h t
  | _, _, _, _, n + 1, .cons r t, h => .cons r (Reps.set n t h)
theorem Reps.reverse : ∀ {vs : List V} {ds : List D}, Reps K F vs ds → Reps K F vs.reverse ds.reverse
  | _, _, .nil => .nil
  | _, _, .cons r t => by rw [List.reverse_cons, List.reverse_cons]; exact (Reps.reverse t).snoc r

/-! no dicts inside: to the kit's own relation -/
mutual
theorem Rep.dp : ∀ {d : D} {v : V}, Rep K F v d → Dp K F v d
  | _, _, .non => .non
  | _, _, .bl b => .bl b
  | _, _, .int i => .int i
  | _, _, .str x => .str x
  | _, _, .lst h r => .lst (.of h.1) (Reps.dp r)
  | _, _, .tup h r => .tup h.1.sq (Reps.dp r)
theorem Reps.dp : ∀ {ds : List D} {vs : List V}, Reps K F vs ds → DpAll K F vs ds
  | _, _, .nil => .nil
  | _, _, .cons h r => .cons (Rep.dp h) (Reps.dp r)
end
mutual
theorem Rep.plain : ∀ {d : D} {v : V}, Rep K F v d → d.plain = true
  | _, _, .non => rfl
  | _, _, .bl b => rfl
  | _, _, .int i => rfl
  | _, _, .str x => rfl
  | _, _, .lst h r => by show PyData.plainAll _ = true; exact Reps.plain r
  | _, _, .tup h r => by show PyData.plainAll _ = true; exact Reps.plain r
theorem Reps.plain : ∀ {ds : List D} {vs : List V}, Reps K F vs ds → PyData.plainAll ds = true
  | _, _, .nil => rfl
  | _, _, .cons h r => by
    show (PyData.plain _ && PyData.plainAll _) = true
    rw [Rep.plain h, Reps.plain r]; rfl
end
end

/-! ### growth -/
structure Grow (F H F' H' : Hp) : Prop where
  f : Le F F'
  h : Le H H'
  s : Le F' H'
  n : ∀ a, F' a ≠ none → F a ≠ none ∨ H a = none
theorem Grow.refl {F H : Hp} (s : Le F H) : Grow F H F H := ⟨Le.refl _, Le.refl _, s, fun _ h => .inl h⟩
theorem Grow.trans {F H F1 H1 F2 H2 : Hp} (a : Grow F H F1 H1) (b : Grow F1 H1 F2 H2) : Grow F H F2 H2 :=
  ⟨a.f.trans b.f, a.h.trans b.h, b.s, fun x hx => by
    rcases b.n x hx with h | h
    · exact a.n x h
    · exact .inr (a.h.none h)⟩
/-- a new frozen object -/
theorem Grow.new {F H : Hp} {p : Addr} {o : HO} (s : Le F H) (h : H p = none) : Grow F H (upd F p o) (upd H p o) :=
  ⟨Le.new (s.none h), Le.new h, fun a u e => by
    by_cases q : a = p
    · subst q; rw [upd_same] at e ⊢; exact e
    · rw [upd_ne q] at e ⊢; exact s a u e, fun a ha => by
    by_cases q : a = p
    · subst q; exact .inr h
    · rw [upd_ne q] at ha; exact .inl ha⟩

/-! ### what the slots hold -/
inductive Sh | l
inductive Ent
  | no
  | fz (x : D)
  | ow (s : Sh) (v : Option V) (x : D)
  | sc (ns : List Int)
inductive Tree (K : PySem.W.Frag) (F H : Hp) : Sh → V → D → List Addr → Prop
  | l {a : Addr} {vs : List V} {xs : List D} : H a = some (.lst vs) ∧ vs.length ≤ sizeLine → Reps K F vs xs → Tree K F H .l (.ref a) (.list xs) [a]
theorem Tree.frame {K : PySem.W.Frag} {F H F' H' : Hp} {s : Sh} {v : V} {x : D} {fp : List Addr} (t : Tree K F H s v x fp) (f : Le F F') (h : ∀ a ∈ fp, H' a = H a) : Tree K F' H' s v x fp := by
  cases t with
  | l e r => exact .l ⟨(h _ (by simp)).trans e.1, e.2⟩ (r.mono f)
def EntOk (K : PySem.W.Frag) (F H : Hp) (o : Option (Option V)) (fp : List Addr) : Ent → Prop
  | .no => True
  | .fz x => ∃ v, o = some (some v) ∧ Rep K F v x
  | .ow s w x => ∃ v, o = some (some v) ∧ (∀ u, w = some u → u = v) ∧ Tree K F H s v x fp
  | .sc ns => ∃ a, o = some (some (.ref a)) ∧ SqL K F a (ns.map V.int)
structure Fps (F O : Hp) (fp : Nat → List Addr) : Prop where
  nd : ∀ i, (fp i).Nodup
  f : ∀ i a, a ∈ fp i → F a = none ∧ O a = none
  ap : ∀ i j a, a ∈ fp i → a ∈ fp j → i = j
structure At (K : PySem.W.Frag) (F O : Hp) (σ : St) (H : Hp) (Γ : List Ent) : Prop where
  sub : Le F H
  out : Le O H
  fo : ∀ a, F a ≠ none → O a = none
  len : Γ.length = σ.length
  ents : ∃ fp : Nat → List Addr, Fps F O fp ∧ ∀ i e, Γ[i]? = some e → EntOk K F H σ[i]? (fp i) e

section
variable {K : PySem.W.Frag} {F O H F' H' : Hp} {σ : St} {Γ : List Ent}
theorem EntOk.frame {o : Option (Option V)} {fp : List Addr} {e : Ent} (h : EntOk K F H o fp e) (f : Le F F') (k : ∀ a ∈ fp, H' a = H a) : EntOk K F' H' o fp e := by
  cases e with
  | no => trivial
  | fz x => obtain ⟨v, e, r⟩ := h; exact ⟨v, e, r.mono f⟩
  | ow s w x => obtain ⟨v, e, q, t⟩ := h; exact ⟨v, e, q, t.frame f k⟩
  | sc ns => obtain ⟨a, e, q⟩ := h; exact ⟨a, e, le_l f q⟩
theorem Tree.there {s : Sh} {v : V} {x : D} {fp : List Addr} (t : Tree K F H s v x fp) : ∀ a ∈ fp, H a ≠ none := by
  cases t with
  | l e r => intro a ha; simp at ha; subst ha; rw [e.1]; simp
/-- the frozen part and the heap grow -/
theorem At.grow (h : At K F O σ H Γ) (g : Grow F H F' H') : At K F' O σ H' Γ := by
  obtain ⟨fp, d, e⟩ := h.ents
  refine ⟨g.s, h.out.trans g.h, fun a ha => ?_, h.len, fun i => match Γ[i]? with | some (.ow _ _ _) => fp i | _ => [], ⟨fun i => ?_, fun i a ha => ?_, fun i j a ha hb => ?_⟩, fun i e1 he => ?_⟩
  · rcases g.n a ha with q | q
    · exact h.fo a q
    · exact h.out.none q
  · split
    · exact d.nd i
    · exact List.nodup_nil
  · split at ha
    · rename_i s w x hi
      obtain ⟨v, q1, q2, t⟩ := e i _ hi
      refine ⟨?_, (d.f i a ha).2⟩
      cases q : F' a with
      | none => rfl
      | some u =>
        rcases g.n a (by rw [q]; simp) with z | z
        · exact absurd (d.f i a ha).1 z
        · exact absurd z (t.there a ha)
    · cases ha
  · split at ha
    · split at hb
      · exact d.ap i j a ha hb
      · cases hb
    · cases ha
  · have q := e i e1 he
    cases e1 with
    | no => trivial
    | fz x => obtain ⟨v, q1, r⟩ := q; exact ⟨v, q1, r.mono g.f⟩
    | sc ns => obtain ⟨a, q1, r⟩ := q; exact ⟨a, q1, le_l g.f r⟩
    | ow s w x =>
      obtain ⟨v, q1, q2, t⟩ := q
      simp only [he]
      exact ⟨v, q1, q2, t.frame g.f fun a ha => by
        cases z : H a with
        | none => exact absurd z (t.there a ha)
        | some u => exact g.h a u z⟩
/-- a slot that is read -/
theorem At.fz (h : At K F O σ H Γ) {i : Nat} {x : D} (e : Γ[i]? = some (.fz x)) : ∃ v, σ[i]? = some (some v) ∧ Rep K F v x := by
  obtain ⟨fp, d, q⟩ := h.ents
  exact q i _ e
/-- a slot that is stored, frozen -/
theorem At.set (h : At K F O σ H Γ) {i : Nat} {v : V} {x : D} (r : Rep K F v x) : At K F O (σ.set i (some v)) H (Γ.set i (.fz x)) := by
  obtain ⟨fp, d, e⟩ := h.ents
  refine ⟨h.sub, h.out, h.fo, by simp [h.len], fp, d, fun j e1 he => ?_⟩
  by_cases q : j = i
  · subst q
    have hj : j < Γ.length := by
      have := (List.getElem?_eq_some_iff.mp he).1
      simpa using this
    rw [List.getElem?_set_self hj] at he
    cases he
    exact ⟨v, by rw [List.getElem?_set_self (by rw [← h.len]; exact hj)], r⟩
  · rw [List.getElem?_set_ne (Ne.symm q)] at he ⊢
    exact e j e1 he
/-- a slot that is stored, and nothing is known -/
theorem At.junk (h : At K F O σ H Γ) {i : Nat} {v : Option V} : At K F O (σ.set i v) H (Γ.set i .no) := by
  obtain ⟨fp, d, e⟩ := h.ents
  refine ⟨h.sub, h.out, h.fo, by simp [h.len], fp, d, fun j e1 he => ?_⟩
  by_cases q : j = i
  · subst q
    have hj : j < Γ.length := by
      have := (List.getElem?_eq_some_iff.mp he).1
      simpa using this
    rw [List.getElem?_set_self hj] at he
    cases he
    trivial
  · rw [List.getElem?_set_ne (Ne.symm q)] at he ⊢
    exact e j e1 he
/-- forgetting -/
inductive Weak : List Ent → List Ent → Prop
  | nil : Weak [] []
  | same {e : Ent} {Γ Δ : List Ent} : Weak Γ Δ → Weak (e :: Γ) (e :: Δ)
  | no {e : Ent} {Γ Δ : List Ent} : Weak Γ Δ → Weak (e :: Γ) (.no :: Δ)
theorem Weak.refl : ∀ Γ, Weak Γ Γ
  | [] => .nil
  | _ :: Γ => .same (Weak.refl Γ)
theorem Weak.len : ∀ {Γ Δ}, Weak Γ Δ → Γ.length = Δ.length
  | _, _, .nil => rfl
  | _, _, .same h => congrArg (· + 1) h.len
  | _, _, .no h => congrArg (· + 1) h.len
theorem Weak.get : ∀ {Γ Δ : List Ent} {i : Nat} {e : Ent}, Weak Γ Δ → Δ[i]? = some e → Γ[i]? = some e ∨ e = .no
  | _, _, _, _, .nil, h => by simp at h
  | _, _, 0, _, .same _, h => .inl (by simpa using h)
  | _, _, 0, _, .no _, h => .inr (by simpa using h.symm)
  | _, _, i + 1, _, .same w, h => by simpa using w.get (i := i) (by simpa using h)
  | _, _, i + 1, _, .no w, h => by simpa using w.get (i := i) (by simpa using h)
theorem At.weak {Δ : List Ent} (h : At K F O σ H Γ) (w : Weak Γ Δ) : At K F O σ H Δ := by
  obtain ⟨fp, d, e⟩ := h.ents
  refine ⟨h.sub, h.out, h.fo, by rw [← w.len]; exact h.len, fp, d, fun j e1 he => ?_⟩
  rcases w.get he with q | q
  · exact e j e1 q
  · subst q; trivial
end
end Z
namespace Z
open PySem PySem.Spec L2 PyProof.Rows
/-! ## tuples that are made: the object is known to have no dict -/
section
variable {X : Cx}
theorem tupF_ok {P : Program} {w : World} {H : Hp} {h : Heap} {xs : List V} {tv : List Value} (z : xs.length ≤ sizeLine) (r : Vals xs tv) : ObjOk P w H (h.push { cls := .type "tuple", data := .seq tv.toArray }) h.objs.size (.frz { cls := .type "tuple", data := .seq tv.toArray } (.tup xs)) :=
  ⟨Heap.get?_push_size _ rfl, z, tv, r, IsTup.new _ _⟩
def tTupF (t : TA) : TE := fun σ H Qv => t σ H fun xs H1 => xs.length ≤ sizeLine ∧ ∀ (o : Obj) p, o.dict = none → H1 p = none → Qv (.ref p) (upd H1 p (.frz o (.tup xs)))
theorem pe_tupF {es : List Expr} {t : TA} {pos : Pos} {x1} (h : PA X es t) : PE X (.Tuple es x1 pos) (tTupF t) := by
  refine ⟨fun pns s σ H Qv I hsq => ?_⟩
  refine wpAny_Tuple_spliced (thn (h.run pos pns s σ H _ I hsq) fun uv s1 ⟨xs, H1, I1, r, z, q⟩ => ⟨by rw [← r.length]; exact z, ?_⟩)
  have hf : H1 s1.heap.objs.size = none := I1.hok.fresh (Nat.le_refl _)
  exact ⟨.ref s1.heap.objs.size, upd H1 s1.heap.objs.size (.frz { cls := .type "tuple", data := .seq uv.toArray } (.tup xs)), I1.laid (t' := s1.toks) (fun b u e => Heap.get?_push_of_some _ e) (Nat.le_refl _) (tupF_ok z r), rfl, q _ _ rfl hf⟩
theorem call_tupleF : CallR X (.type "tuple") (fun xs H Qv => ∃ p ys, xs = [.ref p] ∧ ((SqL X.K H p ys ∧ ∀ (o : Obj) l, o.dict = none → H l = none → Qv (.ref l) (upd H l (.frz o (.tup ys)))) ∨ (SqT X.K H p ys ∧ Qv (.ref p) H))) := by
  intro pns s σ H xs uv Qv I r h
  obtain ⟨p, ys, rfl, h⟩ := h
  obtain ⟨u, rfl, rx⟩ := vals1 r
  cases rx
  rcases h with ⟨hsq, q⟩ | ⟨hsq, q⟩
  · obtain ⟨tv, r', plo, hsz⟩ := I.list hsq
    have hle := r'.length
    refine call_tuple_list plo.isList (fun h' kp => ?_) (by simp only [List.size_toArray] <;> omega)
    have I1 : Inv X pns σ H { s with heap := h' } := I.kept (t' := s.toks) kp
    have I2 : Inv X pns σ (upd H h'.objs.size (.frz { cls := .type "tuple", data := .seq tv.toArray } (.tup ys))) { s with heap := h'.push { cls := .type "tuple", data := .seq tv.toArray } } :=
      I1.laid (t' := s.toks) (fun b o e => Heap.get?_push_of_some _ e) (Nat.le_refl _) (tupF_ok hsz r')
    exact ⟨.ref h'.objs.size, _, I2, rfl, q _ _ rfl (I1.hok.fresh (Nat.le_refl _))⟩
  · obtain ⟨tv, r', plo, hsz⟩ := I.tuple hsq
    exact call_tuple_same plo ⟨.ref p, H, I, rfl, q⟩
def rCatF (K : PySem.W.Frag) : R2 := fun x y H Qv => ∃ a b xs ys, x = .ref a ∧ y = .ref b ∧ SqT K H a xs ∧ SqT K H b ys ∧ xs.length + ys.length ≤ sizeLine ∧
  (xs = [] → Qv (.ref b) H) ∧ (xs ≠ [] → ys = [] → Qv (.ref a) H) ∧ (xs ≠ [] → ys ≠ [] → ∀ (o : Obj) p, o.dict = none → H p = none → Qv (.ref p) (upd H p (.frz o (.tup (xs ++ ys)))))
theorem op_catF : OpR X (binaryOp .Add) (rCatF X.K) := by
  intro pns s σ H x y v u Qv I rx ry h
  obtain ⟨a, b, xs, ys, rfl, rfl, ha, hb, hsz, qe, q1, q2⟩ := h
  cases rx
  cases ry
  obtain ⟨tv, r1, p1, _⟩ := I.tuple ha
  obtain ⟨its2, r2, p2, _⟩ := I.tuple hb
  by_cases hx : xs = []
  · subst hx
    cases r1
    exact cat_tup0 p1 p2 ⟨.ref b, H, I, rfl, qe rfl⟩
  · refine HT.cat_tup p1 p2 (fun z => hx (r1.nil_iff.mp z)) (fun z => ⟨.ref a, H, I, rfl, q1 hx (r2.nil_iff.mp z)⟩) (fun z => ?_) (by rw [← r1.length, ← r2.length]; exact hsz)
    exact ⟨.ref s.heap.objs.size, _, I.laid (t' := s.toks) (fun b ob q => Heap.get?_push_of_some _ q) (Nat.le_refl _) (tupF_ok (by rw [List.length_append]; exact hsz) (r1.append r2)), rfl, q2 hx (fun w => z (r2.nil_iff.mpr w)) _ _ rfl (I.hok.fresh (Nat.le_refl _))⟩
def rSlF (K : PySem.W.Frag) : V → Option Int → Option Int → Hp → VK → Prop := fun x lo hi H Qv => ∃ a xs, x = .ref a ∧ SqT K H a xs ∧
  (HT.sIx xs.length 0 lo = 0 ∧ HT.sIx xs.length xs.length hi = xs.length → Qv (.ref a) H) ∧ (¬ (HT.sIx xs.length 0 lo = 0 ∧ HT.sIx xs.length xs.length hi = xs.length) → ∀ (o : Obj) p, o.dict = none → H p = none → Qv (.ref p) (upd H p (.frz o (.tup (cutV xs lo hi)))))
theorem sl_tupF : SlR X (rSlF X.K) := by
  intro pns s σ H x v vl vu lo hi sl Qv I rx hs plo pu h
  obtain ⟨a, xs, rfl, hx, q1, q2⟩ := h
  cases rx
  obtain ⟨tv, r, htp, hsz⟩ := I.tuple hx
  have hle : tv.toArray.size = xs.length := by rw [List.size_toArray]; exact r.length.symm
  refine ⟨"tuple", _, PyProof.Rows.slot_tuple_getitem.lookup, htp.typeIs, ?_⟩
  by_cases hwh : HT.sIx xs.length 0 lo = 0 ∧ HT.sIx xs.length xs.length hi = xs.length
  · exact getItem_tuple_whole htp hs plo pu (by rw [hle]; exact hwh) ⟨.ref a, H, I, rfl, q1 hwh⟩
  · refine HT.getItem_tuple_cut htp hs plo pu (by rw [hle]; exact hwh) ?_ (by rw [hle]; exact hsz)
    rw [hle]
    exact ⟨.ref s.heap.objs.size, _, I.laid (t' := s.toks) (fun b ob q => Heap.get?_push_of_some _ q) (Nat.le_refl _) (tupF_ok (Nat.le_trans (cutV_length xs lo hi) hsz) ((r.drop (HT.sIx xs.length 0 lo)).take (HT.sIx xs.length xs.length hi - HT.sIx xs.length 0 lo))), rfl, q2 hwh _ _ rfl (I.hok.fresh (Nat.le_refl _))⟩
end
end Z
namespace Z
open PySem PySem.Spec L2

/-! ## what is reckoned on data; none where nothing is known -/
/-- a text of the program -/
abbrev S (s : String) : D := .str (Str.ofString s)
def pAdd : D → D → Option D
  | .int i, .int j => some (.int (i + j))
  | .str x, .str y => if x.length + y.length ≤ sizeLine then some (.str (x ++ y)) else none
  | .tuple xs, .tuple ys => if xs.length + ys.length ≤ sizeLine then some (.tuple (xs ++ ys)) else none
  | .list xs, .list ys => if xs.length + ys.length ≤ sizeLine then some (.list (xs ++ ys)) else none
  | _, _ => none
def pSub : D → D → Option D
  | .int i, .int j => some (.int (i - j))
  | _, _ => none
instance (i j : Int) : Decidable (CMulX i j) := inferInstanceAs (Decidable (_ ≤ (134217728 : Int)))
instance (i j : Int) : Decidable (CDivW i j) := inferInstanceAs (Decidable (_ ∧ _))
instance (i j : Int) : Decidable (CPow i j) := inferInstanceAs (Decidable (_ ∧ _))
def pMul : D → D → Option D
  | .int i, .int j => if CMulX i j then some (.int (i * j)) else none
  | _, _ => none
def pFdiv : D → D → Option D
  | .int i, .int j => if CDivW i j then some (.int (i / j)) else none
  | _, _ => none
def pMod : D → D → Option D
  | .int i, .int j => if 0 < j then some (.int (i % j)) else none
  | _, _ => none
def pPow : D → D → Option D
  | .int i, .int j => if CPow i j then some (.int (i ^ j.toNat)) else none
  | _, _ => none
def pNeg : D → Option D
  | .int i => some (.int (-i))
  | _ => none
/-- how deep the two are asked -/
def dOk (x y : D) : Bool := decide (min x.depth y.depth ≤ 100)
def pEq (x y : D) : Option D := if dOk x y = true then some (.bool (PyData.eqv x y)) else none
def pNe (x y : D) : Option D := if dOk x y = true then some (.bool (!PyData.eqv x y)) else none
def notNone : D → Bool
  | .none => false
  | _ => true
def ltOk (x y : D) : Bool := PySem.W.alike x y && notNone x && dOk x y
def pLt (x y : D) : Option D := if ltOk x y = true then some (.bool (PySem.W.dataLt x y)) else none
def pGt (x y : D) : Option D := if ltOk x y = true then some (.bool (PySem.W.dataLt y x)) else none
def pLe (x y : D) : Option D := if ltOk x y = true then some (.bool (!PySem.W.dataLt y x)) else none
def pGe (x y : D) : Option D := if ltOk x y = true then some (.bool (!PySem.W.dataLt x y)) else none
/-- a text within a text -/
def inStr (i j : Str) : Bool := !(Builtin.Str.occurrences j i 0 j.length 1).isEmpty
def pIn : D → D → Option D
  | x, .list xs => if dOk x (.list xs) = true then some (.bool (xs.any fun z => PyData.eqv z x)) else none
  | x, .tuple xs => if dOk x (.tuple xs) = true then some (.bool (xs.any fun z => PyData.eqv z x)) else none
  | .str i, .str j => some (.bool (inStr i j))
  | _, _ => none
def pNotIn : D → D → Option D
  | x, .list xs => if dOk x (.list xs) = true then some (.bool (!xs.any fun z => PyData.eqv z x)) else none
  | x, .tuple xs => if dOk x (.tuple xs) = true then some (.bool (!xs.any fun z => PyData.eqv z x)) else none
  | .str i, .str j => some (.bool (!inStr i j))
  | _, _ => none
/-- x is None, x is True, x is False -/
def isB (x : D) : D → Option Bool
  | .none => some (match x with | .none => true | _ => false)
  | .bool b => some (match x with | .bool c => b == c | _ => false)
  | _ => none
def pIs (x y : D) : Option D := (isB x y).map .bool
def pIsNot (x y : D) : Option D := (isB x y).map fun b => .bool (!b)
def pIdx : D → D → Option D
  | .list xs, .int i => atI xs i
  | .tuple xs, .int i => atI xs i
  | .str z, .int i => if z.length ≤ sizeLine then (atI z.cps.toList i).map fun c => .str ⟨#[c]⟩ else none
  | _, _ => none
def pOpt : D → Option (Option Int)
  | .int i => some (some i)
  | _ => none
def cutD (xs : List D) (lo hi : Option Int) : List D := (xs.drop (HT.sIx xs.length 0 lo)).take (HT.sIx xs.length xs.length hi - HT.sIx xs.length 0 lo)
def pSl (x : D) (lo hi : Option Int) : Option D :=
  match x with
  | .list xs => some (.list (cutD xs lo hi))
  | .tuple xs => some (.tuple (cutD xs lo hi))
  | .str z => if z.length ≤ sizeLine then some (.str (cutS z lo hi)) else none
  | _ => none
def pTru : D → Option Bool
  | .none => some false
  | .bool b => some b
  | .int n => some (n != 0)
  | .str x => if x.length ≤ sizeLine then some ((x.length : Int) != 0) else none
  | .list xs => some (!xs.isEmpty)
  | .tuple xs => some (!xs.isEmpty)
  | .dict _ => none
def pNot (x : D) : Option D := (pTru x).map fun b => .bool (!b)

/-! ## and their laws over the kit's rules, by values -/
section
variable {K : PySem.W.Frag}
/-- a two-place operation's reading serves g -/
def RS2 (K : PySem.W.Frag) (r : R2) (g : D → D → Option D) : Prop := ∀ (F H : Hp) (v u : V) (x y z : D) (Q : VK), Le F H → Rep K F v x → Rep K F u y → g x y = some z →
  (∀ w F' H', Grow F H F' H' → Rep K F' w z → Q w H') → r v u H Q
def RS1 (K : PySem.W.Frag) (r : V → Hp → VK → Prop) (g : D → Option D) : Prop := ∀ (F H : Hp) (v : V) (x z : D) (Q : VK), Le F H → Rep K F v x → g x = some z →
  (∀ w F' H', Grow F H F' H' → Rep K F' w z → Q w H') → r v H Q
theorem opr_or {X : Cx} {f : Value → Value → Sem Value} {r r' : R2} (h : OpR X f r) (h' : OpR X f r') : OpR X f (fun x y H Q => r x y H Q ∨ r' x y H Q) := by
  intro pins s σ H x y v u Q I rx ry q
  rcases q with q | q
  · exact h pins s σ H x y v u Q I rx ry q
  · exact h' pins s σ H x y v u Q I rx ry q
theorem grow_tup {F H : Hp} {p : Addr} {xs : List V} {ds : List D} {o : Obj} (ho : o.dict = none) (s : Le F H) (h : H p = none) (z : xs.length ≤ sizeLine) (r : Reps K F xs ds) : Grow F H (upd F p (.frz o (.tup xs))) (upd H p (.frz o (.tup xs))) ∧ Rep K (upd F p (.frz o (.tup xs))) (.ref p) (.tuple ds) :=
  ⟨Grow.new s h, .tup ⟨.inl ⟨o, ho, upd_same⟩, z⟩ (r.mono (Le.new (s.none h)))⟩
theorem grow_lst {F H : Hp} {p : Addr} {xs : List V} {ds : List D} (s : Le F H) (h : H p = none) (z : xs.length ≤ sizeLine) (r : Reps K F xs ds) : Grow F H (upd F p (.lst xs)) (upd H p (.lst xs)) ∧ Rep K (upd F p (.lst xs)) (.ref p) (.list ds) :=
  ⟨Grow.new s h, .lst ⟨upd_same, z⟩ (r.mono (Le.new (s.none h)))⟩


/-! ### + and the numbers -/
def rAdd (K : PySem.W.Frag) : R2 := fun x y H Q => (∃ i j, x = .int i ∧ y = .int j ∧ Q (.int (i + j)) H) ∨ (∃ i j, x = .str i ∧ y = .str j ∧ i.length + j.length ≤ sizeLine ∧ Q (.str (i ++ j)) H) ∨ rCatF K x y H Q ∨
  rCat x y H Q
theorem op_addD {X : Cx} : OpR X (binaryOp .Add) (rAdd X.K) := opr_or op_add (opr_or op_add_str (opr_or op_catF op_cat))
theorem rs_add : RS2 K (rAdd K) pAdd := by
  intro F H v u x y z Q s rx ry e q
  cases rx with
  | int i =>
    cases ry with
    | int j => simp only [pAdd, Option.some.injEq] at e; subst e; exact .inl ⟨i, j, rfl, rfl, q _ F H (Grow.refl s) (.int _)⟩
    | _ => simp [pAdd] at e
  | str i =>
    cases ry with
    | str j =>
      simp only [pAdd] at e
      split at e
      · rename_i hz
        simp only [Option.some.injEq] at e; subst e
        exact .inr (.inl ⟨i, j, rfl, rfl, hz, q _ F H (Grow.refl s) (.str _)⟩)
      · cases e
    | _ => simp [pAdd] at e
  | @tup a xs ds hx rx =>
    cases ry with
    | @tup b ys es hy ry =>
      simp only [pAdd] at e
      split at e
      · rename_i hz
        simp only [Option.some.injEq] at e; subst e
        rw [← rx.length, ← ry.length] at hz
        refine .inr (.inr (.inl ⟨a, b, xs, ys, rfl, rfl, le_t s hx.1.sq, le_t s hy.1.sq, hz, fun e => ?_, fun _ e => ?_, fun _ _ o p ho hp => ?_⟩))
        · subst e; cases rx; exact q _ F H (Grow.refl s) (.tup hy ry)
        · subst e; cases ry; rw [List.append_nil] at q; exact q _ F H (Grow.refl s) (.tup hx rx)
        · obtain ⟨g, r⟩ := grow_tup ho s hp (by rw [List.length_append]; exact hz) (rx.append ry)
          exact q _ _ _ g r
      · cases e
    | _ => simp [pAdd] at e
  | @lst a xs ds hx rx =>
    cases ry with
    | @lst b ys es hy ry =>
      simp only [pAdd] at e
      split at e
      · rename_i hz
        simp only [Option.some.injEq] at e; subst e
        rw [← rx.length, ← ry.length] at hz
        refine .inr (.inr (.inr ⟨a, b, xs, ys, rfl, rfl, s _ _ hx.1, s _ _ hy.1, hz, fun p hp => ?_⟩))
        obtain ⟨g, r⟩ := grow_lst s hp (by rw [List.length_append]; exact hz) (rx.append ry)
        exact q _ _ _ g r
      · cases e
    | _ => simp [pAdd] at e
  | _ => cases y <;> simp [pAdd] at e
theorem rs_sub : RS2 K (rI0 fun i j => .int (i - j)) pSub := by
  intro F H v u x y z Q s rx ry e q
  cases rx <;> cases ry <;> simp only [pSub, reduceCtorEq, Option.some.injEq] at e
  subst e; exact ⟨_, _, rfl, rfl, q _ F H (Grow.refl s) (.int _)⟩
theorem rs_I {C : Int → Int → Prop} [∀ i j, Decidable (C i j)] {f : Int → Int → Int} {g : D → D → Option D} (h1 : ∀ i j, g (.int i) (.int j) = if C i j then some (.int (f i j)) else none)
    (h2 : ∀ x y z, g x y = some z → ∃ i j, x = .int i ∧ y = .int j) : RS2 K (rI C fun i j => .int (f i j)) g := by
  intro F H v u x y z Q s rx ry e q
  obtain ⟨i, j, rfl, rfl⟩ := h2 x y z e
  cases rx; cases ry
  rw [h1] at e
  split at e
  · rename_i hc
    cases e
    exact ⟨i, j, rfl, rfl, hc, q _ F H (Grow.refl s) (.int _)⟩
  · cases e
theorem rs_mul : RS2 K (rI CMulX fun i j => .int (i * j)) pMul := rs_I (fun _ _ => rfl) fun x y z e => by cases x <;> cases y <;> first | exact ⟨_, _, rfl, rfl⟩ | simp [pMul] at e
theorem rs_fdiv : RS2 K (rI CDivW fun i j => .int (i / j)) pFdiv := rs_I (fun _ _ => rfl) fun x y z e => by cases x <;> cases y <;> first | exact ⟨_, _, rfl, rfl⟩ | simp [pFdiv] at e
theorem rs_mod : RS2 K (rI (fun _ j => 0 < j) fun i j => .int (i % j)) pMod := rs_I (C := fun _ j => 0 < j) (fun _ _ => rfl) fun x y z e => by cases x <;> cases y <;> first | exact ⟨_, _, rfl, rfl⟩ | simp [pMod] at e
theorem rs_pow : RS2 K (rI CPow fun i j => .int (i ^ j.toNat)) pPow := rs_I (fun _ _ => rfl) fun x y z e => by cases x <;> cases y <;> first | exact ⟨_, _, rfl, rfl⟩ | simp [pPow] at e
theorem rs_neg : RS1 K (rU fun i => .int (-i)) pNeg := by
  intro F H v x z Q s rx e q
  cases rx <;> simp only [pNeg, reduceCtorEq, Option.some.injEq] at e
  subst e; exact ⟨_, rfl, q _ F H (Grow.refl s) (.int _)⟩

/-! ### comparisons, over what the library reads off the heap -/
/-- a reading by data alone -/
def rDD (K : PySem.W.Frag) (g : D → D → Option Bool) : R2 := fun v u H Q => ∃ x y b, Rep K H v x ∧ Rep K H u y ∧ g x y = some b ∧ Q (.bl b) H
theorem rs_DD {g : D → D → Option Bool} {g' : D → D → Option D} (h : ∀ x y, g' x y = (g x y).map .bool) : RS2 K (rDD K g) g' := by
  intro F H v u x y z Q s rx ry e q
  rw [h] at e
  cases hg : g x y with
  | none => rw [hg] at e; cases e
  | some b =>
    rw [hg] at e
    simp only [Option.map_some, Option.some.injEq] at e
    subst e
    exact ⟨x, y, b, rx.mono s, ry.mono s, hg, q _ F H (Grow.refl s) (.bl b)⟩
variable {X : Cx}
theorem opr_DD {f : Value → Value → Sem Value} {g : D → D → Option Bool} (hu : X.A.units + 200 < cLine)
    (h : ∀ (s : Shared) (a b : Value) (x y : D) (as bs : List Addr) (c : Bool) (Q : Value → Shared → Prop), Reads s.heap a x as → Reads s.heap b y bs → x.plain = true → y.plain = true → g x y = some c → Q (.bool c) s →
      wpAny (model X.prog X.w) X.A (f a b) Q X.xe s) : OpR X f (rDD X.K g) := by
  intro pins s σ H v u a b Q I ra rb hq
  obtain ⟨x, y, c, rx, ry, e, q⟩ := hq
  obtain ⟨as, r1⟩ := Dp.reads I x v a rx.dp ra
  obtain ⟨bs, r2⟩ := Dp.reads I y u b ry.dp rb
  exact h s a b x y as bs c _ r1 r2 rx.plain ry.plain e ⟨.bl c, H, I, rfl, q⟩
theorem dOk_units {A : Around} {x y : D} (hu : A.units + 200 < cLine) (h : dOk x y = true) : A.units + min x.depth y.depth < cLine := by
  have := of_decide_eq_true h
  omega
def bEq (x y : D) : Option Bool := if dOk x y = true then some (PyData.eqv x y) else none
def bNe (x y : D) : Option Bool := if dOk x y = true then some (!PyData.eqv x y) else none
def bLt (x y : D) : Option Bool := if ltOk x y = true then some (PySem.W.dataLt x y) else none
def bGt (x y : D) : Option Bool := if ltOk x y = true then some (PySem.W.dataLt y x) else none
def bLe (x y : D) : Option Bool := if ltOk x y = true then some (!PySem.W.dataLt y x) else none
def bGe (x y : D) : Option Bool := if ltOk x y = true then some (!PySem.W.dataLt x y) else none
theorem rs_eq : RS2 K (rDD K bEq) pEq := rs_DD fun x y => by unfold pEq bEq; split <;> rfl
theorem rs_ne : RS2 K (rDD K bNe) pNe := rs_DD fun x y => by unfold pNe bNe; split <;> rfl
theorem rs_lt : RS2 K (rDD K bLt) pLt := rs_DD fun x y => by unfold pLt bLt; split <;> rfl
theorem rs_gt : RS2 K (rDD K bGt) pGt := rs_DD fun x y => by unfold pGt bGt; split <;> rfl
theorem rs_le : RS2 K (rDD K bLe) pLe := rs_DD fun x y => by unfold pLe bLe; split <;> rfl
theorem rs_ge : RS2 K (rDD K bGe) pGe := rs_DD fun x y => by unfold pGe bGe; split <;> rfl
theorem op_eqZ (hu : X.A.units + 200 < cLine) : OpR X (compareOp .Eq) (rDD X.K bEq) := opr_DD hu fun s a b x y as bs c Q ra rb px py e q => by
  unfold bEq at e
  split at e
  · rename_i hd; cases e; exact SeqAt.eq_plain ra rb px py (dOk_units hu hd) q
  · cases e
theorem op_neZ (hu : X.A.units + 200 < cLine) : OpR X (compareOp .NotEq) (rDD X.K bNe) := opr_DD hu fun s a b x y as bs c Q ra rb px py e q => by
  unfold bNe at e
  split at e
  · rename_i hd; cases e; exact SeqAt.ne_plain ra rb px py (dOk_units hu hd) q
  · cases e
theorem ltOk_ok {A : Around} {x y : D} (hu : A.units + 200 < cLine) (h : ltOk x y = true) : PySem.W.alike x y = true ∧ x ≠ .none ∧ A.units + min x.depth y.depth < cLine := by
  unfold ltOk at h
  simp only [Bool.and_eq_true] at h
  exact ⟨h.1.1, fun e => by subst e; simp [notNone] at h, dOk_units hu h.2⟩
theorem op_ltZ (hu : X.A.units + 200 < cLine) : OpR X (compareOp .Lt) (rDD X.K bLt) := opr_DD hu fun s a b x y as bs c Q ra rb px py e q => by
  unfold bLt at e
  split at e
  · rename_i hd; cases e; obtain ⟨h1, h2, h3⟩ := ltOk_ok hu hd; exact PySem.W.lt_data ra rb h1 h2 h3 q
  · cases e
theorem op_gtZ (hu : X.A.units + 200 < cLine) : OpR X (compareOp .Gt) (rDD X.K bGt) := opr_DD hu fun s a b x y as bs c Q ra rb px py e q => by
  unfold bGt at e
  split at e
  · rename_i hd; cases e; obtain ⟨h1, h2, h3⟩ := ltOk_ok hu hd; exact PySem.W.gt_data ra rb h1 h2 h3 q
  · cases e
theorem op_leZ (hu : X.A.units + 200 < cLine) : OpR X (compareOp .LtE) (rDD X.K bLe) := opr_DD hu fun s a b x y as bs c Q ra rb px py e q => by
  unfold bLe at e
  split at e
  · rename_i hd; cases e; obtain ⟨h1, h2, h3⟩ := ltOk_ok hu hd; exact PySem.W.le_data ra rb h1 h2 h3 q
  · cases e
theorem op_geZ (hu : X.A.units + 200 < cLine) : OpR X (compareOp .GtE) (rDD X.K bGe) := opr_DD hu fun s a b x y as bs c Q ra rb px py e q => by
  unfold bGe at e
  split at e
  · rename_i hd; cases e; obtain ⟨h1, h2, h3⟩ := ltOk_ok hu hd; exact PySem.W.ge_data ra rb h1 h2 h3 q
  · cases e

/-! ### in, is -/
def bIn (x c : D) : Option Bool := match c with
  | .list xs => if dOk x (.list xs) = true then some (xs.any fun z => PyData.eqv z x) else none
  | .tuple xs => if dOk x (.tuple xs) = true then some (xs.any fun z => PyData.eqv z x) else none
  | _ => none
theorem in_units {A : Around} {x : D} {n : Nat} (hu : A.units + 200 < cLine) (h : min x.depth (n + 1) ≤ 100) : A.units + 1 + min n x.depth < cLine := by
  omega
theorem op_inZ (hu : X.A.units + 200 < cLine) : OpR X (compareOp .In) (rDD X.K bIn) := opr_DD hu fun s a b x y as bs c Q ra rb px py e q => by
  unfold bIn at e
  split at e
  · split at e
    · rename_i xs hd; cases e; exact SeqAt.in_list_data rb ra (by simpa [PyData.plain] using py) px (in_units hu (by have := of_decide_eq_true hd; simpa [PyData.depth] using this)) q
    · cases e
  · split at e
    · rename_i xs hd; cases e; exact SeqAt.in_tuple_data rb ra (by simpa [PyData.plain] using py) px (in_units hu (by have := of_decide_eq_true hd; simpa [PyData.depth] using this)) q
    · cases e
  · cases e
theorem op_notInZ (hu : X.A.units + 200 < cLine) : OpR X (compareOp .NotIn) (rDD X.K fun x y => (bIn x y).map (!·)) := opr_DD hu fun s a b x y as bs c Q ra rb px py e q => by
  unfold bIn at e
  split at e
  · split at e
    · rename_i xs hd; cases e; exact SeqAt.notIn_list_data rb ra (by simpa [PyData.plain] using py) px (in_units hu (by have := of_decide_eq_true hd; simpa [PyData.depth] using this)) q
    · cases e
  · split at e
    · rename_i xs hd; cases e; exact SeqAt.notIn_tuple_data rb ra (by simpa [PyData.plain] using py) px (in_units hu (by have := of_decide_eq_true hd; simpa [PyData.depth] using this)) q
    · cases e
  · cases e
def rInA (K : PySem.W.Frag) : R2 := fun x y H Q => rDD K bIn x y H Q ∨ ∃ i j, x = .str i ∧ y = .str j ∧ Q (.bl (inStr i j)) H
def rNotInA (K : PySem.W.Frag) : R2 := fun x y H Q => rDD K (fun x y => (bIn x y).map (!·)) x y H Q ∨ ∃ i j, x = .str i ∧ y = .str j ∧ Q (.bl (!inStr i j)) H
theorem op_inA (hu : X.A.units + 200 < cLine) : OpR X (compareOp .In) (rInA X.K) := opr_or (op_inZ hu) fun pins s σ H x y v u Q I rx ry h => by
  obtain ⟨i, j, rfl, rfl, q⟩ := h
  exact op_in_str pins s σ H _ _ v u Q I rx ry ⟨i, j, rfl, rfl, q⟩
theorem op_notInA (hu : X.A.units + 200 < cLine) : OpR X (compareOp .NotIn) (rNotInA X.K) := opr_or (op_notInZ hu) fun pins s σ H x y v u Q I rx ry h => by
  obtain ⟨i, j, rfl, rfl, q⟩ := h
  refine op_notIn_str pins s σ H _ _ v u Q I rx ry ⟨i, j, rfl, rfl, ?_⟩
  simpa [inStr] using q
theorem rs_in : RS2 K (rInA K) pIn := by
  intro F H v u x y z Q s rx ry e q
  have key : ∀ b, bIn x y = some b → z = .bool b → rInA K v u H Q := fun b h1 h2 => by
    subst h2
    exact .inl ⟨x, y, b, rx.mono s, ry.mono s, h1, q _ F H (Grow.refl s) (.bl b)⟩
  cases ry with
  | lst hy r =>
    simp only [pIn] at e
    split at e
    · rename_i hd; cases e; exact key _ (by simp only [bIn, hd, if_true]) rfl
    · cases e
  | tup hy r =>
    simp only [pIn] at e
    split at e
    · rename_i hd; cases e; exact key _ (by simp only [bIn, hd, if_true]) rfl
    · cases e
  | str j =>
    cases rx with
    | str i => simp only [pIn, Option.some.injEq] at e; subst e; exact .inr ⟨i, j, rfl, rfl, q _ F H (Grow.refl s) (.bl _)⟩
    | _ => simp [pIn] at e
  | _ => cases x <;> simp [pIn] at e
theorem rs_notIn : RS2 K (rNotInA K) pNotIn := by
  intro F H v u x y z Q s rx ry e q
  have key : ∀ b, bIn x y = some b → z = .bool (!b) → rNotInA K v u H Q := fun b h1 h2 => by
    subst h2
    exact .inl ⟨x, y, !b, rx.mono s, ry.mono s, by show (bIn x y).map (!·) = _; rw [h1]; rfl, q _ F H (Grow.refl s) (.bl _)⟩
  cases ry with
  | lst hy r =>
    simp only [pNotIn] at e
    split at e
    · rename_i hd; cases e; exact key _ (by simp only [bIn, hd, if_true]) rfl
    · cases e
  | tup hy r =>
    simp only [pNotIn] at e
    split at e
    · rename_i hd; cases e; exact key _ (by simp only [bIn, hd, if_true]) rfl
    · cases e
  | str j =>
    cases rx with
    | str i => simp only [pNotIn, Option.some.injEq] at e; subst e; exact .inr ⟨i, j, rfl, rfl, q _ F H (Grow.refl s) (.bl _)⟩
    | _ => simp [pNotIn] at e
  | _ => cases x <;> simp [pNotIn] at e
/-- is, against None, True, False -/
def vB : V → V → Option Bool
  | x, .non => some (decide (x = .non))
  | x, .bl b => some (decide (x = .bl b))
  | _, _ => none
def rIsV : R2 := fun x y H Q => ∃ b, vB x y = some b ∧ Q (.bl b) H
def rIsNotV : R2 := fun x y H Q => ∃ b, vB x y = some b ∧ Q (.bl (!b)) H
theorem plainIs_bool {v : V} {a : Value} {b : Bool} (r : RelV v a) : plainIs a (.bool b) = true ∧ ((a == .bool b) = decide (v = .bl b)) := by
  cases v with
  | non => cases r; exact ⟨rfl, rfl⟩
  | bl c => cases r; refine ⟨rfl, ?_⟩; cases c <;> cases b <;> rfl
  | int _ => obtain ⟨t, rfl⟩ := r; exact ⟨rfl, rfl⟩
  | str _ => obtain ⟨t, rfl⟩ := r; exact ⟨rfl, rfl⟩
  | byt _ => obtain ⟨t, rfl⟩ := r; exact ⟨rfl, rfl⟩
  | flt _ => obtain ⟨t, rfl⟩ := r; exact ⟨rfl, rfl⟩
  | ref _ => cases r; exact ⟨rfl, rfl⟩
  | ty _ => cases r; exact ⟨rfl, rfl⟩
theorem op_isV : OpR X (compareOp .Is) rIsV := by
  intro pins s σ H x y v u Q I rx ry h
  obtain ⟨b, e, q⟩ := h
  cases y with
  | non => cases ry; cases e; exact PyProof.Rows.is_none_gen ⟨.bl _, H, I, by rw [rx.none_iff]; rfl, q⟩
  | bl c =>
    cases ry; cases e
    obtain ⟨h1, h2⟩ := plainIs_bool (b := c) rx
    exact wpAny_is_plain h1 ⟨.bl _, H, I, by rw [h2]; rfl, q⟩
  | _ => cases e
theorem op_isNotV : OpR X (compareOp .IsNot) rIsNotV := by
  intro pins s σ H x y v u Q I rx ry h
  obtain ⟨b, e, q⟩ := h
  cases y with
  | non => cases ry; cases e; exact PyProof.Rows.isnot_none_gen ⟨.bl _, H, I, by rw [rx.none_iff]; rfl, q⟩
  | bl c =>
    cases ry; cases e
    obtain ⟨h1, h2⟩ := plainIs_bool (b := c) rx
    exact wpAny_isNot_plain h1 ⟨.bl _, H, I, by rw [h2]; rfl, q⟩
  | _ => cases e
theorem isB_V {F : Hp} {v u : V} {x y : D} {b : Bool} (rx : Rep K F v x) (ry : Rep K F u y) (e : isB x y = some b) : vB v u = some b := by
  cases ry <;> simp only [isB, Option.some.injEq, reduceCtorEq] at e
  · subst e; cases rx <;> rfl
  · subst e
    rename_i c
    cases rx with
    | bl d => cases c <;> cases d <;> rfl
    | _ => rfl
theorem rs_is : RS2 K rIsV pIs := by
  intro F H v u x y z Q s rx ry e q
  unfold pIs at e
  cases hb : isB x y with
  | none => rw [hb] at e; cases e
  | some b => rw [hb] at e; cases e; exact ⟨b, isB_V rx ry hb, q _ F H (Grow.refl s) (.bl b)⟩
theorem rs_isNot : RS2 K rIsNotV pIsNot := by
  intro F H v u x y z Q s rx ry e q
  unfold pIsNot at e
  cases hb : isB x y with
  | none => rw [hb] at e; cases e
  | some b => rw [hb] at e; cases e; exact ⟨b, isB_V rx ry hb, q _ F H (Grow.refl s) (.bl _)⟩

/-! ### x[i], x[a:b] -/
theorem atI_reps {F : Hp} {vs : List V} {ds : List D} {i : Int} {d : D} (r : Reps K F vs ds) (e : atI ds i = some d) : ∃ v, atI vs i = some v ∧ Rep K F v d := by
  unfold atI at e ⊢
  rw [r.length]
  cases hj : ixN ds.length i with
  | none => rw [hj] at e; cases e
  | some j =>
    rw [hj] at e
    exact r.get e
def rIxA (K : PySem.W.Frag) : R2 := fun x y H Q => rIxL K x y H Q ∨ rIxT K x y H Q ∨ rIxS x y H Q
theorem ix_all : IxR X (rIxA X.K) := ix_list.or (ix_tup.or ix_str)
theorem rs_ix : RS2 K (rIxA K) pIdx := by
  intro F H v u x y z Q s rx ry e q
  cases ry with
  | int i =>
    cases rx with
    | lst h r =>
      obtain ⟨w, e1, rw'⟩ := atI_reps r (by simpa [pIdx] using e)
      exact .inl ⟨_, _, i, w, rfl, rfl, .of (s _ _ h.1), e1, q _ F H (Grow.refl s) rw'⟩
    | tup h r =>
      obtain ⟨w, e1, rw'⟩ := atI_reps r (by simpa [pIdx] using e)
      exact .inr (.inl ⟨_, _, i, w, rfl, rfl, le_t s h.1.sq, e1, q _ F H (Grow.refl s) rw'⟩)
    | str y =>
      simp only [pIdx] at e
      split at e
      · rename_i hz
        cases hc : atI y.cps.toList i with
        | none => rw [hc] at e; cases e
        | some c => rw [hc] at e; cases e; exact .inr (.inr ⟨y, i, c, rfl, rfl, hz, hc, q _ F H (Grow.refl s) (.str _)⟩)
      · cases e
    | _ => simp [pIdx] at e
  | _ => cases x <;> simp [pIdx] at e
def RSl (K : PySem.W.Frag) (r : V → Option Int → Option Int → Hp → VK → Prop) (g : D → Option Int → Option Int → Option D) : Prop := ∀ (F H : Hp) (v : V) (x z : D) (lo hi : Option Int) (Q : VK), Le F H → Rep K F v x → g x lo hi = some z →
  (∀ w F' H', Grow F H F' H' → Rep K F' w z → Q w H') → r v lo hi H Q
theorem cut_reps {F : Hp} {vs : List V} {ds : List D} (r : Reps K F vs ds) (lo hi : Option Int) : Reps K F (cutV vs lo hi) (cutD ds lo hi) := by
  unfold cutV cutD
  rw [r.length]
  exact (r.drop _).take _
def rSlAll (K : PySem.W.Frag) : V → Option Int → Option Int → Hp → VK → Prop := fun x lo hi H Q => rSlL K x lo hi H Q ∨ rSlF K x lo hi H Q ∨ rSlS x lo hi H Q
theorem sl_all : SlR X (rSlAll X.K) := sl_list.or (sl_tupF.or sl_str)
theorem rs_sl : RSl K (rSlAll K) pSl := by
  intro F H v x z lo hi Q s rx e q
  cases rx with
  | lst h r =>
    cases e
    refine .inl ⟨_, _, rfl, .of (s _ _ h.1), fun p hp => ?_⟩
    obtain ⟨g, r'⟩ := grow_lst s hp (Nat.le_trans (cutV_length _ lo hi) h.2) (cut_reps r lo hi)
    exact q _ _ _ g r'
  | @tup a vs ds h r =>
    cases e
    refine .inr (.inl ⟨_, _, rfl, le_t s h.1.sq, fun hw => ?_, fun hw o p ho hp => ?_⟩)
    · have e1 : cutD ds lo hi = ds := by
        rw [r.length] at hw
        unfold cutD
        rw [hw.1, hw.2]
        simp
      rw [e1] at q
      exact q _ F H (Grow.refl s) (.tup h r)
    · obtain ⟨g, r'⟩ := grow_tup ho s hp (Nat.le_trans (cutV_length _ lo hi) h.2) (cut_reps r lo hi)
      exact q _ _ _ g r'
  | str y =>
    simp only [pSl] at e
    split at e
    · rename_i hz; cases e; exact .inr (.inr ⟨y, rfl, hz, q _ F H (Grow.refl s) (.str _)⟩)
    · cases e
  | _ => simp [pSl] at e

/-! ### truth -/
theorem isEmpty_reps {F : Hp} {vs : List V} {ds : List D} (r : Reps K F vs ds) : vs.isEmpty = ds.isEmpty := by cases r <;> rfl
theorem tru_v {F H : Hp} {v : V} {x : D} {k : Bool} (s : Le F H) (r : Rep K F v x) (e : pTru x = some k) : TruV K v H k := by
  cases r with
  | non => simp only [pTru, Option.some.injEq] at e; exact e.symm
  | bl b => simp only [pTru, Option.some.injEq] at e; exact e.symm
  | int i => simp only [pTru, Option.some.injEq] at e; exact e.symm
  | str y =>
    simp only [pTru] at e
    split at e
    · rename_i hz; exact ⟨hz, (Option.some.inj e).symm⟩
    · cases e
  | lst h r => simp only [pTru, Option.some.injEq] at e; exact .inl ⟨_, .of (s _ _ h.1), by rw [isEmpty_reps r]; exact e.symm⟩
  | tup h r => simp only [pTru, Option.some.injEq] at e; exact .inr (.inl ⟨_, le_t s h.1.sq, by rw [isEmpty_reps r]; exact e.symm⟩)
end
end Z
namespace Z
open PySem PySem.Spec L2

theorem _root_.L2.PE.weak {X : Cx} {e : Expr} {t t' : TE} (h : PE X e t) (w : ∀ σ H Q, t' σ H Q → t σ H Q) : PE X e t' := ⟨fun p s σ H Q I q => h.run p s σ H Q I (w σ H Q q)⟩
theorem _root_.L2.PT.weak {X : Cx} {e : Expr} {t t' : TT} (h : PT X e t) (w : ∀ σ H Q, t' σ H Q → t σ H Q) : PT X e t' := ⟨fun p s σ H Q I q => h.run p s σ H Q I (w σ H Q q)⟩
theorem _root_.L2.PW.weak {X : Cx} {e : Expr} {t t' : TT} (h : PW X e t) (w : ∀ σ H Q, t' σ H Q → t σ H Q) : PW X e t' := ⟨fun wh p s σ H Q I q => h.run wh p s σ H Q I (w σ H Q q)⟩
theorem _root_.L2.PA.weak {X : Cx} {e : List Expr} {t t' : TA} (h : PA X e t) (w : ∀ σ H Q, t' σ H Q → t σ H Q) : PA X e t' := ⟨fun ps p s σ H Q I q => h.run ps p s σ H Q I (w σ H Q q)⟩
theorem _root_.L2.PS.weak {X : Cx} {e : Stmt} {t t' : TS} (h : PS X e t) (w : ∀ D σ H, t' D σ H → t D σ H) : PS X e t' := ⟨fun p s σ H D I q => h.run p s σ H D I (w D σ H q)⟩
theorem _root_.L2.PSs.weak {X : Cx} {e : List Stmt} {t t' : TS} (h : PSs X e t) (w : ∀ D σ H, t' D σ H → t D σ H) : PSs X e t' := ⟨fun p s σ H D I q => h.run p s σ H D I (w D σ H q)⟩

/-! ### what stands still in a block: its slots, the names it sees, the global ones, the ones it stores -/
def dund (x : Str) : Bool := !(x == ("__debug__" : Str)) && !(x == ("__classdict__" : Str)) && !decide (x = ("__name__" : Str))
def visC (sc : Scope) (x : Str) : Bool := match sc.names.lookup x with | some .local => true | some .cell => true | some .free => true | _ => false
def glC (sc : Scope) (x : Str) : Bool := match sc.names.lookup x with | some .globalImplicit => true | _ => false
def stOk (N W G : List Str) (sc : Scope) : Bool := decide N.Nodup && (W.all fun x => visC sc x && dund x) && (G.all fun x => glC sc x && dund x)
/-- the module at work -/
structure ME where
  prog : Program
  w : World
  K : PySem.W.Frag
  mg : Str → Option Value
  base : Heap
structure MX (X : Cx) (E : ME) : Prop where
  prog : X.prog = E.prog
  w : X.w = E.w
  K : X.K = E.K
  mg : X.mg = E.mg
  base : X.base = E.base
structure LX (X : Cx) (E : ME) (kk : Nat) (N W G Sl : List Str) (sc : Scope) : Prop where
  mx : MX X E
  rm : Room kk X.A
  n : X.N = N
  scp : X.env.scope = sc
  calm : X.calm = true
  st : stOk N W G sc = true
  sto : ∀ x ∈ Sl, Loc X.env.scope x ∧ (X.fn x = true ∨ X.env.scope.names.lookup x = some .local)
  po : PassesOwn (model X.prog X.w) X.A X.env X.xe
section
variable {X : Cx} {E : ME} {kk : Nat} {N W G Sl : List Str} {sc : Scope}
theorem LX.un (L : LX X E kk N W G Sl sc) : X.A.units + 200 < cLine := by have := L.rm.un; omega
theorem LX.nd (L : LX X E kk N W G Sl sc) : X.N.Nodup := by
  have h := L.st
  unfold stOk at h
  simp only [Bool.and_eq_true] at h
  rw [L.n]
  exact of_decide_eq_true h.1.1
theorem LX.vis (L : LX X E kk N W G Sl sc) {x : Str} (hx : x ∈ W) : Vis X.env.scope x ∧ dund x = true := by
  have h := L.st
  unfold stOk at h
  simp only [Bool.and_eq_true, List.all_eq_true] at h
  obtain ⟨h1, h2⟩ := h.1.2 x hx
  refine ⟨?_, h2⟩
  rw [L.scp]
  unfold visC at h1
  unfold Vis
  split at h1
  · rename_i e; exact .inl e
  · rename_i e; exact .inr (.inl e)
  · rename_i e; exact .inr (.inr e)
  · cases h1
theorem LX.gl (L : LX X E kk N W G Sl sc) {x : Str} (hx : x ∈ G) : Gl X x ∧ dund x = true := by
  have h := L.st
  unfold stOk at h
  simp only [Bool.and_eq_true, List.all_eq_true] at h
  obtain ⟨h1, h2⟩ := h.2 x hx
  refine ⟨?_, h2⟩
  show X.env.scope.names.lookup x = _
  rw [L.scp]
  unfold glC at h1
  split at h1
  · rename_i e; exact e
  · cases h1
theorem dund1 {x : Str} (h : dund x = true) : (x == ("__debug__" : Str)) = false ∧ (x == ("__classdict__" : Str)) = false ∧ x ≠ ("__name__" : Str) := by
  unfold dund at h
  simp only [Bool.and_eq_true, Bool.not_eq_true', decide_eq_false_iff_not] at h
  exact ⟨h.1.1, h.1.2, h.2⟩
end

/-! ## expressions that leave what is owned as it is -/
def tX {A : Type} (K : PySem.W.Frag) (Γ : List Ent) (m : Option A) (val : A → D) : TE := fun σ H Q => ∃ F O x, At K F O σ H Γ ∧ m = some x ∧ ∀ v F' H', Grow F H F' H' → Rep K F' v (val x) → Q v H'
abbrev EX (X : Cx) (Γ : List Ent) (e : Expr) (m : Option D) : Prop := PE X e (tX X.K Γ m id)
def tTX (K : PySem.W.Frag) (Γ : List Ent) (m : Option Bool) : TT := fun σ H Q => ∃ F O b, At K F O σ H Γ ∧ m = some b ∧ ∀ F' H', Grow F H F' H' → Q b H'
abbrev TX (X : Cx) (Γ : List Ent) (e : Expr) (m : Option Bool) : Prop := PT X e (tTX X.K Γ m)
abbrev WX (X : Cx) (Γ : List Ent) (e : Expr) (m : Option Bool) : Prop := PW X e (tTX X.K Γ m)
def tAX {A : Type} (K : PySem.W.Frag) (Γ : List Ent) (n : Nat) (k : List D → Option A) (m : Option A) : TA := fun σ H Q => ∃ F O r, At K F O σ H Γ ∧ m = some r ∧ ∀ vs xs F' H', Grow F H F' H' → Reps K F' vs xs → xs.length = n → k xs = some r → Q vs H'
abbrev AX {A : Type} (X : Cx) (Γ : List Ent) (es : List Expr) (k : List D → Option A) (m : Option A) : Prop := PA X es (tAX X.K Γ es.length k m)

theorem bind_some' {A B : Type} {m : Option A} {f : A → Option B} {z : B} (h : m.bind f = some z) : ∃ x, m = some x ∧ f x = some z := Option.bind_eq_some_iff.mp h

section
variable {X : Cx} {E : ME} {kk : Nat} {N W G Sl : List Str} {sc : Scope} {Γ : List Ent} {a b c : Expr} {ma mb mc : Option D} {x y : D} {pos : Pos}

/-! ### names and constants -/
theorem ex_var (L : LX X E kk N W G Sl sc) (i j : Nat) {n : Str} (hN : N[i]? = some n) (hW : W[j]? = some n) (hΓ : Γ[i]? = some (.fz x)) : EX X Γ (.Name n pos) (some x) := by
  obtain ⟨h1, h2⟩ := L.vis (List.mem_of_getElem? hW)
  obtain ⟨d1, d2, d3⟩ := dund1 h2
  refine (pe_var (i := i) (by rw [L.n]; exact hN) h1 d1 d2).weak fun σ H Q ⟨F, O, z, at_, e, q⟩ => ?_
  cases e
  obtain ⟨v, hv, r⟩ := at_.fz hΓ
  exact ⟨v, hv, q v F H (Grow.refl at_.sub) r⟩
theorem ex_int {i : Int} {j} : EX X Γ (.Constant (.int i) j pos) (some (.int i)) := pe_int.weak fun σ H Q ⟨F, O, z, at_, e, q⟩ => by cases e; exact q _ F H (Grow.refl at_.sub) (.int i)
theorem ex_bool {b : Bool} {j} : EX X Γ (.Constant (.bool b) j pos) (some (.bool b)) := pe_bl.weak fun σ H Q ⟨F, O, z, at_, e, q⟩ => by cases e; exact q _ F H (Grow.refl at_.sub) (.bl b)
theorem ex_none {j} : EX X Γ (.Constant .none j pos) (some .none) := pe_non.weak fun σ H Q ⟨F, O, z, at_, e, q⟩ => by cases e; exact q _ F H (Grow.refl at_.sub) .non
theorem ex_str {s : Str} {j} : EX X Γ (.Constant (.str s) j pos) (some (.str s)) := pe_str.weak fun σ H Q ⟨F, O, z, at_, e, q⟩ => by cases e; exact q _ F H (Grow.refl at_.sub) (.str s)
/-- a module's constant -/
def GConst (E : ME) (n : Str) (x : D) : Prop := ∃ (v : V) (u : Value), E.mg n = some u ∧ RelV v u ∧ ∀ F, Rep E.K F v x
theorem ex_glob (L : LX X E kk N W G Sl sc) (j : Nat) {n : Str} (hG : G[j]? = some n) (h : GConst E n x) : EX X Γ (.Name n pos) (some x) := by
  obtain ⟨h1, h2⟩ := L.gl (List.mem_of_getElem? hG)
  obtain ⟨v, u, hm, r, q⟩ := h
  rw [← L.mx.mg] at hm
  rw [← L.mx.K] at q
  exact (pe_glob h1 hm r (dund1 h2).1).weak fun σ H Q ⟨F, O, z, at_, e, k⟩ => by cases e; exact k _ F H (Grow.refl at_.sub) (q F)

/-! ### two places -/
theorem ex_op {op : Operator} {r : R2} {g : D → D → Option D} (ho : OpR X (binaryOp op) r) (hr : RS2 X.K r g) (ha : EX X Γ a ma) (hb : EX X Γ b mb) : EX X Γ (.BinOp a op b pos) (ma.bind fun x => mb.bind fun y => g x y) :=
  (pe_op ho ha hb).weak fun σ H Q ⟨F, O, z, at_, e, q⟩ => by
    obtain ⟨x, e1, e⟩ := bind_some' e
    obtain ⟨y, e2, e⟩ := bind_some' e
    exact ⟨F, O, x, at_, e1, fun v F1 H1 g1 r1 => ⟨F1, O, y, at_.grow g1, e2, fun u F2 H2 g2 r2 => hr F2 H2 v u x y z Q g2.s (r1.mono g2.f) r2 e fun w F3 H3 g3 r3 => q w F3 H3 ((g1.trans g2).trans g3) r3⟩⟩
theorem ex_op_ax {op : Operator} {r : R2} {g : D → D → Option D} (ho : OpR X (binaryOp op) r) (hr : RS2 X.K r g) (ha : EX X Γ a (some x)) (hb : EX X Γ b mb) : EX X Γ (.BinOp a op b pos) (mb.bind fun y => g x y) := ex_op ho hr ha hb
theorem ex_op_xa {op : Operator} {r : R2} {g : D → D → Option D} (ho : OpR X (binaryOp op) r) (hr : RS2 X.K r g) (ha : EX X Γ a ma) (hb : EX X Γ b (some y)) : EX X Γ (.BinOp a op b pos) (ma.bind fun x => g x y) := ex_op ho hr ha hb
theorem ex_op_aa {op : Operator} {r : R2} {g : D → D → Option D} (ho : OpR X (binaryOp op) r) (hr : RS2 X.K r g) (ha : EX X Γ a (some x)) (hb : EX X Γ b (some y)) : EX X Γ (.BinOp a op b pos) (g x y) := ex_op ho hr ha hb
theorem ex_cmp {op : CmpOp} {r : R2} {g : D → D → Option D} (ho : OpR X (compareOp op) r) (hr : RS2 X.K r g) (ha : EX X Γ a ma) (hb : EX X Γ b mb) (hm : behindInMarks op b = false) : EX X Γ (.Compare a [op] [b] pos) (ma.bind fun x => mb.bind fun y => g x y) :=
  (pe_cmpR ho ha hb hm).weak fun σ H Q ⟨F, O, z, at_, e, q⟩ => by
    obtain ⟨x, e1, e⟩ := bind_some' e
    obtain ⟨y, e2, e⟩ := bind_some' e
    exact ⟨F, O, x, at_, e1, fun v F1 H1 g1 r1 => ⟨F1, O, y, at_.grow g1, e2, fun u F2 H2 g2 r2 => hr F2 H2 v u x y z Q g2.s (r1.mono g2.f) r2 e fun w F3 H3 g3 r3 => q w F3 H3 ((g1.trans g2).trans g3) r3⟩⟩
theorem ex_cmp_ax {op : CmpOp} {r : R2} {g : D → D → Option D} (ho : OpR X (compareOp op) r) (hr : RS2 X.K r g) (ha : EX X Γ a (some x)) (hb : EX X Γ b mb) (hm : behindInMarks op b = false) : EX X Γ (.Compare a [op] [b] pos) (mb.bind fun y => g x y) := ex_cmp ho hr ha hb hm
theorem ex_cmp_xa {op : CmpOp} {r : R2} {g : D → D → Option D} (ho : OpR X (compareOp op) r) (hr : RS2 X.K r g) (ha : EX X Γ a ma) (hb : EX X Γ b (some y)) (hm : behindInMarks op b = false) : EX X Γ (.Compare a [op] [b] pos) (ma.bind fun x => g x y) := ex_cmp ho hr ha hb hm
theorem ex_cmp_aa {op : CmpOp} {r : R2} {g : D → D → Option D} (ho : OpR X (compareOp op) r) (hr : RS2 X.K r g) (ha : EX X Γ a (some x)) (hb : EX X Γ b (some y)) (hm : behindInMarks op b = false) : EX X Γ (.Compare a [op] [b] pos) (g x y) := ex_cmp ho hr ha hb hm
/-- a subscript -/
theorem ex_ix (ha : EX X Γ a ma) (hb : EX X Γ b mb) (hs : PlainIx b) : EX X Γ (.Subscript a b pos) (ma.bind fun x => mb.bind fun y => pIdx x y) :=
  (pe_ix ix_all ha hb hs).weak fun σ H Q ⟨F, O, z, at_, e, q⟩ => by
    obtain ⟨x, e1, e⟩ := bind_some' e
    obtain ⟨y, e2, e⟩ := bind_some' e
    exact ⟨F, O, x, at_, e1, fun v F1 H1 g1 r1 => ⟨F1, O, y, at_.grow g1, e2, fun u F2 H2 g2 r2 => rs_ix F2 H2 v u x y z Q g2.s (r1.mono g2.f) r2 e fun w F3 H3 g3 r3 => q w F3 H3 ((g1.trans g2).trans g3) r3⟩⟩
theorem ex_ix_ax (ha : EX X Γ a (some x)) (hb : EX X Γ b mb) (hs : PlainIx b) : EX X Γ (.Subscript a b pos) (mb.bind fun y => pIdx x y) := ex_ix ha hb hs
theorem ex_ix_xa (ha : EX X Γ a ma) (hb : EX X Γ b (some y)) (hs : PlainIx b) : EX X Γ (.Subscript a b pos) (ma.bind fun x => pIdx x y) := ex_ix ha hb hs
theorem ex_ix_aa (ha : EX X Γ a (some x)) (hb : EX X Γ b (some y)) (hs : PlainIx b) : EX X Γ (.Subscript a b pos) (pIdx x y) := ex_ix ha hb hs

/-! ### one place -/
theorem ex_neg (ha : EX X Γ a ma) : EX X Γ (.UnaryOp .USub a pos) (ma.bind pNeg) := (pe_un un_neg ha).weak fun σ H Q ⟨F, O, z, at_, e, q⟩ => by
  obtain ⟨x, e1, e⟩ := bind_some' e
  exact ⟨F, O, x, at_, e1, fun v F1 H1 g1 r1 => rs_neg F1 H1 v x z Q g1.s r1 e fun w F3 H3 g3 r3 => q w F3 H3 (g1.trans g3) r3⟩
theorem ex_neg_a (ha : EX X Γ a (some x)) : EX X Γ (.UnaryOp .USub a pos) (pNeg x) := ex_neg ha
theorem ex_not (ha : EX X Γ a ma) : EX X Γ (.UnaryOp .Not a pos) (ma.bind pNot) := (pe_notT ha).weak fun σ H Q ⟨F, O, z, at_, e, q⟩ => by
  obtain ⟨x, e1, e⟩ := bind_some' e
  unfold pNot at e
  cases hk : pTru x with
  | none => rw [hk] at e; cases e
  | some k =>
    rw [hk] at e
    cases e
    exact ⟨F, O, x, at_, e1, fun v F1 H1 g1 r1 => ⟨k, tru_v g1.s r1 hk, q _ F1 H1 g1 (.bl _)⟩⟩
theorem ex_not_a (ha : EX X Γ a (some x)) : EX X Γ (.UnaryOp .Not a pos) (pNot x) := ex_not ha

/-! ### and, or, if as values -/
theorem ex_one {op} (ha : EX X Γ a ma) : EX X Γ (.BoolOp op [a] pos) ma := pe_one ha
theorem ex_and {rest : List Expr} (ha : EX X Γ a ma) (hb : EX X Γ (.BoolOp .And (b :: rest) pos) mb) : EX X Γ (.BoolOp .And (a :: b :: rest) pos) (ma.bind fun x => (pTru x).bind fun k => if k = true then mb else some x) :=
  (pe_andT ha hb).weak fun σ H Q ⟨F, O, z, at_, e, q⟩ => by
    obtain ⟨x, e1, e⟩ := bind_some' e
    obtain ⟨k, e2, e⟩ := bind_some' e
    refine ⟨F, O, x, at_, e1, fun v F1 H1 g1 r1 => ⟨k, tru_v g1.s r1 e2, ?_⟩⟩
    cases k with
    | true => simp only [if_true] at e ⊢; exact ⟨F1, O, z, at_.grow g1, e, fun w F2 H2 g2 r2 => q w F2 H2 (g1.trans g2) r2⟩
    | false => simp only [Bool.false_eq_true, if_false, Option.some.injEq] at e ⊢; subst e; exact q v F1 H1 g1 r1
theorem ex_or {rest : List Expr} (ha : EX X Γ a ma) (hb : EX X Γ (.BoolOp .Or (b :: rest) pos) mb) : EX X Γ (.BoolOp .Or (a :: b :: rest) pos) (ma.bind fun x => (pTru x).bind fun k => if k = true then some x else mb) :=
  (pe_orT ha hb).weak fun σ H Q ⟨F, O, z, at_, e, q⟩ => by
    obtain ⟨x, e1, e⟩ := bind_some' e
    obtain ⟨k, e2, e⟩ := bind_some' e
    refine ⟨F, O, x, at_, e1, fun v F1 H1 g1 r1 => ⟨k, tru_v g1.s r1 e2, ?_⟩⟩
    cases k with
    | true => simp only [if_true, Option.some.injEq] at e ⊢; subst e; exact q v F1 H1 g1 r1
    | false => simp only [Bool.false_eq_true, if_false] at e ⊢; exact ⟨F1, O, z, at_.grow g1, e, fun w F2 H2 g2 r2 => q w F2 H2 (g1.trans g2) r2⟩
theorem ex_if {tc : Option Bool} (hc : TX X Γ c tc) (ha : EX X Γ a ma) (hb : EX X Γ b mb) : EX X Γ (.IfExp c a b pos) (tc.bind fun k => if k = true then ma else mb) :=
  (pe_ifExp hc ha hb).weak fun σ H Q ⟨F, O, z, at_, e, q⟩ => by
    obtain ⟨k, e1, e⟩ := bind_some' e
    refine ⟨F, O, k, at_, e1, fun F1 H1 g1 => ?_⟩
    cases k with
    | true => exact ⟨F1, O, z, at_.grow g1, e, fun w F2 H2 g2 r2 => q w F2 H2 (g1.trans g2) r2⟩
    | false => exact ⟨F1, O, z, at_.grow g1, e, fun w F2 H2 g2 r2 => q w F2 H2 (g1.trans g2) r2⟩

/-! ### tests -/
/-- what a comparison gives is a truth value -/
def dBool : D → Option Bool
  | .bool b => some b
  | _ => none
theorem tx_cmp {op : CmpOp} {r : R2} {g : D → D → Option D} (ho : OpR X (compareOp op) r) (hr : RS2 X.K r g) (ha : EX X Γ a ma) (hb : EX X Γ b mb) (hm : behindInMarks op b = false) : TX X Γ (.Compare a [op] [b] pos) (ma.bind fun x => mb.bind fun y => (g x y).bind dBool) :=
  (pt_cmpR ho ha hb hm).weak fun σ H Q ⟨F, O, k, at_, e, q⟩ => by
    obtain ⟨x, e1, e⟩ := bind_some' e
    obtain ⟨y, e2, e⟩ := bind_some' e
    obtain ⟨z, e3, e⟩ := bind_some' e
    have ez : z = .bool k := by cases z <;> simp [dBool] at e; rw [e]
    subst ez
    exact ⟨F, O, x, at_, e1, fun v F1 H1 g1 r1 => ⟨F1, O, y, at_.grow g1, e2, fun u F2 H2 g2 r2 => hr F2 H2 v u x y _ _ g2.s (r1.mono g2.f) r2 e3 fun w F3 H3 g3 r3 => by
      cases r3
      exact ⟨k, rfl, q F3 H3 ((g1.trans g2).trans g3)⟩⟩⟩
theorem tx_cmp_ax {op : CmpOp} {r : R2} {g : D → D → Option D} (ho : OpR X (compareOp op) r) (hr : RS2 X.K r g) (ha : EX X Γ a (some x)) (hb : EX X Γ b mb) (hm : behindInMarks op b = false) : TX X Γ (.Compare a [op] [b] pos) (mb.bind fun y => (g x y).bind dBool) := tx_cmp ho hr ha hb hm
theorem tx_cmp_xa {op : CmpOp} {r : R2} {g : D → D → Option D} (ho : OpR X (compareOp op) r) (hr : RS2 X.K r g) (ha : EX X Γ a ma) (hb : EX X Γ b (some y)) (hm : behindInMarks op b = false) : TX X Γ (.Compare a [op] [b] pos) (ma.bind fun x => (g x y).bind dBool) := tx_cmp ho hr ha hb hm
theorem tx_cmp_aa {op : CmpOp} {r : R2} {g : D → D → Option D} (ho : OpR X (compareOp op) r) (hr : RS2 X.K r g) (ha : EX X Γ a (some x)) (hb : EX X Γ b (some y)) (hm : behindInMarks op b = false) : TX X Γ (.Compare a [op] [b] pos) ((g x y).bind dBool) := tx_cmp ho hr ha hb hm
/-- any value -/
theorem tx_val (ha : EX X Γ a ma) (he : ∀ whole, isTrue a X.env whole = (do let v ← whole; standAt a.pos; holding [v] (truthy v))) : TX X Γ a (ma.bind pTru) :=
  (pt_truth ha he).weak fun σ H Q ⟨F, O, k, at_, e, q⟩ => by
    obtain ⟨x, e1, e⟩ := bind_some' e
    exact ⟨F, O, x, at_, e1, fun v F1 H1 g1 r1 => ⟨k, tru_v g1.s r1 e, q F1 H1 g1⟩⟩
theorem tx_val_a (ha : EX X Γ a (some x)) (he : ∀ whole, isTrue a X.env whole = (do let v ← whole; standAt a.pos; holding [v] (truthy v))) : TX X Γ a (pTru x) := tx_val ha he
theorem tx_not {ta : Option Bool} (ha : TX X Γ a ta) : TX X Γ (.UnaryOp .Not a pos) (ta.map (!·)) := (pt_not ha).weak fun σ H Q ⟨F, O, k, at_, e, q⟩ => by
  cases ta with
  | none => cases e
  | some c => cases e; exact ⟨F, O, c, at_, rfl, q⟩
theorem wx_and1 {ta : Option Bool} (ha : TX X Γ a ta) : WX X Γ (.BoolOp .And [a] pos) ta := pw_and1 ha
theorem wx_or1 {ta : Option Bool} (ha : TX X Γ a ta) : WX X Γ (.BoolOp .Or [a] pos) ta := pw_or1 ha
theorem wx_and {ta tb : Option Bool} {rest : List Expr} (ha : TX X Γ a ta) (hb : WX X Γ (.BoolOp .And (b :: rest) pos) tb) : WX X Γ (.BoolOp .And (a :: b :: rest) pos) (ta.bind fun k => if k = true then tb else some false) :=
  (pw_and ha hb).weak fun σ H Q ⟨F, O, z, at_, e, q⟩ => by
    obtain ⟨k, e1, e⟩ := bind_some' e
    refine ⟨F, O, k, at_, e1, fun F1 H1 g1 => ?_⟩
    cases k with
    | true => exact ⟨F1, O, z, at_.grow g1, e, fun F2 H2 g2 => q F2 H2 (g1.trans g2)⟩
    | false => cases e; exact q F1 H1 g1
theorem wx_or {ta tb : Option Bool} {rest : List Expr} (ha : TX X Γ a ta) (hb : WX X Γ (.BoolOp .Or (b :: rest) pos) tb) : WX X Γ (.BoolOp .Or (a :: b :: rest) pos) (ta.bind fun k => if k = true then some true else tb) :=
  (pw_or ha hb).weak fun σ H Q ⟨F, O, z, at_, e, q⟩ => by
    obtain ⟨k, e1, e⟩ := bind_some' e
    refine ⟨F, O, k, at_, e1, fun F1 H1 g1 => ?_⟩
    cases k with
    | true => cases e; exact q F1 H1 g1
    | false => exact ⟨F1, O, z, at_.grow g1, e, fun F2 H2 g2 => q F2 H2 (g1.trans g2)⟩
theorem tx_w {ta : Option Bool} (h : WX X Γ a ta) : TX X Γ a ta := PW.pt h
/-! ### chains -/
theorem rs_bool_K {r : R2} {g : D → D → Option D} (hr : RS2 X.K r g) {F H : Hp} {v u : V} {x y : D} {k : Bool} {Q : VK} (s : Le F H) (rx : Rep X.K F v x) (ry : Rep X.K F u y) (e : (g x y).bind dBool = some k)
    (q : ∀ F' H', Grow F H F' H' → Q (.bl k) H') : r v u H Q := by
  obtain ⟨z, e3, e⟩ := bind_some' e
  have ez : z = .bool k := by cases z <;> simp [dBool] at e; rw [e]
  subst ez
  exact hr F H v u x y _ Q s rx ry e3 fun w F3 H3 g3 r3 => by cases r3; exact q F3 H3 g3
theorem ex_chain {op op' : CmpOp} {r r' : R2} {g g' : D → D → Option D} (ho : OpR X (compareOp op) r) (hr : RS2 X.K r g) (ho' : OpR X (compareOp op') r') (hr' : RS2 X.K r' g') (ha : EX X Γ a ma) (hb : EX X Γ b mb) (hc : EX X Γ c mc)
    (hm : lastMarks [op, op'] [b, c] = false := by with_unfolding_all rfl) : EX X Γ (.Compare a [op, op'] [b, c] pos) (ma.bind fun x => mb.bind fun y => ((g x y).bind dBool).bind fun k => if k = true then mc.bind fun z => g' y z else some (.bool false)) :=
  (pe_chain ho ho' ha hb hc hm).weak fun σ H Q ⟨F, O, z, at_, e, q⟩ => by
    obtain ⟨x, e1, e⟩ := bind_some' e
    obtain ⟨y, e2, e⟩ := bind_some' e
    obtain ⟨k, e3, e⟩ := bind_some' e
    refine ⟨F, O, x, at_, e1, fun v F1 H1 g1 r1 => ⟨F1, O, y, at_.grow g1, e2, fun u F2 H2 g2 r2 => rs_bool_K hr g2.s (r1.mono g2.f) r2 e3 fun F3 H3 g3 => ⟨k, rfl, ?_⟩⟩⟩
    cases k with
    | true =>
      simp only [if_true] at e ⊢
      obtain ⟨w, e4, e⟩ := bind_some' e
      exact ⟨F3, O, w, at_.grow ((g1.trans g2).trans g3), e4, fun v4 F4 H4 g4 r4 => hr' F4 H4 u v4 y w z Q g4.s (r2.mono (g3.f.trans g4.f)) r4 e fun v5 F5 H5 g5 r5 => q v5 F5 H5 ((((g1.trans g2).trans g3).trans g4).trans g5) r5⟩
    | false => cases e; simp only [Bool.false_eq_true, if_false]; exact q _ F3 H3 ((g1.trans g2).trans g3) (.bl false)
theorem tx_chain {op op' : CmpOp} {r r' : R2} {g g' : D → D → Option D} (ho : OpR X (compareOp op) r) (hr : RS2 X.K r g) (ho' : OpR X (compareOp op') r') (hr' : RS2 X.K r' g') (ha : EX X Γ a ma) (hb : EX X Γ b mb) (hc : EX X Γ c mc)
    (hm : lastMarks [op, op'] [b, c] = false := by with_unfolding_all rfl) : TX X Γ (.Compare a [op, op'] [b, c] pos) (ma.bind fun x => mb.bind fun y => ((g x y).bind dBool).bind fun k => if k = true then mc.bind fun z => (g' y z).bind dBool else some false) :=
  (pt_chain ho ho' ha hb hc hm).weak fun σ H Q ⟨F, O, z, at_, e, q⟩ => by
    obtain ⟨x, e1, e⟩ := bind_some' e
    obtain ⟨y, e2, e⟩ := bind_some' e
    obtain ⟨k, e3, e⟩ := bind_some' e
    refine ⟨F, O, x, at_, e1, fun v F1 H1 g1 r1 => ⟨F1, O, y, at_.grow g1, e2, fun u F2 H2 g2 r2 => rs_bool_K hr g2.s (r1.mono g2.f) r2 e3 fun F3 H3 g3 => ⟨k, rfl, ?_⟩⟩⟩
    cases k with
    | true =>
      simp only [if_true] at e ⊢
      obtain ⟨w, e4, e⟩ := bind_some' e
      exact ⟨F3, O, w, at_.grow ((g1.trans g2).trans g3), e4, fun v4 F4 H4 g4 r4 => rs_bool_K hr' g4.s (r2.mono (g3.f.trans g4.f)) r4 e fun F5 H5 g5 => ⟨z, rfl, q F5 H5 ((((g1.trans g2).trans g3).trans g4).trans g5)⟩⟩
    | false => cases e; simp only [Bool.false_eq_true, if_false]; exact ⟨false, rfl, q F3 H3 ((g1.trans g2).trans g3)⟩

/-! ### argument lists, displays -/
variable {A : Type} {es : List Expr}
theorem ax_nil {k : List D → Option A} : AX X Γ [] k (k []) := pa_nil.weak fun σ H Q ⟨F, O, r, at_, e, q⟩ => q [] [] F H (Grow.refl at_.sub) .nil rfl e
theorem ax_cons {k : List D → Option A} {mr : D → Option A} (ha : EX X Γ a ma) (hr : ∀ x, AX X Γ es (fun xs => k (x :: xs)) (mr x)) (hs : starEach (a :: es) X.env = (false, eval a X.env) :: starEach es X.env := by rfl) : AX X Γ (a :: es) k (ma.bind mr) := by
  refine ⟨fun ps pins s σ H Q I h => ?_⟩
  obtain ⟨F, O, r, at_, e, q⟩ := h
  obtain ⟨x, e1, e⟩ := bind_some' e
  refine (pa_cons ha (hr x) hs).run ps pins s σ H Q I ⟨F, O, x, at_, e1, fun v F1 H1 g1 r1 => ⟨F1, O, r, at_.grow g1, e, fun vs xs F2 H2 g2 r2 el ek => q (v :: vs) (x :: xs) F2 H2 (g1.trans g2) (.cons (r1.mono g2.f) r2) (congrArg (· + 1) el) ek⟩⟩
theorem ax_consA {k : List D → Option A} {m : Option A} (ha : EX X Γ a (some x)) (hr : AX X Γ es (fun xs => k (x :: xs)) m) (hs : starEach (a :: es) X.env = (false, eval a X.env) :: starEach es X.env := by rfl) : AX X Γ (a :: es) k m :=
  (pa_cons ha hr hs).weak fun σ H Q ⟨F, O, r, at_, e, q⟩ => ⟨F, O, x, at_, rfl, fun v F1 H1 g1 r1 => ⟨F1, O, r, at_.grow g1, e, fun vs xs F2 H2 g2 r2 el ek => q (v :: vs) (x :: xs) F2 H2 (g1.trans g2) (.cons (r1.mono g2.f) r2) (congrArg (· + 1) el) ek⟩⟩
theorem reps_len {F : Hp} {vs : List V} {xs : List D} (r : Reps X.K F vs xs) : vs.length = xs.length := r.length
theorem ex_tup {m : Option D} (hz : es.length ≤ sizeLine) (h : AX X Γ es (fun xs => some (.tuple xs)) m) {x1} : EX X Γ (.Tuple es x1 pos) m :=
  (pe_tupF h).weak fun σ H Q ⟨F, O, z, at_, e, q⟩ => ⟨F, O, z, at_, e, fun vs xs F1 H1 g1 r1 hl ek => by
    cases ek
    have hz2 : vs.length ≤ sizeLine := by rw [r1.length, hl]; exact hz
    refine ⟨hz2, fun o p ho hp => ?_⟩
    obtain ⟨g2, r2⟩ := grow_tup ho g1.s hp hz2 r1
    exact q _ _ _ (g1.trans g2) r2⟩
theorem ex_lst {m : Option D} (hz : es.length ≤ sizeLine) (h : AX X Γ es (fun xs => some (.list xs)) m) : EX X Γ (.List es pos) m :=
  (pe_lst h).weak fun σ H Q ⟨F, O, z, at_, e, q⟩ => ⟨F, O, z, at_, e, fun vs xs F1 H1 g1 r1 hl ek => by
    cases ek
    have hz2 : vs.length ≤ sizeLine := by rw [r1.length, hl]; exact hz
    refine ⟨hz2, fun p hp => ?_⟩
    obtain ⟨g2, r2⟩ := grow_lst g1.s hp hz2 r1
    exact q _ _ _ (g1.trans g2) r2⟩
end
end Z
namespace Z
open PySem PySem.Spec L2

section
variable {X : Cx} {E : ME} {kk : Nat} {N W G Sl : List Str} {sc : Scope} {Γ : List Ent} {a b c e : Expr} {es : List Expr} {m ma mb mc : Option D} {x y : D} {pos p : Pos}

/-! ### slices -/
def tXO (K : PySem.W.Frag) (Γ : List Ent) (m : Option (Option Int)) : TO := fun σ H Q => ∃ F O o, At K F O σ H Γ ∧ m = some o ∧ ∀ F' H', Grow F H F' H' → Q o H'
abbrev XO (X : Cx) (Γ : List Ent) (e : Option Expr) (m : Option (Option Int)) : Prop := PO X e (tXO X.K Γ m)
theorem _root_.L2.PO.weak {e : Option Expr} {t t' : TO} (h : PO X e t) (w : ∀ σ H Q, t' σ H Q → t σ H Q) : PO X e t' := ⟨fun p s σ H Q I q => h.run p s σ H Q I (w σ H Q q)⟩
theorem xo_none : XO X Γ none (some none) := po_none.weak fun σ H Q ⟨F, O, o, at_, e, q⟩ => by cases e; exact q F H (Grow.refl at_.sub)
theorem xo_some (ha : EX X Γ a ma) : XO X Γ (some a) (ma.bind pOpt) := (po_some ha).weak fun σ H Q ⟨F, O, o, at_, e, q⟩ => by
  obtain ⟨x, e1, e⟩ := bind_some' e
  refine ⟨F, O, x, at_, e1, fun v F1 H1 g1 r1 => ?_⟩
  cases r1 <;> simp only [pOpt, id, reduceCtorEq, Option.some.injEq] at e
  rename_i h _
  all_goals first
    | (subst e; exact ⟨_, rfl, q F1 H1 g1⟩)
theorem xo_some_a (ha : EX X Γ a (some x)) : XO X Γ (some a) (pOpt x) := xo_some ha
theorem ex_sl {lo hi : Option Expr} {ml mh : Option (Option Int)} {p2 : Pos} (ha : EX X Γ a ma) (hl : XO X Γ lo ml) (hh : XO X Γ hi mh) : EX X Γ (.Subscript a (.Slice lo hi none p2) pos) (ma.bind fun x => ml.bind fun l => mh.bind fun h => pSl x l h) :=
  (pe_slice sl_all ha hl hh).weak fun σ H Q ⟨F, O, z, at_, e, q⟩ => by
    obtain ⟨x, e1, e⟩ := bind_some' e
    obtain ⟨l, e2, e⟩ := bind_some' e
    obtain ⟨h, e3, e⟩ := bind_some' e
    exact ⟨F, O, x, at_, e1, fun v F1 H1 g1 r1 => ⟨F1, O, l, at_.grow g1, e2, fun F2 H2 g2 => ⟨F2, O, h, at_.grow (g1.trans g2), e3, fun F3 H3 g3 => rs_sl F3 H3 v x z l h Q g3.s (r1.mono (g2.f.trans g3.f)) e fun w F4 H4 g4 r4 => q w F4 H4 (((g1.trans g2).trans g3).trans g4) r4⟩⟩⟩
theorem ex_sl_a {lo hi : Option Expr} {ml mh : Option (Option Int)} {p2 : Pos} (ha : EX X Γ a (some x)) (hl : XO X Γ lo ml) (hh : XO X Γ hi mh) : EX X Γ (.Subscript a (.Slice lo hi none p2) pos) (ml.bind fun l => mh.bind fun h => pSl x l h) := ex_sl ha hl hh
theorem ex_sl_an {hi : Option Expr} {mh : Option (Option Int)} {p2 : Pos} (ha : EX X Γ a (some x)) (hh : XO X Γ hi mh) : EX X Γ (.Subscript a (.Slice none hi none p2) pos) (mh.bind fun h => pSl x none h) := ex_sl ha xo_none hh
theorem ex_sl_aan {lo : Option Expr} {ml : Option (Option Int)} {p2 : Pos} (ha : EX X Γ a (some x)) (hl : XO X Γ lo ml) : EX X Γ (.Subscript a (.Slice lo none none p2) pos) (ml.bind fun l => pSl x l none) := ex_sl ha hl xo_none

/-! ### built-ins called by name -/
def RSn (K : PySem.W.Frag) (r : List V → Hp → VK → Prop) (g : List D → Option D) : Prop := ∀ (F H : Hp) (vs : List V) (xs : List D) (z : D) (Q : VK), Le F H → Reps K F vs xs → g xs = some z → (∀ w F' H', Grow F H F' H' → Rep K F' w z → Q w H') → r vs H Q
/-- a built-in's name that the module does not take -/
def Free (E : ME) (n : Str) : Prop := E.mg n = none
theorem Free.at {n : Str} (h : Free E n) (L : LX X E kk N W G Sl sc) : X.mg n = none := by rw [L.mx.mg]; exact h
theorem ex_callB {r : List V → Hp → VK → Prop} {g : List D → Option D} {id : String} (L : LX X E kk N W G Sl sc) (j : Nat) {n : Str} (hG : G[j]? = some n) (hm : Free E n) (hv : bootBuiltins n = some (.builtin id)) (hc : CallR X (.builtin id) r) (hr : RSn X.K r g) (ha : AX X Γ (a :: es) g m)
    (he : starEach (a :: es) X.env = (false, eval a X.env) :: starEach es X.env := by rfl) (hpl : (backTo pos (starEach es X.env)).any (·.1) = false := by rfl) : EX X Γ (.Call (.Name n p) (a :: es) [] pos) m := by
  obtain ⟨h1, h2⟩ := L.gl (List.mem_of_getElem? hG)
  obtain ⟨d1, d2, d3⟩ := dund1 h2
  exact (pe_callB hc h1 (hm.at L) hv ha d3 d1 he hpl).weak fun σ H Q ⟨F, O, z, at_, e, q⟩ => ⟨F, O, z, at_, e, fun vs xs F1 H1 g1 r1 _ ek => hr F1 H1 vs xs z Q g1.s r1 ek fun w F2 H2 g2 r2 => q w F2 H2 (g1.trans g2) r2⟩
theorem ex_callT {r : List V → Hp → VK → Prop} {g : List D → Option D} {T : String} (L : LX X E kk N W G Sl sc) (j : Nat) {n : Str} (hG : G[j]? = some n) (hm : Free E n) (hv : bootBuiltins n = some (.type T)) (hc : CallR X (.type T) r) (hr : RSn X.K r g) (ha : AX X Γ (a :: es) g m)
    (he : starEach (a :: es) X.env = (false, eval a X.env) :: starEach es X.env := by rfl) (hpl : (backTo pos (starEach es X.env)).any (·.1) = false := by rfl) : EX X Γ (.Call (.Name n p) (a :: es) [] pos) m := by
  obtain ⟨h1, h2⟩ := L.gl (List.mem_of_getElem? hG)
  obtain ⟨d1, d2, d3⟩ := dund1 h2
  exact (pe_callTy hc h1 (hm.at L) hv ha d3 d1 he hpl).weak fun σ H Q ⟨F, O, z, at_, e, q⟩ => ⟨F, O, z, at_, e, fun vs xs F1 H1 g1 r1 _ ek => hr F1 H1 vs xs z Q g1.s r1 ek fun w F2 H2 g2 r2 => q w F2 H2 (g1.trans g2) r2⟩
/-- of one argument -/
def g0 {B : Type} (g : Option B) : List D → Option B
  | [] => g
  | _ => none
def g1 {B : Type} (g : D → Option B) : List D → Option B
  | [x] => g x
  | _ => none
def g2 {B : Type} (g : D → D → Option B) : List D → Option B
  | [x, y] => g x y
  | _ => none
def g3 {B : Type} (g : D → D → D → Option B) : List D → Option B
  | [x, y, z] => g x y z
  | _ => none
def g4 {B : Type} (g : D → D → D → D → Option B) : List D → Option B
  | [x, y, z, w] => g x y z w
  | _ => none
def g5 {B : Type} (g : D → D → D → D → D → Option B) : List D → Option B
  | [x, y, z, w, v] => g x y z w v
  | _ => none
def g6 {B : Type} (g : D → D → D → D → D → D → Option B) : List D → Option B
  | [x, y, z, w, v, u] => g x y z w v u
  | _ => none
def g7 {B : Type} (g : D → D → D → D → D → D → D → Option B) : List D → Option B
  | [x, y, z, w, v, u, t] => g x y z w v u t
  | _ => none
def g8 {B : Type} (g : D → D → D → D → D → D → D → D → Option B) : List D → Option B
  | [x, y, z, w, v, u, t, s] => g x y z w v u t s
  | _ => none

/-! len -/
def pLen : D → Option D
  | .str x => if x.length ≤ sizeLine then some (.int x.length) else none
  | .list xs => some (.int xs.length)
  | .tuple xs => some (.int xs.length)
  | _ => none
theorem rs_len {K : PySem.W.Frag} : RSn K (fun xs H Q => ∃ x n, xs = [x] ∧ LenV K x H n ∧ Q (.int n) H) (g1 pLen) := by
  intro F H vs xs z Q s r e q
  cases r with
  | nil => cases e
  | cons r1 r2 =>
    cases r2 with
    | cons _ _ => cases e
    | nil =>
      cases r1 with
      | str y =>
        simp only [g1, pLen] at e
        split at e
        · rename_i hz; cases e; exact ⟨_, _, rfl, ⟨hz, rfl⟩, q _ F H (Grow.refl s) (.int _)⟩
        · cases e
      | lst h r => cases e; exact ⟨_, _, rfl, .inl ⟨_, .of (s _ _ h.1), rfl⟩, q _ F H (Grow.refl s) (by rw [r.length]; exact .int _)⟩
      | tup h r => cases e; exact ⟨_, _, rfl, .inr ⟨_, le_t s h.1.sq, rfl⟩, q _ F H (Grow.refl s) (by rw [r.length]; exact .int _)⟩
      | _ => simp [g1, pLen] at e
/-! int(..), list(..), tuple(..) -/
def pInt : D → Option D
  | .int i => some (.int i)
  | .bool k => some (.int (if k then 1 else 0))
  | .str x => if x.length ≤ 640 then (PySem.intText? x).map .int else none
  | _ => none
def rInt : List V → Hp → VK → Prop := fun xs H Q => ((∃ i, xs = [.int i] ∧ Q (.int i) H) ∨ ∃ k, xs = [.bl k] ∧ Q (.int (if k then 1 else 0)) H) ∨ (∃ a n, xs = [.str a] ∧ PySem.intText? a = some n ∧ a.length ≤ 640 ∧ Q (.int n) H)
theorem callr_or {f : Value} {r r' : List V → Hp → VK → Prop} (h : CallR X f r) (h' : CallR X f r') : CallR X f (fun x H Q => r x H Q ∨ r' x H Q) := by
  intro pins s σ H x u Q I rx q
  rcases q with q | q
  · exact h pins s σ H x u Q I rx q
  · exact h' pins s σ H x u Q I rx q
theorem call_int : CallR X (.type "int") rInt := callr_or call_int1 call_int_str
theorem rs_int {K : PySem.W.Frag} : RSn K rInt (g1 pInt) := by
  intro F H vs xs z Q s r e q
  cases r with
  | nil => cases e
  | cons r1 r2 =>
    cases r2 with
    | cons _ _ => cases e
    | nil =>
      cases r1 with
      | int i => cases e; exact .inl (.inl ⟨_, rfl, q _ F H (Grow.refl s) (.int _)⟩)
      | bl k => cases e; exact .inl (.inr ⟨_, rfl, q _ F H (Grow.refl s) (.int _)⟩)
      | str y =>
        simp only [g1, pInt] at e
        split at e
        · rename_i hz
          cases hn : PySem.intText? y with
          | none => rw [hn] at e; cases e
          | some n => rw [hn] at e; cases e; exact .inr ⟨y, n, rfl, hn, hz, q _ F H (Grow.refl s) (.int _)⟩
        · cases e
      | _ => simp [g1, pInt] at e
def pList : D → Option D
  | .list xs => some (.list xs)
  | .tuple xs => some (.list xs)
  | _ => none
def pTuple : D → Option D
  | .list xs => some (.tuple xs)
  | .tuple xs => some (.tuple xs)
  | _ => none
theorem rs_list {K : PySem.W.Frag} : RSn K (fun xs H Q => ∃ p ys, xs = [.ref p] ∧ (SqL K H p ys ∨ SqT K H p ys) ∧ ∀ l, H l = none → Q (.ref l) (upd H l (.lst ys))) (g1 pList) := by
  intro F H vs xs z Q s r e q
  cases r with
  | nil => cases e
  | cons r1 r2 =>
    cases r2 with
    | cons _ _ => cases e
    | nil =>
      cases r1 with
      | lst h r =>
        cases e
        refine ⟨_, _, rfl, .inl (.of (s _ _ h.1)), fun l hl => ?_⟩
        obtain ⟨g2, r2⟩ := grow_lst s hl h.2 r
        exact q _ _ _ g2 r2
      | tup h r =>
        cases e
        refine ⟨_, _, rfl, .inr (le_t s h.1.sq), fun l hl => ?_⟩
        obtain ⟨g2, r2⟩ := grow_lst s hl h.2 r
        exact q _ _ _ g2 r2
      | _ => simp [g1, pList] at e
theorem rs_tuple {K : PySem.W.Frag} : RSn K (fun xs H Q => ∃ p ys, xs = [.ref p] ∧ ((SqL K H p ys ∧ ∀ (o : Obj) l, o.dict = none → H l = none → Q (.ref l) (upd H l (.frz o (.tup ys)))) ∨ (SqT K H p ys ∧ Q (.ref p) H))) (g1 pTuple) := by
  intro F H vs xs z Q s r e q
  cases r with
  | nil => cases e
  | cons r1 r2 =>
    cases r2 with
    | cons _ _ => cases e
    | nil =>
      cases r1 with
      | lst h r =>
        cases e
        refine ⟨_, _, rfl, .inl ⟨.of (s _ _ h.1), fun o l ho hl => ?_⟩⟩
        obtain ⟨g2, r2⟩ := grow_tup ho s hl h.2 r
        exact q _ _ _ g2 r2
      | tup h r =>
        cases e
        exact ⟨_, _, rfl, .inr ⟨le_t s h.1.sq, q _ F H (Grow.refl s) (.tup h r)⟩⟩
      | _ => simp [g1, pTuple] at e
/-! all, any of truth values -/
def dBools : List D → Option (List Bool)
  | [] => some []
  | .bool b :: r => (dBools r).map (b :: ·)
  | _ :: _ => none
theorem reps_bools {K : PySem.W.Frag} {F : Hp} : ∀ {vs : List V} {xs : List D} {bs : List Bool}, Reps K F vs xs → dBools xs = some bs → vs = bs.map V.bl
  | _, _, bs, .nil, e => by cases e; rfl
  | _, _, bs, .cons (.bl b) r, e => by
    simp only [dBools] at e
    obtain ⟨cs, h1, h2⟩ := Option.map_eq_some_iff.mp e
    subst h2
    rw [reps_bools r h1]
    rfl
  | _, _, bs, .cons .non r, e => by cases e
  | _, _, bs, .cons (.int _) r, e => by cases e
  | _, _, bs, .cons (.str _) r, e => by cases e
  | _, _, bs, .cons (.lst _ _) r, e => by cases e
  | _, _, bs, .cons (.tup _ _) r, e => by cases e
def pAll : D → Option D
  | .list xs => (dBools xs).map fun bs => .bool (bs.all id)
  | _ => none
def pAny : D → Option D
  | .list xs => (dBools xs).map fun bs => .bool (bs.any id)
  | _ => none
theorem rs_all {K : PySem.W.Frag} : RSn K (rAll K) (g1 pAll) := by
  intro F H vs xs z Q s r e q
  cases r with
  | nil => cases e
  | cons r1 r2 =>
    cases r2 with
    | cons _ _ => cases e
    | nil =>
      cases r1 with
      | lst h r =>
        simp only [g1, pAll] at e
        obtain ⟨bs, h1, h2⟩ := Option.map_eq_some_iff.mp e
        subst h2
        have := reps_bools r h1
        subst this
        exact ⟨_, bs, rfl, .of (s _ _ h.1), q _ F H (Grow.refl s) (.bl _)⟩
      | _ => simp [g1, pAll] at e
theorem rs_any {K : PySem.W.Frag} : RSn K (rAny K) (g1 pAny) := by
  intro F H vs xs z Q s r e q
  cases r with
  | nil => cases e
  | cons r1 r2 =>
    cases r2 with
    | cons _ _ => cases e
    | nil =>
      cases r1 with
      | lst h r =>
        simp only [g1, pAny] at e
        obtain ⟨bs, h1, h2⟩ := Option.map_eq_some_iff.mp e
        subst h2
        have := reps_bools r h1
        subst this
        exact ⟨_, bs, rfl, .of (s _ _ h.1), q _ F H (Grow.refl s) (.bl _)⟩
      | _ => simp [g1, pAny] at e
/-! isinstance(x, T) -/
/-- T's truth on data -/
def IsaR (X : Cx) (T : String) (f : D → Bool) : Prop := ∀ (s : Shared) (v : Value) (d : D) (as : List Addr) (Q : Value → Shared → Prop), Reads s.heap v d as → (∀ tk, s.toks ≤ tk → Q (.bool (f d)) { s with toks := tk }) → wpAny (model X.prog X.w) X.A (call (.builtin "isinstance") [v, .type T]) Q X.xe s
theorem isa_tuple : IsaR X "tuple" PyData.isTuple := fun _ _ _ _ _ r h => PySem.W.isinstance_tuple_data r h
theorem isa_list : IsaR X "list" PyData.isList := fun _ _ _ _ _ r h => PySem.W.isinstance_list_data r h
theorem isa_bool : IsaR X "bool" PyData.isBool := fun _ _ _ _ _ r h => PySem.W.isinstance_bool_data r h
theorem isa_int : IsaR X "int" PyData.isInt := fun _ _ _ _ _ r h => PySem.W.isinstance_int_data r h
theorem isa_str : IsaR X "str" PyData.isStr := fun _ _ _ _ _ r h => PySem.W.isinstance_str_data r h
theorem ex_isa {T : String} {f : D → Bool} {n : Str} {p1 p2 : Pos} (hi : IsaR X T f) (L : LX X E kk N W G Sl sc) (i j : Nat) (hG : G[i]? = some ("isinstance" : Str)) (hm : Free E "isinstance") (hT : G[j]? = some n) (hmT : Free E n) (hv : bootBuiltins n = some (.type T)) (ha : EX X Γ a ma)
    (he : starEach [a, .Name n p2] X.env = (false, eval a X.env) :: starEach [.Name n p2] X.env := by rfl) (he2 : starEach [.Name n p2] X.env = (false, eval (.Name n p2) X.env) :: starEach [] X.env := by rfl) (hpl : (backTo pos (starEach [.Name n p2] X.env)).any (·.1) = false := by rfl) :
    EX X Γ (.Call (.Name "isinstance" p1) [a, .Name n p2] [] pos) (ma.map fun x => .bool (f x)) := by
  obtain ⟨h1, h2⟩ := L.gl (List.mem_of_getElem? hG)
  obtain ⟨h3, h4⟩ := L.gl (List.mem_of_getElem? hT)
  obtain ⟨d1, d2, d3⟩ := dund1 h2
  obtain ⟨f1, f2, f3⟩ := dund1 h4
  have hc : CallR X (.builtin "isinstance") (fun vs H Q => ∃ v x, vs = [v, .ty T] ∧ Rep X.K H v x ∧ Q (.bl (f x)) H) := by
    intro pins s σ H vs us Q I r ⟨v, x, e, rx, q⟩
    subst e
    obtain ⟨u1, u2, rfl, r1, r2⟩ := vals2 r
    cases (show u2 = Value.type T from r2)
    obtain ⟨as, rd⟩ := Dp.reads I x v u1 rx.dp r1
    exact hi s u1 x as _ rd fun tk _ => ⟨.bl _, H, I.tok tk, rfl, q⟩
  refine (pe_callB hc h1 (hm.at L) PyProof.Rows.boot_isinstance (pa_cons ha (pa_cons (pe_bltn h3 (hmT.at L) hv (v := .ty T) rfl f3 f1) pa_nil he2) he) d3 d1 he hpl).weak fun σ H Q ⟨F, O, z, at_, e, q⟩ => ?_
  obtain ⟨x, e1, e2⟩ := Option.map_eq_some_iff.mp e
  subst e2
  exact ⟨F, O, x, at_, e1, fun v F1 H1 g1 r1 => ⟨v, x, rfl, r1.mono g1.s, q _ F1 H1 g1 (.bl _)⟩⟩
theorem ex_isa_a {T : String} {f : D → Bool} {n : Str} {p1 p2 : Pos} (hi : IsaR X T f) (L : LX X E kk N W G Sl sc) (i j : Nat) (hG : G[i]? = some ("isinstance" : Str)) (hm : Free E "isinstance") (hT : G[j]? = some n) (hmT : Free E n) (hv : bootBuiltins n = some (.type T)) (ha : EX X Γ a (some x))
    (he : starEach [a, .Name n p2] X.env = (false, eval a X.env) :: starEach [.Name n p2] X.env := by rfl) (he2 : starEach [.Name n p2] X.env = (false, eval (.Name n p2) X.env) :: starEach [] X.env := by rfl) (hpl : (backTo pos (starEach [.Name n p2] X.env)).any (·.1) = false := by rfl) :
    EX X Γ (.Call (.Name "isinstance" p1) [a, .Name n p2] [] pos) (some (.bool (f x))) := ex_isa hi L i j hG hm hT hmT hv ha he he2 hpl
end
end Z
namespace Z
open PySem PySem.Spec L2

/-! ## statements: how a block ends -/
inductive Ctl (N L R : Type)
  | nx (n : N)
  | bk (l : L)
  | ct (l : L)
  | rt (r : R)
namespace Ctl
variable {N N' L R S : Type}
/-- one behind the other -/
def seq (m : Option (Ctl N L R)) (k : N → Option (Ctl N' L R)) : Option (Ctl N' L R) :=
  match m with
  | none => none
  | some (.nx n) => k n
  | some (.bk l) => some (.bk l)
  | some (.ct l) => some (.ct l)
  | some (.rt r) => some (.rt r)
@[simp] theorem seq_nx (n : N) (k : N → Option (Ctl N' L R)) : seq (some (.nx n)) k = k n := rfl
@[simp] theorem seq_bk (l : L) (k : N → Option (Ctl N' L R)) : seq (some (.bk l)) k = some (.bk l) := rfl
@[simp] theorem seq_ct (l : L) (k : N → Option (Ctl N' L R)) : seq (some (.ct l)) k = some (.ct l) := rfl
@[simp] theorem seq_rt (r : R) (k : N → Option (Ctl N' L R)) : seq (some (.rt r)) k = some (.rt r) := rfl
@[simp] theorem seq_none (k : N → Option (Ctl N' L R)) : seq none k = none := rfl
theorem seq_bind {A : Type} (m : Option A) (f : A → Option (Ctl N L R)) (k : N → Option (Ctl N' L R)) : seq (m.bind f) k = m.bind fun a => seq (f a) k := by cases m <;> rfl
/-- a block that never ends in the ordinary way -/
def ex (m : Option (Ctl N L R)) : Option (Ctl N' L R) :=
  match m with
  | none => none
  | some (.nx _) => none
  | some (.bk l) => some (.bk l)
  | some (.ct l) => some (.ct l)
  | some (.rt r) => some (.rt r)
@[simp] theorem ex_bk (l : L) : (ex (some (.bk l : Ctl N L R)) : Option (Ctl N' L R)) = some (.bk l) := rfl
@[simp] theorem ex_ct (l : L) : (ex (some (.ct l : Ctl N L R)) : Option (Ctl N' L R)) = some (.ct l) := rfl
@[simp] theorem ex_rt (r : R) : (ex (some (.rt r : Ctl N L R)) : Option (Ctl N' L R)) = some (.rt r) := rfl
@[simp] theorem ex_none : (ex (none : Option (Ctl N L R)) : Option (Ctl N' L R)) = none := rfl
theorem ex_bind {A : Type} (m : Option A) (f : A → Option (Ctl N L R)) : (ex (m.bind f) : Option (Ctl N' L R)) = m.bind fun a => ex (f a) := by cases m <;> rfl
/-- a def's answer -/
def fin (d : N → R) (m : Option (Ctl N L R)) : Option R :=
  match m with
  | some (.nx n) => some (d n)
  | some (.rt r) => some r
  | _ => none
@[simp] theorem fin_nx (d : N → R) (n : N) : fin d (some (.nx n : Ctl N L R)) = some (d n) := rfl
@[simp] theorem fin_rt (d : N → R) (r : R) : fin d (some (.rt r : Ctl N L R)) = some r := rfl
@[simp] theorem fin_none (d : N → R) : fin d (none : Option (Ctl N L R)) = none := rfl
theorem fin_bind {A : Type} (d : N → R) (m : Option A) (f : A → Option (Ctl N L R)) : fin d (m.bind f) = m.bind fun a => fin d (f a) := by cases m <;> rfl
theorem fin_some {d : N → R} {m : Option (Ctl N L R)} {r : R} (h : fin d m = some r) : (∃ n, m = some (.nx n) ∧ d n = r) ∨ m = some (.rt r) := by
  unfold fin at h
  split at h
  · rename_i n; exact .inl ⟨n, rfl, Option.some.inj h⟩
  · rename_i q; exact .inr (by rw [Option.some.inj h])
  · cases h
end Ctl
/-- a for loop: the items, a turn, the state -/
def forC {S L R : Type} (f : D → S → Option (Ctl S S R)) : List D → S → Option (Ctl S L R)
  | [], s => some (.nx s)
  | x :: r, s => match f x s with
    | none => none
    | some (.nx t) => forC f r t
    | some (.ct t) => forC f r t
    | some (.bk t) => some (.nx t)
    | some (.rt v) => some (.rt v)
/-- a while loop, of so many turns at most -/
def whileC {S L R : Type} (c : S → Option Bool) (f : S → Option (Ctl S S R)) : Nat → S → Option (Ctl S L R)
  | 0, _ => none
  | n + 1, s => match c s with
    | none => none
    | some false => some (.nx s)
    | some true => match f s with
      | none => none
      | some (.nx t) => whileC c f n t
      | some (.ct t) => whileC c f n t
      | some (.bk t) => some (.nx t)
      | some (.rt v) => some (.rt v)

/-- a block's reading -/
def tEnd {N L R : Type} (K : PySem.W.Frag) (F O : Hp) (gN : N → List Ent) (gL : L → List Ent) (gR : R → List Ent) (vR : R → D) (D : Ends) : Ctl N L R → Prop
  | .nx n => ∀ σ' F' H', Le F F' → At K F' O σ' H' (gN n) → D.nx σ' H'
  | .bk l => ∀ σ' F' H', Le F F' → At K F' O σ' H' (gL l) → D.bk σ' H'
  | .ct l => ∀ σ' F' H', Le F F' → At K F' O σ' H' (gL l) → D.ct σ' H'
  | .rt r => ∀ v σ' F' H', Le F F' → At K F' O σ' H' (gR r) → Rep K F' v (vR r) → D.rt v H'
theorem tEnd.le {N L R : Type} {K : PySem.W.Frag} {F F' O : Hp} {gN : N → List Ent} {gL : L → List Ent} {gR : R → List Ent} {vR : R → D} {D : Ends} (f : Le F F') : ∀ {c : Ctl N L R}, tEnd K F O gN gL gR vR D c → tEnd K F' O gN gL gR vR D c
  | .nx _, q => fun σ2 F2 H2 f2 a2 => q σ2 F2 H2 (f.trans f2) a2
  | .bk _, q => fun σ2 F2 H2 f2 a2 => q σ2 F2 H2 (f.trans f2) a2
  | .ct _, q => fun σ2 F2 H2 f2 a2 => q σ2 F2 H2 (f.trans f2) a2
  | .rt _, q => fun v σ2 F2 H2 f2 a2 => q v σ2 F2 H2 (f.trans f2) a2
def tBS {N L R : Type} (K : PySem.W.Frag) (Γ : List Ent) (m : Option (Ctl N L R)) (gN : N → List Ent) (gL : L → List Ent) (gR : R → List Ent) (vR : R → D) : TS := fun D σ H => ∃ F O c, At K F O σ H Γ ∧ m = some c ∧ tEnd K F O gN gL gR vR D c
abbrev BS {N L R : Type} (X : Cx) (Γ : List Ent) (ss : List Stmt) (m : Option (Ctl N L R)) (gN : N → List Ent) (gL : L → List Ent) (gR : R → List Ent) (vR : R → D) : Prop := PSs X ss (tBS X.K Γ m gN gL gR vR)
abbrev SS {N L R : Type} (X : Cx) (Γ : List Ent) (s : Stmt) (m : Option (Ctl N L R)) (gN : N → List Ent) (gL : L → List Ent) (gR : R → List Ent) (vR : R → D) : Prop := PS X s (tBS X.K Γ m gN gL gR vR)
theorem _root_.L2.PSs.ex {X : Cx} {ss : List Stmt} {A : Type} {t : A → TS} (h : ∀ a, PSs X ss (t a)) : PSs X ss (fun D σ H => ∃ a, t a D σ H) := ⟨fun p s σ H D I ⟨a, q⟩ => (h a).run p s σ H D I q⟩
theorem _root_.L2.PG.ex {X : Cx} {tg : Expr} {A : Type} {t : A → TG} (h : ∀ a, PG X tg (t a)) : PG X tg (fun v σ H Q => ∃ a, t a v σ H Q) := ⟨fun p s σ H v u Q I r ⟨a, q⟩ => (h a).run p s σ H v u Q I r q⟩
theorem _root_.L2.PG.weak {X : Cx} {tg : Expr} {t t' : TG} (h : PG X tg t) (w : ∀ v σ H Q, t' v σ H Q → t v σ H Q) : PG X tg t' := ⟨fun p s σ H v u Q I r q => h.run p s σ H v u Q I r (w v σ H Q q)⟩
theorem _root_.L2.PI.weak {X : Cx} {tg e : Expr} {t t' : TI} (h : PI X tg e t) (w : ∀ σ H Q, t' σ H Q → t σ H Q) : PI X tg e t' := ⟨fun p s σ H Q I q => h.run p s σ H Q I (w σ H Q q)⟩
theorem _root_.L2.PI.or {X : Cx} {tg e : Expr} {t t' : TI} (h : PI X tg e t) (h' : PI X tg e t') : PI X tg e (fun σ H Q => t σ H Q ∨ t' σ H Q) := ⟨fun p s σ H Q I q => q.elim (h.run p s σ H Q I) (h'.run p s σ H Q I)⟩

section
variable {X : Cx} {E : ME} {kk : Nat} {N W G Sl : List Str} {sc : Scope} {Γ Δ : List Ent} {e c : Expr} {pos : Pos} {x : D} {me : Option D} {st : Stmt} {rest ss : List Stmt}
variable {Nt Nt' L' R' : Type} {gN : Nt → List Ent} {gN' : Nt' → List Ent} {gL : L' → List Ent} {gR : R' → List Ent} {vR : R' → D}

theorem LX.slot (L : LX X E kk N W G Sl sc) {i j : Nat} {n : Str} (hN : N[i]? = some n) (hT : Sl[j]? = some n) : X.N[i]? = some n ∧ Loc X.env.scope n ∧ (X.fn n = true ∨ X.env.scope.names.lookup n = some .local) := by
  obtain ⟨h1, h2⟩ := L.sto n (List.mem_of_getElem? hT)
  exact ⟨by rw [L.n]; exact hN, h1, h2⟩

/-! ### blocks -/
theorem bs_nil {n : Nt} (w : Weak Γ (gN n)) : BS X Γ [] (some (.nx n)) gN gL gR vR := pss_nil.weak fun D σ H ⟨F, O, c, at_, e, q⟩ => by cases e; exact q σ F H (Le.refl F) (at_.weak w)
theorem bs_seq {m : Option (Ctl Nt' L' R')} {k : Nt' → Option (Ctl Nt L' R')} (h : SS X Γ st m gN' gL gR vR) (hr : ∀ n, BS X (gN' n) rest (k n) gN gL gR vR) : BS X Γ (st :: rest) (Ctl.seq m k) gN gL gR vR :=
  (pss_cons h (PSs.ex hr)).weak fun D σ H ⟨F, O, c, at_, e, q⟩ => by
    cases m with
    | none => cases e
    | some b =>
      refine ⟨F, O, b, at_, rfl, ?_⟩
      cases b with
      | nx n => exact fun σ' F' H' f a' => ⟨n, F', O, c, a', e, q.le f⟩
      | bk l => cases e; exact q
      | ct l => cases e; exact q
      | rt l => cases e; exact q
theorem bs_one {m : Option (Ctl Nt L' R')} (h : SS X Γ st m gN gL gR vR) : BS X Γ [st] m gN gL gR vR := pss_one h
/-- what is known of the slots, forgotten in part -/
theorem bs_weak {m : Option (Ctl Nt L' R')} (w : Weak Γ Δ) (h : BS X Δ ss m gN gL gR vR) : BS X Γ ss m gN gL gR vR := PSs.weak h fun D σ H ⟨F, O, c, at_, e, q⟩ => ⟨F, O, c, at_.weak w, e, q⟩
/-- the rest of a block, behind a step that leads to one state -/
theorem le_rest {K : PySem.W.Frag} {F F' O : Hp} {m : Option (Ctl Nt L' R')} {D : Ends} {σ' : L2.St} {H' : Hp} {c : Ctl Nt L' R'} (f : Le F F') (a' : At K F' O σ' H' Δ) (e : m = some c)
    (q : tEnd K F O gN gL gR vR D c) : tBS K Δ m gN gL gR vR D σ' H' := ⟨F', O, c, a', e, q.le f⟩

/-! ### small statements -/
theorem bs_ret {mk : D → R'} (he : EX X Γ e me) (h1 : ∀ x, vR (mk x) = x) (h2 : ∀ x, Weak Γ (gR (mk x))) : BS X Γ (.Return (some e) pos :: rest) (me.bind fun x => some (.rt (mk x))) gN gL gR vR :=
  (pss_cons (ps_ret he) pss_never).weak fun D σ H ⟨F, O, c, at_, e, q⟩ => by
    obtain ⟨x, e1, e⟩ := bind_some' e
    cases e
    exact ⟨F, O, x, at_, e1, fun v F1 H1 g1 r1 => q v σ F1 H1 g1.f ((at_.grow g1).weak (h2 x)) (by rw [h1]; exact r1)⟩
theorem bs_ret_a {mk : D → R'} (he : EX X Γ e (some x)) (h1 : ∀ x, vR (mk x) = x) (h2 : ∀ x, Weak Γ (gR (mk x))) : BS X Γ (.Return (some e) pos :: rest) (some (.rt (mk x))) gN gL gR vR := bs_ret he h1 h2
theorem bs_retN {r : R'} (h1 : vR r = .none) (h2 : Weak Γ (gR r)) : BS X Γ (.Return none pos :: rest) (some (.rt r)) gN gL gR vR :=
  (pss_cons ps_retN pss_never).weak fun D σ H ⟨F, O, c, at_, e, q⟩ => by
    cases e
    exact q _ σ F H (Le.refl F) (at_.weak h2) (by rw [h1]; exact .non)
theorem bs_brk {l : L'} (w : Weak Γ (gL l)) : BS X Γ (.Break pos :: rest) (some (.bk l)) gN gL gR vR := (pss_cons ps_break pss_never).weak fun D σ H ⟨F, O, c, at_, e, q⟩ => by cases e; exact q σ F H (Le.refl F) (at_.weak w)
theorem bs_cont {l : L'} (w : Weak Γ (gL l)) : BS X Γ (.Continue pos :: rest) (some (.ct l)) gN gL gR vR := (pss_cons ps_continue pss_never).weak fun D σ H ⟨F, O, c, at_, e, q⟩ => by cases e; exact q σ F H (Le.refl F) (at_.weak w)
theorem bs_pass {m : Option (Ctl Nt L' R')} (h : BS X Γ rest m gN gL gR vR) : BS X Γ (.Pass pos :: rest) m gN gL gR vR := (pss_cons ps_pass h).weak fun D σ H q => q
/-- name = e -/
theorem bs_set (L : LX X E kk N W G Sl sc) (i j : Nat) {n : Str} {p' : Pos} {k : D → Option (Ctl Nt L' R')} (hN : N[i]? = some n) (hT : Sl[j]? = some n) (he : EX X Γ e me) (hr : ∀ x, BS X (Γ.set i (.fz x)) rest (k x) gN gL gR vR)
    (hs : swapsWith e (some (.Name n p')) pos.line X.env = pure false := by rfl) : BS X Γ (.Assign [.Name n p'] e pos :: rest) (me.bind k) gN gL gR vR := by
  obtain ⟨h1, h2, h3⟩ := L.slot hN hT
  exact (pss_cons (ps_set L.nd h1 h2 he hs h3) (PSs.ex hr)).weak fun D σ H ⟨F, O, c, at_, e, q⟩ => by
    obtain ⟨x, e1, e⟩ := bind_some' e
    exact ⟨F, O, x, at_, e1, fun v F1 H1 g1 r1 => ⟨x, le_rest g1.f ((at_.grow g1).set r1) e q⟩⟩
theorem bs_set_a (L : LX X E kk N W G Sl sc) (i j : Nat) {n : Str} {p' : Pos} {m : Option (Ctl Nt L' R')} (hN : N[i]? = some n) (hT : Sl[j]? = some n) (he : EX X Γ e (some x)) (hr : BS X (Γ.set i (.fz x)) rest m gN gL gR vR)
    (hs : swapsWith e (some (.Name n p')) pos.line X.env = pure false := by rfl) : BS X Γ (.Assign [.Name n p'] e pos :: rest) m gN gL gR vR := by
  obtain ⟨h1, h2, h3⟩ := L.slot hN hT
  exact (pss_cons (ps_set L.nd h1 h2 he hs h3) hr).weak fun D σ H ⟨F, O, c, at_, e, q⟩ => ⟨F, O, x, at_, rfl, fun v F1 H1 g1 r1 => le_rest g1.f ((at_.grow g1).set r1) e q⟩
/-- name op= e -/
theorem bs_aug (L : LX X E kk N W G Sl sc) (i j : Nat) {n : Str} {p' : Pos} {op : Operator} {r : R2} {g : D → D → Option D} {k : D → Option (Ctl Nt L' R')} (hN : N[i]? = some n) (hT : Sl[j]? = some n) (hΓ : Γ[i]? = some (.fz x)) (ho : OpR X (inplaceOp op) r) (hr2 : RS2 X.K r g) (he : EX X Γ e me)
    (hr : ∀ x, BS X (Γ.set i (.fz x)) rest (k x) gN gL gR vR) : BS X Γ (.AugAssign (.Name n p') op e pos :: rest) (me.bind fun y => (g x y).bind k) gN gL gR vR := by
  obtain ⟨h1, h2, h3⟩ := L.slot hN hT
  refine (pss_cons (ps_aug (ti := r) L.nd h1 h2 he (fun p s σ H v u a b Q I r1 r2 q => ho p s σ H v u a b Q I r1 r2 q) h3) (PSs.ex hr)).weak fun D σ H ⟨F, O, c, at_, e, q⟩ => ?_
  obtain ⟨y, e1, e⟩ := bind_some' e
  obtain ⟨z, e2, e⟩ := bind_some' e
  obtain ⟨v, hv, rx⟩ := at_.fz hΓ
  exact ⟨v, hv, F, O, y, at_, e1, fun u F1 H1 g1 r1 => hr2 F1 H1 v u x y z _ g1.s (rx.mono g1.f) r1 e2 fun w F2 H2 g2 r2 => ⟨z, le_rest (g1.trans g2).f ((at_.grow (g1.trans g2)).set r2) e q⟩⟩
/-- an expression as a statement -/
theorem bs_expr {k : D → Option (Ctl Nt L' R')} (he : EX X Γ e me) (hr : ∀ x, BS X Γ rest (k x) gN gL gR vR) (hs : swapsWith e none pos.line X.env = pure false := by rfl) : BS X Γ (.Expr e pos :: rest) (me.bind k) gN gL gR vR :=
  (pss_cons (ps_expr he hs) (PSs.ex hr)).weak fun D σ H ⟨F, O, c, at_, e, q⟩ => by
    obtain ⟨x, e1, e⟩ := bind_some' e
    exact ⟨F, O, x, at_, e1, fun v F1 H1 g1 r1 => ⟨x, le_rest g1.f (at_.grow g1) e q⟩⟩

/-! ### if -/
theorem ss_if {tc : Option Bool} {a b : List Stmt} {m1 m2 : Option (Ctl Nt L' R')} (hc : TX X Γ c tc) (ha : BS X Γ a m1 gN gL gR vR) (hb : BS X Γ b m2 gN gL gR vR) : SS X Γ (.If c a b pos) (tc.bind fun k => if k = true then m1 else m2) gN gL gR vR :=
  (ps_if hc ha hb).weak fun D σ H ⟨F, O, c, at_, e, q⟩ => by
    obtain ⟨k, e1, e⟩ := bind_some' e
    refine ⟨F, O, k, at_, e1, fun F1 H1 g1 => ?_⟩
    cases k with
    | true => exact le_rest g1.f (at_.grow g1) e q
    | false => exact le_rest g1.f (at_.grow g1) e q
/-- if c: .. (which never goes on); the rest -/
theorem bs_ifx {tc : Option Bool} {a : List Stmt} {m1 : Option (Ctl Nt' L' R')} {m2 : Option (Ctl Nt L' R')} (hc : TX X Γ c tc) (ha : BS X Γ a m1 gN' gL gR vR) (hr : BS X Γ rest m2 gN gL gR vR) :
    BS X Γ (.If c a [] pos :: rest) (tc.bind fun k => if k = true then Ctl.ex m1 else m2) gN gL gR vR :=
  (pss_cons (ps_if hc ha pss_nil) hr).weak fun D σ H ⟨F, O, c, at_, e, q⟩ => by
    obtain ⟨k, e1, e⟩ := bind_some' e
    refine ⟨F, O, k, at_, e1, fun F1 H1 g1 => ?_⟩
    cases k with
    | true =>
      simp only [if_true] at e ⊢
      cases m1 with
      | none => cases e
      | some d =>
        cases d with
        | nx n => cases e
        | bk l => cases e; exact le_rest (m := some _) g1.f (at_.grow g1) rfl q
        | ct l => cases e; exact le_rest (m := some _) g1.f (at_.grow g1) rfl q
        | rt l => cases e; exact le_rest (m := some _) g1.f (at_.grow g1) rfl q
    | false => exact le_rest g1.f (at_.grow g1) e q
end
end Z
namespace Z
open PySem PySem.Spec L2

/-! ## what is walked -/
structure ItD (K : PySem.W.Frag) (F : Hp) (J : It) (xs : List D) : Prop where
  go : ∀ i F' H, Le F F' → Le F' H → i < xs.length → J.go i H
  yld : ∀ i F' H v H', Le F F' → Le F' H → J.yld i H v H' → ∀ x, xs[i]? = some x → ∃ F'', Grow F' H F'' H' ∧ Rep K F'' v x
  stop : ∀ F' H, Le F F' → Le F' H → J.stop xs.length H
  len : xs.length ≤ sizeLine
def tXI (K : PySem.W.Frag) (Γ : List Ent) (m : Option (List D)) : TI := fun σ H R => ∃ F O xs, At K F O σ H Γ ∧ m = some xs ∧ ∀ F' H' J, Grow F H F' H' → ItD K F' J xs → R J H'
abbrev XI (X : Cx) (Γ : List Ent) (tg e : Expr) (m : Option (List D)) : Prop := PI X tg e (tXI X.K Γ m)
/-- the items of a list, a tuple, a text -/
def pIter : D → Option (List D)
  | .list xs => some xs
  | .tuple xs => some xs
  | .str z => if z.length ≤ sizeLine then some (z.cps.toList.map fun c => .str ⟨#[c]⟩) else none
  | _ => none
section
variable {X : Cx} {E : ME} {kk : Nat} {N W G Sl : List Str} {sc : Scope} {Γ : List Ent} {tg e a b c : Expr} {pos p : Pos} {x y z : D} {me ma mb mc : Option D} {K : PySem.W.Frag} {F : Hp}
theorem itd_list {q : Addr} {vs : List V} {xs : List D} (h : F q = some (.lst vs) ∧ vs.length ≤ sizeLine) (r : Reps K F vs xs) : ItD K F (Itl K q) xs where
  go := fun i F' H f s hi => by
    rw [← r.length] at hi
    exact ⟨vs, vs[i], .of (s _ _ (f _ _ h.1)), by simp [hi]⟩
  yld := fun i F' H v H' f s hy x hx => by
    obtain ⟨e, hy⟩ := hy
    subst e
    obtain ⟨w, h1, h2⟩ := r.get hx
    have h3 := hy vs (.of (s _ _ (f _ _ h.1)))
    rw [h1] at h3
    cases h3
    exact ⟨F', Grow.refl s, h2.mono f⟩
  stop := fun F' H f s => ⟨vs, .of (s _ _ (f _ _ h.1)), by rw [r.length]; exact Nat.le_refl _⟩
  len := by rw [← r.length]; exact h.2
theorem itd_tup {q : Addr} {vs : List V} {xs : List D} (h : Tp K F q vs ∧ vs.length ≤ sizeLine) (r : Reps K F vs xs) : ItD K F (Itt K q) xs where
  go := fun i F' H f s hi => by
    rw [← r.length] at hi
    exact ⟨vs, vs[i], le_t s (le_t f h.1.sq), by simp [hi]⟩
  yld := fun i F' H v H' f s hy x hx => by
    obtain ⟨e, hy⟩ := hy
    subst e
    obtain ⟨w, h1, h2⟩ := r.get hx
    have h3 := hy vs (le_t s (le_t f h.1.sq))
    rw [h1] at h3
    cases h3
    exact ⟨F', Grow.refl s, h2.mono f⟩
  stop := fun F' H f s => ⟨vs, le_t s (le_t f h.1.sq), by rw [r.length]; exact Nat.le_refl _⟩
  len := by rw [← r.length]; exact h.2
theorem itd_str (z : Str) (hz : z.length ≤ sizeLine) : ItD K F (Its z) (z.cps.toList.map fun c => .str ⟨#[c]⟩) where
  go := fun i F' H f s hi => by show i < z.cps.size; simpa using hi
  yld := fun i F' H v H' f s hy x hx => by
    obtain ⟨e, c, h1, h2⟩ := hy
    subst e h2
    rw [List.getElem?_map] at hx
    have h3 : z.cps.toList[i]? = some c := by simpa using h1
    rw [h3] at hx
    cases hx
    exact ⟨F', Grow.refl s, .str _⟩
  stop := fun F' H f s => by show z.cps.size ≤ _; simp
  len := by simpa [Str.length] using hz
def rgU (lo : Int) (n : Nat) : List D := (List.range n).map fun i => .int (lo + (i : Nat))
def rgC (lo c : Int) (n : Nat) : List D := (List.range n).map fun i => .int (lo + (i : Nat) * c)
theorem rgU_get {lo : Int} {n i : Nat} {x : D} (h : (rgU lo n)[i]? = some x) : i < n ∧ x = .int (lo + (i : Nat)) := by
  unfold rgU at h
  rw [List.getElem?_map] at h
  obtain ⟨j, h1, h2⟩ := Option.map_eq_some_iff.mp h
  obtain ⟨h3, h4⟩ := List.getElem?_eq_some_iff.mp h1
  rw [List.length_range] at h3
  rw [List.getElem_range] at h4
  subst h4
  exact ⟨h3, h2.symm⟩
theorem itd_range {lo : Int} {n : Nat} (hz : n ≤ sizeLine) : ItD K F (Itr lo n) (rgU lo n) where
  go := fun i F' H f s hi => by show i < n; simpa [rgU] using hi
  yld := fun i F' H v H' f s hy x hx => by
    obtain ⟨e, h2⟩ := hy
    subst e h2
    obtain ⟨_, h3⟩ := rgU_get hx
    subst h3
    exact ⟨F', Grow.refl s, .int _⟩
  stop := fun F' H f s => by show n ≤ _; simp [rgU]
  len := by simpa [rgU] using hz
theorem itd_rangeC {lo c : Int} {n : Nat} (hz : n ≤ sizeLine) : ItD K F (Itc lo c n) (rgC lo c n) where
  go := fun i F' H f s hi => by show i < n; simpa [rgC] using hi
  yld := fun i F' H v H' f s hy x hx => by
    obtain ⟨e, h2⟩ := hy
    subst e h2
    unfold rgC at hx
    rw [List.getElem?_map] at hx
    obtain ⟨j, h1, h2⟩ := Option.map_eq_some_iff.mp hx
    obtain ⟨h3, h4⟩ := List.getElem?_eq_some_iff.mp h1
    rw [List.getElem_range] at h4
    subst h4 h2
    exact ⟨F', Grow.refl s, .int _⟩
  stop := fun F' H f s => by show n ≤ _; simp [rgC]
  len := by simpa [rgC] using hz
/-- a list, a tuple, a text -/
theorem xi_val (he : EX X Γ e me) : XI X Γ tg e (me.bind pIter) := (((pi_list he).or (pi_tup he)).or (pi_str he)).weak fun σ H R ⟨F, O, xs, at_, e, q⟩ => by
  obtain ⟨x, e1, e⟩ := bind_some' e
  cases x with
  | list ds =>
    cases e
    refine .inl (.inl ⟨F, O, _, at_, e1, fun v F1 H1 g1 r1 => ?_⟩)
    cases r1 with
    | lst h r => exact ⟨_, rfl, ⟨_, .of (g1.s _ _ h.1)⟩, q F1 H1 _ g1 (itd_list h r)⟩
  | tuple ds =>
    cases e
    refine .inl (.inr ⟨F, O, _, at_, e1, fun v F1 H1 g1 r1 => ?_⟩)
    cases r1 with
    | tup h r => exact ⟨_, rfl, ⟨_, le_t g1.s h.1.sq⟩, q F1 H1 _ g1 (itd_tup h r)⟩
  | str z =>
    simp only [pIter] at e
    split at e
    · rename_i hz
      cases e
      refine .inr ⟨F, O, _, at_, e1, fun v F1 H1 g1 r1 => ?_⟩
      cases r1
      exact ⟨z, rfl, q F1 H1 _ g1 (itd_str z hz)⟩
    · cases e
  | _ => cases e
theorem xi_val_a (he : EX X Γ e (some x)) : XI X Γ tg e (pIter x) := xi_val he
/-- range(..) -/
def rgOk (i : Int) : Bool := decide (-(2 ^ 62) ≤ i ∧ i < 2 ^ 62)
def rgLe (n : Nat) : Bool := decide (n ≤ sizeLine)
def pRg1 : D → Option (List D)
  | .int j => if rgOk j = true ∧ rgLe j.toNat = true then some (rgU 0 j.toNat) else none
  | _ => none
def pRg2 : D → D → Option (List D)
  | .int i, .int j => if rgOk i = true ∧ rgOk j = true ∧ rgLe (j - i).toNat = true then some (rgU i (j - i).toNat) else none
  | _, _ => none
/-- downwards by ones -/
def pRgD : D → D → D → Option (List D)
  | .int i, .int j, .int c => if rgOk i = true ∧ rgOk j = true ∧ c = -1 ∧ rgLe (i - j).toNat = true then some (rgC i (-1) (i - j).toNat) else none
  | _, _, _ => none
theorem xi_rg1 (L : LX X E kk N W G Sl sc) (j : Nat) (hG : G[j]? = some ("range" : Str)) (hm : Free E "range") (ha : EX X Γ a ma) (hs : starEach [a] X.env = [(false, eval a X.env)] := by rfl) : XI X Γ tg (.Call (.Name "range" p) [a] [] pos) (ma.bind pRg1) :=
  (pi_range1 (L.gl (List.mem_of_getElem? hG)).1 (hm.at L) (pa_cons ha pa_nil hs) hs).weak fun σ H R ⟨F, O, xs, at_, e, q⟩ => by
    obtain ⟨x, e1, e⟩ := bind_some' e
    cases x <;> simp only [pRg1, reduceCtorEq] at e
    split at e
    · rename_i hz
      cases e
      have hz2 := of_decide_eq_true hz.2
      have hz := of_decide_eq_true hz.1
      refine ⟨F, O, _, at_, e1, fun v F1 H1 g1 r1 => ?_⟩
      cases r1
      exact ⟨_, rfl, hz.1, hz.2, q F1 H1 _ g1 (itd_range hz2)⟩
    · cases e
theorem xi_rg1_a (L : LX X E kk N W G Sl sc) (j : Nat) (hG : G[j]? = some ("range" : Str)) (hm : Free E "range") (ha : EX X Γ a (some x)) (hs : starEach [a] X.env = [(false, eval a X.env)] := by rfl) : XI X Γ tg (.Call (.Name "range" p) [a] [] pos) (pRg1 x) := xi_rg1 L j hG hm ha hs
theorem xi_rg2 (L : LX X E kk N W G Sl sc) (j : Nat) (hG : G[j]? = some ("range" : Str)) (hm : Free E "range") (ha : EX X Γ a ma) (hb : EX X Γ b mb) (hs : starEach [a, b] X.env = [(false, eval a X.env), (false, eval b X.env)] := by rfl) (hs2 : starEach [b] X.env = [(false, eval b X.env)] := by rfl) :
    XI X Γ tg (.Call (.Name "range" p) [a, b] [] pos) (ma.bind fun x => mb.bind fun y => pRg2 x y) :=
  (pi_range2 (L.gl (List.mem_of_getElem? hG)).1 (hm.at L) (pa_cons ha (pa_cons hb pa_nil hs2) (by rw [hs, hs2])) hs hs2).weak fun σ H R ⟨F, O, xs, at_, e, q⟩ => by
    obtain ⟨x, e1, e⟩ := bind_some' e
    obtain ⟨y, e2, e⟩ := bind_some' e
    cases x <;> cases y <;> simp only [pRg2, reduceCtorEq] at e
    split at e
    · rename_i hz
      cases e
      have h1 := of_decide_eq_true hz.1
      have h2 := of_decide_eq_true hz.2.1
      have h3 := of_decide_eq_true hz.2.2
      refine ⟨F, O, _, at_, e1, fun v F1 H1 g1 r1 => ⟨F1, O, _, at_.grow g1, e2, fun v2 F2 H2 g2 r2 => ?_⟩⟩
      cases r1; cases r2
      exact ⟨_, _, rfl, ⟨h1.1, h1.2, h2.1, h2.2⟩, q F2 H2 _ (g1.trans g2) (itd_range h3)⟩
    · cases e
theorem xi_rgD (L : LX X E kk N W G Sl sc) (j : Nat) (hG : G[j]? = some ("range" : Str)) (hm : Free E "range") (ha : EX X Γ a ma) (hb : EX X Γ b mb) (hc : EX X Γ c mc) (hs : starEach [a, b, c] X.env = (false, eval a X.env) :: starEach [b, c] X.env := by rfl) (hs2 : starEach [b, c] X.env = (false, eval b X.env) :: starEach [c] X.env := by rfl)
    (hs3 : starEach [c] X.env = (false, eval c X.env) :: starEach [] X.env := by rfl) (hpl : (backTo pos (starEach [b, c] X.env)).any (·.1) = false := by rfl) :
    XI X Γ tg (.Call (.Name "range" p) [a, b, c] [] pos) (ma.bind fun x => mb.bind fun y => mc.bind fun z => pRgD x y z) :=
  (pi_range3 (L.gl (List.mem_of_getElem? hG)).1 (hm.at L) (pa_cons ha (pa_cons hb (pa_cons hc pa_nil hs3) hs2) hs) hs hpl).weak fun σ H R ⟨F, O, xs, at_, e, q⟩ => by
    obtain ⟨x, e1, e⟩ := bind_some' e
    obtain ⟨y, e2, e⟩ := bind_some' e
    obtain ⟨z, e3, e⟩ := bind_some' e
    cases x <;> cases y <;> cases z <;> simp only [pRgD, reduceCtorEq] at e
    split at e
    · rename_i hz
      obtain ⟨h1, h2, h3, h4⟩ := hz
      subst h3
      cases e
      have h1 := of_decide_eq_true h1
      have h2 := of_decide_eq_true h2
      refine ⟨F, O, _, at_, e1, fun v F1 H1 g1 r1 => ⟨F1, O, _, at_.grow g1, e2, fun v2 F2 H2 g2 r2 => ⟨F2, O, _, at_.grow (g1.trans g2), e3, fun v3 F3 H3 g3 r3 => ?_⟩⟩⟩
      cases r1; cases r2; cases r3
      exact ⟨_, _, _, _, rfl, RgC.neg h1.1 h1.2 h2.1 h2.2, q F3 H3 _ ((g1.trans g2).trans g3) (itd_rangeC (of_decide_eq_true h4))⟩
    · cases e

/-! ## targets -/
def tGX {A : Type} (K : PySem.W.Frag) (Γ : List Ent) (mt : D → Option A) (gt : A → List Ent) : TG := fun v σ H Q => ∃ F O x a, At K F O σ H Γ ∧ Rep K F v x ∧ mt x = some a ∧ ∀ σ', At K F O σ' H (gt a) → Q σ' H
abbrev GX {A : Type} (X : Cx) (Γ : List Ent) (tg : Expr) (mt : D → Option A) (gt : A → List Ent) : Prop := PG X tg (tGX X.K Γ mt gt)
theorem gx_name (L : LX X E kk N W G Sl sc) (i j : Nat) {n : Str} (hN : N[i]? = some n) (hT : Sl[j]? = some n) : GX X Γ (.Name n pos) some (fun x => Γ.set i (.fz x)) := by
  obtain ⟨h1, h2, h3⟩ := L.slot hN hT
  refine (pg_name L.nd h1 h2 h3).weak fun v σ H Q ⟨F, O, x, a, at_, r, e, q⟩ => ?_
  cases e
  exact q _ (at_.set r)
def pUn2 : D → Option (D × D)
  | .tuple [x, y] => some (x, y)
  | _ => none
def pUn3 : D → Option (D × D × D)
  | .tuple [x, y, z] => some (x, y, z)
  | _ => none
def pUn4 : D → Option (D × D × D × D)
  | .tuple [x, y, z, w] => some (x, y, z, w)
  | _ => none
theorem pUn2_some {x : D} {a : D × D} (h : pUn2 x = some a) : x = .tuple [a.1, a.2] := by unfold pUn2 at h; split at h <;> cases h; rfl
theorem pUn3_some {x : D} {a : D × D × D} (h : pUn3 x = some a) : x = .tuple [a.1, a.2.1, a.2.2] := by unfold pUn3 at h; split at h <;> cases h; rfl
theorem pUn4_some {x : D} {a : D × D × D × D} (h : pUn4 x = some a) : x = .tuple [a.1, a.2.1, a.2.2.1, a.2.2.2] := by unfold pUn4 at h; split at h <;> cases h; rfl
theorem gx_tup2 (L : LX X E kk N W G Sl sc) (i j i' j' : Nat) {n n' : Str} {p' : Pos} {k : Nat} (hN : N[i]? = some n) (hT : Sl[j]? = some n) (hN' : N[i']? = some n') (hT' : Sl[j']? = some n')
    (h1 : (assignEach [.Name n pos, .Name n' p'] X.env).map (·.2) = assign (.Name n pos) X.env :: (assignEach [.Name n' p'] X.env).map (·.2) := by rfl) (h2 : (assignEach [.Name n' p'] X.env).map (·.2) = assign (.Name n' p') X.env :: (assignEach [] X.env).map (·.2) := by rfl)
    (h3 : (assignEach [.Name n pos, .Name n' p'] X.env).length = 2 := by rfl) (h4 : (assignEach [.Name n pos, .Name n' p'] X.env).findIdx? (·.1) = none := by rfl) :
    GX X Γ (.Tuple [.Name n pos, .Name n' p'] k p) pUn2 (fun a => (Γ.set i (.fz a.1)).set i' (.fz a.2)) := by
  obtain ⟨a1, a2, a3⟩ := L.slot hN hT
  obtain ⟨b1, b2, b3⟩ := L.slot hN' hT'
  refine (pg_tup L.calm (pgs_cons (pg_name L.nd a1 a2 a3) (pgs_cons (pg_name L.nd b1 b2 b3) pgs_nil h2) h1) h3 h4).weak fun v σ H Q ⟨F, O, x, a, at_, r, e, q⟩ => ?_
  have := pUn2_some e
  subst this
  cases r with
  | tup h r =>
    cases r with
    | cons r1 r => cases r with
      | cons r2 r => cases r; exact ⟨_, _, rfl, le_t at_.sub h.1.sq, rfl, _, _, rfl, _, _, rfl, rfl, q _ ((at_.set r1).set r2)⟩
theorem gx_tup3 (L : LX X E kk N W G Sl sc) (i j i' j' i'' j'' : Nat) {n n' n'' : Str} {p' p'' : Pos} {k : Nat} (hN : N[i]? = some n) (hT : Sl[j]? = some n) (hN' : N[i']? = some n') (hT' : Sl[j']? = some n') (hN'' : N[i'']? = some n'') (hT'' : Sl[j'']? = some n'')
    (h1 : (assignEach [.Name n pos, .Name n' p', .Name n'' p''] X.env).map (·.2) = assign (.Name n pos) X.env :: (assignEach [.Name n' p', .Name n'' p''] X.env).map (·.2) := by rfl) (h2 : (assignEach [.Name n' p', .Name n'' p''] X.env).map (·.2) = assign (.Name n' p') X.env :: (assignEach [.Name n'' p''] X.env).map (·.2) := by rfl)
    (h2' : (assignEach [.Name n'' p''] X.env).map (·.2) = assign (.Name n'' p'') X.env :: (assignEach [] X.env).map (·.2) := by rfl)
    (h3 : (assignEach [.Name n pos, .Name n' p', .Name n'' p''] X.env).length = 3 := by rfl) (h4 : (assignEach [.Name n pos, .Name n' p', .Name n'' p''] X.env).findIdx? (·.1) = none := by rfl) :
    GX X Γ (.Tuple [.Name n pos, .Name n' p', .Name n'' p''] k p) pUn3 (fun a => ((Γ.set i (.fz a.1)).set i' (.fz a.2.1)).set i'' (.fz a.2.2)) := by
  obtain ⟨a1, a2, a3⟩ := L.slot hN hT
  obtain ⟨b1, b2, b3⟩ := L.slot hN' hT'
  obtain ⟨c1, c2, c3⟩ := L.slot hN'' hT''
  refine (pg_tup L.calm (pgs_cons (pg_name L.nd a1 a2 a3) (pgs_cons (pg_name L.nd b1 b2 b3) (pgs_cons (pg_name L.nd c1 c2 c3) pgs_nil h2') h2) h1) h3 h4).weak fun v σ H Q ⟨F, O, x, a, at_, r, e, q⟩ => ?_
  have := pUn3_some e
  subst this
  cases r with
  | tup h r =>
    cases r with
    | cons r1 r => cases r with
      | cons r2 r => cases r with
        | cons r3 r => cases r; exact ⟨_, _, rfl, le_t at_.sub h.1.sq, rfl, _, _, rfl, _, _, rfl, _, _, rfl, rfl, q _ (((at_.set r1).set r2).set r3)⟩
end
/-! ## loops -/
section
variable {X : Cx} {E : ME} {kk : Nat} {N W G Sl : List Str} {sc : Scope} {Γ : List Ent} {tg e c : Expr} {pos : Pos} {body rest : List Stmt} {mi : Option (List D)}
variable {S L' L2' R' A : Type} {gS : S → List Ent} {gL : L' → List Ent} {gR : R' → List Ent} {vR : R' → D}
/-- for: s0 the state at the start, gS what the slots hold, mt the target's parts -/
theorem ss_for (L : LX X E kk N W G Sl sc) {mt : D → Option A} {gt : S → A → List Ent} {mb : A → S → Option (Ctl S S R')} {s0 : S} (w : Weak Γ (gS s0)) (hi : XI X Γ tg e mi) (hg : ∀ s, GX X (gS s) tg mt (gt s)) (hb : ∀ s a, BS X (gt s a) body (mb a s) gS gS gR vR)
    (hs : ∀ x, foldedSetIterable e X.env x = pure x := by intro _; rfl) : SS X Γ (.For tg e body [] pos) (mi.bind fun xs => forC (fun x s => (mt x).bind fun a => mb a s) xs s0) gS gL gR vR := by
  have hG : PG X tg (fun v σ H Q => ∃ s, tGX X.K (gS s) mt (gt s) v σ H Q) := PG.ex hg
  have hB : PSs X body (fun D σ H => ∃ sa : S × A, tBS X.K (gt sa.1 sa.2) (mb sa.2 sa.1) gS gS gR vR D σ H) := PSs.ex fun sa => hb sa.1 sa.2
  refine (ps_for L.po L.calm hi hG hB hs).weak fun Dd σ H ⟨F, O, c, at_, e, q⟩ => ?_
  obtain ⟨xs, e1, e⟩ := bind_some' e
  refine ⟨F, O, xs, at_, e1, fun F1 H1 J g1 it => ?_⟩
  have run : ∀ i, i ≤ xs.length → True := fun _ _ => trivial
  refine ⟨fun i mm σ' H' => mm = xs.length - i ∧ i ≤ xs.length ∧ ∃ F' s, Le F1 F' ∧ At X.K F' O σ' H' (gS s) ∧ forC (L := L') (fun x s => (mt x).bind fun a => mb a s) (xs.drop i) s = some c, ⟨xs.length, by simp, Nat.zero_le _, F1, s0, Le.refl _, (at_.grow g1).weak w, by simpa using e⟩, ?_⟩
  rintro i mm σ' H' ⟨rfl, hi2, F', s, lf, at', ec⟩
  by_cases hlt : i < xs.length
  · refine .inr ⟨it.go i F' H' lf at'.sub hlt, fun σ2 H2 => ∃ F2 s2, Le F1 F2 ∧ At X.K F2 O σ2 H2 (gS s2) ∧ forC (L := L') (fun x s => (mt x).bind fun a => mb a s) (xs.drop (i + 1)) s2 = some c, fun σ2 H2 ⟨F2, s2, a1, a2, a3⟩ => ⟨xs.length - (i + 1), by omega, rfl, hlt, F2, s2, a1, a2, a3⟩, fun v H2 hy => ?_⟩
    have hx : xs[i]? = some xs[i] := List.getElem?_eq_getElem hlt
    obtain ⟨F2, g2, r2⟩ := it.yld i F' H' v H2 lf at'.sub hy _ hx
    rw [List.drop_eq_getElem_cons hlt] at ec
    unfold forC at ec
    cases hm : mt xs[i] with
    | none => rw [hm] at ec; cases ec
    | some a =>
      rw [hm] at ec
      simp only [Option.bind_some] at ec
      refine ⟨s, F2, O, xs[i], a, at'.grow g2, r2, hm, fun σ3 at3 => ⟨(s, a), F2, O, ?_⟩⟩
      cases hbm : mb a s with
      | none => rw [hbm] at ec; cases ec
      | some d =>
        rw [hbm] at ec
        refine ⟨d, at3, rfl, ?_⟩
        cases d with
        | nx t => exact fun σ4 F4 H4 f4 a4 => ⟨F4, t, lf.trans (g2.f.trans f4), a4, ec⟩
        | ct t => exact fun σ4 F4 H4 f4 a4 => ⟨F4, t, lf.trans (g2.f.trans f4), a4, ec⟩
        | bk t => cases ec; exact fun σ4 F4 H4 f4 a4 => q σ4 F4 H4 (g1.f.trans (lf.trans (g2.f.trans f4))) a4
        | rt r => cases ec; exact fun v5 σ4 F4 H4 f4 a4 => q v5 σ4 F4 H4 (g1.f.trans (lf.trans (g2.f.trans f4))) a4
  · have ei : i = xs.length := by omega
    subst ei
    refine .inl ⟨it.stop F' H' lf at'.sub, ?_⟩
    rw [List.drop_length] at ec
    cases ec
    exact q σ' F' H' (g1.f.trans lf) at'
/-- one name as the target -/
theorem ss_for1 (L : LX X E kk N W G Sl sc) (i j : Nat) {n : Str} {p' : Pos} {mb : D → S → Option (Ctl S S R')} {s0 : S} (hN : N[i]? = some n) (hT : Sl[j]? = some n) (w : Weak Γ (gS s0)) (hi : XI X Γ (.Name n p') e mi) (hb : ∀ s x, BS X ((gS s).set i (.fz x)) body (mb x s) gS gS gR vR)
    (hs : ∀ x, foldedSetIterable e X.env x = pure x := by intro _; rfl) : SS X Γ (.For (.Name n p') e body [] pos) (mi.bind fun xs => forC mb xs s0) gS gL gR vR :=
  ss_for (mt := some) (gt := fun s x => (gS s).set i (.fz x)) (mb := mb) L w hi (fun s => gx_name L i j hN hT) hb hs
/-- while, n turns at most -/
theorem ss_while (L : LX X E kk N W G Sl sc) (n : Nat) {mc : S → Option Bool} {mb : S → Option (Ctl S S R')} {s0 : S} (w : Weak Γ (gS s0)) (hc : ∀ s, TX X (gS s) c (mc s)) (hb : ∀ s, BS X (gS s) body (mb s) gS gS gR vR) :
    SS X Γ (.While c body [] pos) (whileC mc mb n s0) gS gL gR vR := by
  have hC : PT X c (fun σ H Q => ∃ s, tTX X.K (gS s) (mc s) σ H Q) := ⟨fun p s σ H Q I ⟨a, q⟩ => (hc a).run p s σ H Q I q⟩
  have hB : PSs X body (fun D σ H => ∃ s, tBS X.K (gS s) (mb s) gS gS gR vR D σ H) := PSs.ex hb
  refine (ps_while L.po hC hB).weak fun Dd σ H ⟨F, O, c, at_, e, q⟩ => ?_
  refine ⟨fun mm σ' H' => ∃ F' s, Le F F' ∧ At X.K F' O σ' H' (gS s) ∧ whileC (L := L') mc mb mm s = some c, ⟨n, F, s0, Le.refl _, at_.weak w, e⟩, ?_⟩
  rintro mm σ' H' ⟨F', s, lf, at', ec⟩
  cases mm with
  | zero => cases ec
  | succ mm =>
    unfold whileC at ec
    cases hm : mc s with
    | none => rw [hm] at ec; cases ec
    | some b =>
      rw [hm] at ec
      refine ⟨s, F', O, b, at', hm, fun F1 H1 g1 => ?_⟩
      cases b with
      | false =>
        cases ec
        exact q σ' F1 H1 (lf.trans g1.f) (at'.grow g1)
      | true =>
        refine ⟨fun σ2 H2 => ∃ F2 s2, Le F F2 ∧ At X.K F2 O σ2 H2 (gS s2) ∧ whileC (L := L') mc mb mm s2 = some c, fun σ2 H2 h2 => ⟨mm, Nat.lt_succ_self _, h2⟩, s, F1, O, ?_⟩
        cases hbm : mb s with
        | none => rw [hbm] at ec; cases ec
        | some d =>
          rw [hbm] at ec
          refine ⟨d, at'.grow g1, rfl, ?_⟩
          cases d with
          | nx t => exact fun σ4 F4 H4 f4 a4 => ⟨F4, t, lf.trans (g1.f.trans f4), a4, ec⟩
          | ct t => exact fun σ4 F4 H4 f4 a4 => ⟨F4, t, lf.trans (g1.f.trans f4), a4, ec⟩
          | bk t => cases ec; exact fun σ4 F4 H4 f4 a4 => q σ4 F4 H4 (lf.trans (g1.f.trans f4)) a4
          | rt r => cases ec; exact fun v5 σ4 F4 H4 f4 a4 => q v5 σ4 F4 H4 (lf.trans (g1.f.trans f4)) a4
end
end Z
namespace Z
open PySem PySem.Spec L2

/-! ## a target's slots -/
theorem wipe_get (σ : L2.St) : ∀ (vs : List Nat) (i : Nat), (wipe σ vs)[i]? = if i ∈ vs ∧ i < σ.length then some none else σ[i]?
  | [], i => by simp [wipe]
  | v :: vs, i => by
    unfold wipe
    by_cases h : i = v
    · subst h
      by_cases hl : i < σ.length
      · rw [List.getElem?_set_self (by rw [wipe_length]; exact hl)]; simp [hl]
      · rw [List.getElem?_eq_none (by rw [List.length_set, wipe_length]; omega), List.getElem?_eq_none (by omega)]; simp [hl]
    · rw [List.getElem?_set_ne (Ne.symm h), wipe_get σ vs i]
      simp [h]
theorem wipe_eq {σ τ : L2.St} {vs : List Nat} (hl : σ.length = τ.length) (h : ∀ i, i ∉ vs → σ[i]? = τ[i]?) : wipe σ vs = wipe τ vs := by
  apply List.ext_getElem?
  intro i
  rw [wipe_get, wipe_get, hl]
  by_cases hi : i ∈ vs
  · by_cases h2 : i < τ.length
    · simp [hi, h2]
    · simp only [hi, h2, and_false, if_false]
      rw [List.getElem?_eq_none (by omega), List.getElem?_eq_none (by omega)]
  · simp only [hi, false_and, if_false]
    exact h i hi
/-- what is known of the slots, without some -/
def wipeE (Γ : List Ent) : List Nat → List Ent
  | [] => Γ
  | v :: vs => (wipeE Γ vs).set v .no
theorem At.wipe {K : PySem.W.Frag} {F O H : Hp} {σ : L2.St} {Γ : List Ent} (h : At K F O σ H Γ) : ∀ vs, At K F O (L2.wipe σ vs) H (wipeE Γ vs)
  | [] => h
  | v :: vs => (At.wipe h vs).junk
theorem Grow.mut {F H F' H' : Hp} {p : Addr} {o : HO} (g : Grow F H F' H') (h : H p = none) (f : F' p = none) : Grow F H F' (upd H' p o) :=
  ⟨g.f, fun a u e => by rw [upd_ne (ne_of_none e h)]; exact g.h a u e, fun a u e => by rw [upd_ne (ne_of_none e f)]; exact g.s a u e, g.n⟩

/-! a target, telling which slots it stores -/
def tGY {A : Type} (K : PySem.W.Frag) (Γ : List Ent) (ts : List Nat) (mt : D → Option A) (gt : A → List Ent) : TG := fun v σ H Q => ∃ F O x a, At K F O σ H Γ ∧ Rep K F v x ∧ mt x = some a ∧ ∀ σ', At K F O σ' H (gt a) → L2.wipe σ' ts = L2.wipe σ ts → Q σ' H
abbrev GY {A : Type} (X : Cx) (Γ : List Ent) (ts : List Nat) (tg : Expr) (mt : D → Option A) (gt : A → List Ent) : Prop := PG X tg (tGY X.K Γ ts mt gt)
section
variable {X : Cx} {E : ME} {kk : Nat} {N W G Sl : List Str} {sc : Scope} {Γ : List Ent} {tg e a b c elt : Expr} {pos p : Pos} {x y z : D} {me ma mb mc : Option D} {K : PySem.W.Frag} {F : Hp}
theorem gy_name (L : LX X E kk N W G Sl sc) (i j : Nat) {n : Str} (hN : N[i]? = some n) (hT : Sl[j]? = some n) : GY X Γ [i] (.Name n pos) some (fun x => Γ.set i (.fz x)) := by
  obtain ⟨h1, h2, h3⟩ := L.slot hN hT
  refine (pg_name L.nd h1 h2 h3).weak fun v σ H Q ⟨F, O, x, a, at_, r, e, q⟩ => ?_
  cases e
  exact q _ (at_.set r) (wipe_eq (by simp) fun k hk => by rw [List.getElem?_set_ne (by simp at hk; omega)])
theorem gy_tup2 (L : LX X E kk N W G Sl sc) (i j i' j' : Nat) {n n' : Str} {p' : Pos} {k : Nat} (hN : N[i]? = some n) (hT : Sl[j]? = some n) (hN' : N[i']? = some n') (hT' : Sl[j']? = some n')
    (h1 : (assignEach [.Name n pos, .Name n' p'] X.env).map (·.2) = assign (.Name n pos) X.env :: (assignEach [.Name n' p'] X.env).map (·.2) := by rfl) (h2 : (assignEach [.Name n' p'] X.env).map (·.2) = assign (.Name n' p') X.env :: (assignEach [] X.env).map (·.2) := by rfl)
    (h3 : (assignEach [.Name n pos, .Name n' p'] X.env).length = 2 := by rfl) (h4 : (assignEach [.Name n pos, .Name n' p'] X.env).findIdx? (·.1) = none := by rfl) :
    GY X Γ [i, i'] (.Tuple [.Name n pos, .Name n' p'] k p) pUn2 (fun a => (Γ.set i (.fz a.1)).set i' (.fz a.2)) := by
  obtain ⟨a1, a2, a3⟩ := L.slot hN hT
  obtain ⟨b1, b2, b3⟩ := L.slot hN' hT'
  refine (pg_tup L.calm (pgs_cons (pg_name L.nd a1 a2 a3) (pgs_cons (pg_name L.nd b1 b2 b3) pgs_nil h2) h1) h3 h4).weak fun v σ H Q ⟨F, O, x, a, at_, r, e, q⟩ => ?_
  have := pUn2_some e
  subst this
  cases r with
  | tup h r =>
    cases r with
    | cons r1 r => cases r with
      | cons r2 r =>
        cases r
        refine ⟨_, _, rfl, le_t at_.sub h.1.sq, rfl, _, _, rfl, _, _, rfl, rfl, q _ ((at_.set r1).set r2) (wipe_eq (by simp) fun k hk => ?_)⟩
        simp at hk
        rw [List.getElem?_set_ne (by omega), List.getElem?_set_ne (by omega)]
theorem gy_tup3 (L : LX X E kk N W G Sl sc) (i j i' j' i'' j'' : Nat) {n n' n'' : Str} {p' p'' : Pos} {k : Nat} (hN : N[i]? = some n) (hT : Sl[j]? = some n) (hN' : N[i']? = some n') (hT' : Sl[j']? = some n') (hN'' : N[i'']? = some n'') (hT'' : Sl[j'']? = some n'')
    (h1 : (assignEach [.Name n pos, .Name n' p', .Name n'' p''] X.env).map (·.2) = assign (.Name n pos) X.env :: (assignEach [.Name n' p', .Name n'' p''] X.env).map (·.2) := by rfl) (h2 : (assignEach [.Name n' p', .Name n'' p''] X.env).map (·.2) = assign (.Name n' p') X.env :: (assignEach [.Name n'' p''] X.env).map (·.2) := by rfl)
    (h2' : (assignEach [.Name n'' p''] X.env).map (·.2) = assign (.Name n'' p'') X.env :: (assignEach [] X.env).map (·.2) := by rfl)
    (h3 : (assignEach [.Name n pos, .Name n' p', .Name n'' p''] X.env).length = 3 := by rfl) (h4 : (assignEach [.Name n pos, .Name n' p', .Name n'' p''] X.env).findIdx? (·.1) = none := by rfl) :
    GY X Γ [i, i', i''] (.Tuple [.Name n pos, .Name n' p', .Name n'' p''] k p) pUn3 (fun a => ((Γ.set i (.fz a.1)).set i' (.fz a.2.1)).set i'' (.fz a.2.2)) := by
  obtain ⟨a1, a2, a3⟩ := L.slot hN hT
  obtain ⟨b1, b2, b3⟩ := L.slot hN' hT'
  obtain ⟨c1, c2, c3⟩ := L.slot hN'' hT''
  refine (pg_tup L.calm (pgs_cons (pg_name L.nd a1 a2 a3) (pgs_cons (pg_name L.nd b1 b2 b3) (pgs_cons (pg_name L.nd c1 c2 c3) pgs_nil h2') h2) h1) h3 h4).weak fun v σ H Q ⟨F, O, x, a, at_, r, e, q⟩ => ?_
  have := pUn3_some e
  subst this
  cases r with
  | tup h r =>
    cases r with
    | cons r1 r => cases r with
      | cons r2 r => cases r with
        | cons r3 r =>
          cases r
          refine ⟨_, _, rfl, le_t at_.sub h.1.sq, rfl, _, _, rfl, _, _, rfl, _, _, rfl, rfl, q _ (((at_.set r1).set r2).set r3) (wipe_eq (by simp) fun k hk => ?_)⟩
          simp at hk
          rw [List.getElem?_set_ne (by omega), List.getElem?_set_ne (by omega), List.getElem?_set_ne (by omega)]

/-! ## list comprehensions -/
/-- an expression that is stored in a way of its own -/
structure CE (X : Cx) (e : Expr) (t : TE) : Prop where
  pe : PE X e t
  st : ∀ (i : Nat) (y : Str) (py spos : Pos), X.N[i]? = some y → X.env.scope.names.lookup y = some .local → swapsWith e (some (.Name y py)) spos.line X.env = pure true → PS X (.Assign [.Name y py] e spos) (tAsg t (gName i))
theorem CE.weak {e : Expr} {t t' : TE} (h : CE X e t) (w : ∀ σ H Q, t' σ H Q → t σ H Q) : CE X e t' := ⟨h.pe.weak w, fun i y py spos a b c => (h.st i y py spos a b c).weak fun D σ H q => w σ H _ q⟩
/-- item by item: a value, or nothing -/
def lcG (f : D → Option (Option D)) : List D → Option (List D)
  | [] => some []
  | x :: r => (f x).bind fun o => (lcG f r).map fun ys => match o with
    | some y => y :: ys
    | none => ys
def lcM (f : D → Option D) : List D → Option (List D)
  | [] => some []
  | x :: r => (f x).bind fun y => (lcM f r).map (y :: ·)
def lcI (c : D → Option Bool) (f : D → Option D) : List D → Option (List D)
  | [] => some []
  | x :: r => (c x).bind fun b => if b = true then (f x).bind fun y => (lcI c f r).map (y :: ·) else lcI c f r
theorem lcM_G (f : D → Option D) : ∀ xs, lcM f xs = lcG (fun x => (f x).map some) xs
  | [] => rfl
  | x :: r => by
    unfold lcM lcG
    rw [lcM_G f r]
    cases f x <;> rfl
theorem lcI_G (c : D → Option Bool) (f : D → Option D) : ∀ xs, lcI c f xs = lcG (fun x => (c x).bind fun b => if b = true then (f x).map some else some none) xs
  | [] => rfl
  | x :: r => by
    unfold lcI lcG
    rw [lcI_G c f r]
    cases c x with
    | none => rfl
    | some b =>
      cases b with
      | true => simp only [Option.bind_some, if_true]; cases f x <;> rfl
      | false =>
        simp only [Option.bind_some, Bool.false_eq_true, if_false]
        cases lcG (fun x => (c x).bind fun b => if b = true then Option.map some (f x) else some none) r <;> rfl

def blkSto (scope sc : Scope) (Sl : List Str) : Bool := Sl.all fun x => match (relS scope sc).names.lookup x with
  | some .local => true
  | some .cell => scope.names.lookup x == some .cell
  | _ => false
theorem LX.blk {Wb Gb Sb : List Str} (L : LX X E kk N W G Sl sc) {s : Shared} {H : Hp} {C : Addr} {cl : List (Str × Addr)} {fp : List Addr} {scope : Scope} (st : stOk N Wb Gb (relS scope sc) = true) (sto : blkSto scope sc Sb = true) :
    LX (X.blk s H scope (compEnvC scope cl C X.env) fp) E kk N Wb Gb Sb (relS scope sc) where
  mx := ⟨L.mx.prog, L.mx.w, L.mx.K, L.mx.mg, L.mx.base⟩
  rm := L.rm
  n := L.n
  scp := by show relS scope X.env.scope = _; rw [L.scp]
  calm := L.calm
  st := st
  sto := fun x hx => by
    have h := List.all_eq_true.mp sto x hx
    show L2.Loc (relS scope X.env.scope) x ∧ ((scope.names.lookup x == some NameKind.cell) = true ∨ (relS scope X.env.scope).names.lookup x = some .local)
    rw [L.scp]
    unfold L2.Loc
    split at h
    · rename_i e; exact ⟨.inl e, .inr e⟩
    · rename_i e; exact ⟨.inr e, .inl h⟩
    · cases h
  po := PassesOwn.never
/-- the block's facts, decided -/
def lcOk (N W G Sl : List Str) (sc scope : Scope) (own : List (Str × Nat)) : Bool := stOk N W G (relS scope sc) && blkSto scope sc Sl && blkC N sc scope own

/-- in a block -/
structure Blk (X X' : Cx) : Prop where
  K : X'.K = X.K
variable {scope : Scope} {mi : Option (List D)} {A : Type}
theorem ex_lcG (L : LX X E kk N W G Sl sc) {Wb Gb Sb : List Str} (own : List (Str × Nat)) (ok : lcOk N Wb Gb Sb sc scope own = true) {ifs : List Expr} {mt : D → Option A} {gt : A → List Ent} {cc : A → Option Bool} {mf : A → Option D}
    (hi : XI X Γ tg e mi)
    (hg : ∀ X', LX X' E kk N Wb Gb Sb (relS scope sc) → GY X' (wipeE Γ (own.map (·.2))) (own.map (·.2)) tg mt gt)
    (ht : ∀ X', LX X' E kk N Wb Gb Sb (relS scope sc) → ∀ a, PTs X' ifs (tTX X'.K (gt a) (cc a)))
    (he : ∀ X', LX X' E kk N Wb Gb Sb (relS scope sc) → ∀ a, EX X' (gt a) elt (mf a)) (hs : ∀ x, foldedSetIterable e X.env x = pure x := by intro _; rfl) :
    CE X (.ListComp elt [⟨tg, e, ifs, 0⟩] scope pos) (tX X.K Γ (mi.bind fun xs => (lcG (fun x => (mt x).bind fun a => (cc a).bind fun b => if b = true then (mf a).map some else some none) xs).map .list) id) := by
  unfold lcOk at ok
  simp only [Bool.and_eq_true] at ok
  obtain ⟨⟨o1, o2⟩, o3⟩ := ok
  have o4 : BlkOk X.N X.env.scope scope own := by rw [L.n, L.scp]; exact blkOk_by o3
  have hT : ∀ (s : Shared) (H : Hp) (C : Addr) (cl : List (Str × Addr)) (fp : List Addr), PTs (X.blk s H scope (compEnvC scope cl C X.env) fp) ifs (fun σ H Q => ∃ a, tTX X.K (gt a) (cc a) σ H Q) :=
    fun s H C cl fp => ⟨fun p s' σ H' Q I ⟨a, q⟩ => (ht _ (L.blk o1 o2) a).run p s' σ H' Q I q⟩
  have hE : ∀ (s : Shared) (H : Hp) (C : Addr) (cl : List (Str × Addr)) (fp : List Addr), PE (X.blk s H scope (compEnvC scope cl C X.env) fp) elt (fun σ H Q => ∃ a, tX X.K (gt a) (mf a) id σ H Q) :=
    fun s H C cl fp => ⟨fun p s' σ H' Q I ⟨a, q⟩ => (he _ (L.blk o1 o2) a).run p s' σ H' Q I q⟩
  have hG : ∀ (s : Shared) (H : Hp) (C : Addr) (cl : List (Str × Addr)) (fp : List Addr), PG (X.blk s H scope (compEnvC scope cl C X.env) fp) tg (tGY X.K (wipeE Γ (own.map (·.2))) (own.map (·.2)) mt gt) := fun s H C cl fp => hg _ (L.blk o1 o2)
  refine (CE.mk (pe_lc L.calm L.nd hi o4 hG hT hE hs) fun i y py spos a b c => ps_setLc L.calm L.nd a b c hi o4 hG hT hE hs).weak fun σ H Q ⟨F, O, z, at_, e, q⟩ => ?_
  obtain ⟨xs, e1, e⟩ := bind_some' e
  obtain ⟨ys, e2, e3⟩ := Option.map_eq_some_iff.mp e
  subst e3
  refine ⟨F, O, xs, at_, e1, fun F1 H1 J g1 it D hD => ?_⟩
  let f := fun x => (mt x).bind fun a => (cc a).bind fun b => if b = true then (mf a).map some else some none
  have atw := at_.wipe (own.map (·.2))
  refine ⟨fun i mm H' => mm = xs.length - i ∧ i ≤ xs.length ∧ ∃ F' acc zs ws, Grow F1 H1 F' H' ∧ F' D = none ∧ H' D = some (.lst acc) ∧ acc.length ≤ i ∧ Reps X.K F' acc zs ∧ lcG f (xs.drop i) = some ws ∧ zs ++ ws = ys,
    ⟨xs.length, by simp, Nat.zero_le _, F1, [], [], ys, (Grow.refl g1.s).mut hD (g1.s.none hD), g1.s.none hD, upd_same, Nat.le_refl _, .nil, by simpa using e2, rfl⟩, ?_⟩
  rintro i mm H' ⟨rfl, hi2, F', acc, zs, ws, g, fD, hDa, hl, r, ew, ey⟩
  by_cases hlt : i < xs.length
  · refine .inr ⟨it.go i F' H' g.f g.s hlt, fun H2 => ∃ F2 acc2 zs2 ws2, Grow F1 H1 F2 H2 ∧ F2 D = none ∧ H2 D = some (.lst acc2) ∧ acc2.length ≤ i + 1 ∧ Reps X.K F2 acc2 zs2 ∧ lcG f (xs.drop (i + 1)) = some ws2 ∧ zs2 ++ ws2 = ys,
      fun H2 ⟨F2, acc2, zs2, ws2, a⟩ => ⟨xs.length - (i + 1), by omega, rfl, hlt, F2, acc2, zs2, ws2, a⟩, fun v H2 hy => ?_⟩
    obtain ⟨F2, g2, r2⟩ := it.yld i F' H' v H2 g.f g.s hy _ (List.getElem?_eq_getElem hlt)
    rw [List.drop_eq_getElem_cons hlt] at ew
    unfold lcG at ew
    obtain ⟨o, ef, ew⟩ := bind_some' ew
    obtain ⟨ws2, ew2, ew3⟩ := Option.map_eq_some_iff.mp ew
    obtain ⟨a, em, ef⟩ := bind_some' ef
    obtain ⟨b, ec, ef⟩ := bind_some' ef
    have gg : Grow F H F2 H2 := g1.trans (g.trans g2)
    have nD : ∀ {F3 H3 : Hp}, Grow F' H' F3 H3 → F3 D = none := fun {F3 H3} g3 => by
      cases qd : F3 D with
      | none => rfl
      | some u =>
        rcases g3.n D (by rw [qd]; simp) with h | h
        · exact absurd fD h
        · rw [hDa] at h; cases h
    refine ⟨F2, O, xs[i], a, (atw.grow gg), r2, em, fun σ2 at2 hw => ⟨by rw [hw]; exact wipe_eq (wipe_length _ _) fun k hk => by rw [wipe_get]; simp [hk], a, F2, O, b, at2, ec, fun F3 H3 g3 => ?_⟩⟩
    have g23 := g2.trans g3
    cases b with
    | false =>
      simp only [Bool.false_eq_true, if_false, Option.some.injEq] at ef ⊢
      subst ef
      simp only at ew3
      subst ew3
      exact ⟨F3, acc, zs, ws2, g.trans g23, nD g23, g23.h _ _ hDa, by omega, r.mono g23.f, ew2, ey⟩
    | true =>
      simp only [if_true] at ef ⊢
      obtain ⟨y, ey2, ef⟩ := Option.map_eq_some_iff.mp ef
      subst ef
      simp only at ew3
      subst ew3
      refine ⟨a, F3, O, y, at2.grow g3, ey2, fun w F4 H4 g4 r4 => ?_⟩
      have g24 := g23.trans g4
      have hs2 : xs.length ≤ sizeLine := it.len
      refine ⟨acc, g24.h _ _ hDa, by omega, F4, acc ++ [w], zs ++ [y], ws2, ((g.trans g24).mut hD (nD g24)), nD g24, upd_same, by simp; omega, (r.mono g24.f).snoc r4, ew2, by rw [List.append_assoc]; exact ey⟩
  · have ei : i = xs.length := by omega
    subst ei
    refine .inl ⟨it.stop F' H' g.f g.s, ?_⟩
    rw [List.drop_length] at ew
    cases ew
    rw [List.append_nil] at ey
    subst ey
    refine q _ (upd F' D (.lst acc)) H' ⟨fun a u h => ?_, g1.h.trans g.h, fun a u h => ?_, fun a h => ?_⟩ (.lst ⟨upd_same, Nat.le_trans hl it.len⟩ (r.mono (Le.new fD)))
    · rw [upd_ne (ne_of_none (g.f _ _ (g1.f _ _ h)) fD)]; exact g.f _ _ (g1.f _ _ h)
    · by_cases ea : a = D
      · subst ea; rw [upd_same] at h; cases h; exact hDa
      · rw [upd_ne ea] at h; exact g.s _ _ h
    · by_cases ea : a = D
      · subst ea; exact .inr (g1.h.none hD)
      · rw [upd_ne ea] at h
        rcases g.n a h with h | h
        · exact g1.n a h
        · exact .inr (g1.h.none h)
theorem pts_yes {X' : Cx} {Δ : List Ent} : PTs X' [] (tTX X'.K Δ (some true)) := ⟨fun p s σ H Q I ⟨F, O, b, at_, e, q⟩ => by cases e; exact pts_nil.run p s σ H Q I (q F H (Grow.refl at_.sub))⟩
theorem pts_ifs {X' : Cx} {Δ : List Ent} {c : Expr} {m : Option Bool} (h : TX X' Δ c m) : PTs X' [c] (tTX X'.K Δ m) := pts_one h
/-- [elt for n in e] -/
theorem ex_lc1 (L : LX X E kk N W G Sl sc) {Wb Gb Sb : List Str} (i j : Nat) {n : Str} {p' : Pos} (hN : N[i]? = some n) (hT : Sb[j]? = some n) (ok : lcOk N Wb Gb Sb sc scope [(n, i)] = true) {mf : D → Option D} (hi : XI X Γ (.Name n p') e mi)
    (he : ∀ X', LX X' E kk N Wb Gb Sb (relS scope sc) → ∀ x, EX X' ((Γ.set i .no).set i (.fz x)) elt (mf x)) (hs : ∀ x, foldedSetIterable e X.env x = pure x := by intro _; rfl) :
    CE X (.ListComp elt [⟨.Name n p', e, [], 0⟩] scope pos) (tX X.K Γ (mi.bind fun xs => (lcM mf xs).map .list) id) := by
  have h := ex_lcG (A := D) (mt := some) (gt := fun x => (Γ.set i .no).set i (.fz x)) (cc := fun _ => some true) (mf := mf) (pos := pos) (tg := .Name n p') L [(n, i)] ok hi (fun X' L' => gy_name L' i j hN hT) (fun X' L' a => pts_yes) he hs
  have e1 : lcM mf = lcG (fun x => (some x).bind fun a => (some true).bind fun b => if b = true then (mf a).map some else some none) := by funext xs; rw [lcM_G]; rfl
  rw [e1]
  exact h
/-- [elt for n in e if c] -/
theorem ex_lcI1 (L : LX X E kk N W G Sl sc) {Wb Gb Sb : List Str} (i j : Nat) {n : Str} {p' : Pos} (hN : N[i]? = some n) (hT : Sb[j]? = some n) (ok : lcOk N Wb Gb Sb sc scope [(n, i)] = true) {mf : D → Option D} {cc : D → Option Bool} (hi : XI X Γ (.Name n p') e mi)
    (ht : ∀ X', LX X' E kk N Wb Gb Sb (relS scope sc) → ∀ x, TX X' ((Γ.set i .no).set i (.fz x)) c (cc x))
    (he : ∀ X', LX X' E kk N Wb Gb Sb (relS scope sc) → ∀ x, EX X' ((Γ.set i .no).set i (.fz x)) elt (mf x)) (hs : ∀ x, foldedSetIterable e X.env x = pure x := by intro _; rfl) :
    CE X (.ListComp elt [⟨.Name n p', e, [c], 0⟩] scope pos) (tX X.K Γ (mi.bind fun xs => (lcI cc mf xs).map .list) id) := by
  have h := ex_lcG (A := D) (mt := some) (gt := fun x => (Γ.set i .no).set i (.fz x)) (cc := cc) (mf := mf) (pos := pos) (tg := .Name n p') L [(n, i)] ok hi (fun X' L' => gy_name L' i j hN hT) (fun X' L' a => pts_ifs (ht X' L' a)) he hs
  have e1 : lcI cc mf = lcG (fun x => (some x).bind fun a => (cc a).bind fun b => if b = true then (mf a).map some else some none) := by funext xs; rw [lcI_G]; rfl
  rw [e1]
  exact h
end
end Z
namespace Z
open PySem PySem.Spec L2

/-! ## what a def promises -/
/-- C: what the parameters hold, the answer, what they hold then -/
abbrev Con := List Ent → D → List Ent → Prop
def spC (K : PySem.W.Frag) (C : Con) : Sp := fun vs H Q _ => ∃ F O Γ0 r Γ1, At K F O (vs.map some) H Γ0 ∧ C Γ0 r Γ1 ∧ ∀ v F' H', Le F F' → At K F' O (vs.map some) H' Γ1 → Rep K F' v r → Q v H'
def FnM (E : ME) (k : Nat) (n : Str) (C : Con) : Prop := ∃ f fd ps, FnOk E.prog E.w E.K E.mg E.base CX0 k f fd ps (spC E.K C) ∧ E.mg n = some (.ref f) ∧ PySem.W.keepIn E.K (.ref f) = true ∧ Binds E.K fd ps []
theorem FnM.mono {E : ME} {j k : Nat} {n : Str} {C : Con} (h : FnM E j n C) (le : j ≤ k) : FnM E k n C := let ⟨f, fd, ps, a, b⟩ := h; ⟨f, fd, ps, a.mono le, b⟩
theorem FnM.imp {E : ME} {k : Nat} {n : Str} {C C' : Con} (h : FnM E k n C) (w : ∀ Γ0 r Γ1, C' Γ0 r Γ1 → C Γ0 r Γ1) : FnM E k n C' :=
  let ⟨f, fd, ps, a, b⟩ := h; ⟨f, fd, ps, a.imp fun _ _ _ _ ⟨F, O, Γ0, r, Γ1, x, y, z⟩ => ⟨F, O, Γ0, r, Γ1, x, w _ _ _ y, z⟩, b⟩
/-- all parameters frozen -/
def CP (m : List D → Option D) : Con := fun Γ0 r Γ1 => ∃ xs : List D, Γ0 = xs.map .fz ∧ m xs = some r ∧ Γ1 = xs.map fun _ => .no
/-- everything of H that F does not hold -/
def restH (F H : Hp) : Hp := fun a => if F a = none then H a else none
theorem restH_le {F H : Hp} : Le (restH F H) H := fun a o h => by
  unfold restH at h
  split at h
  · exact h
  · cases h
theorem restH_none {F H : Hp} {a : Addr} (h : F a ≠ none) : restH F H a = none := by unfold restH; rw [if_neg h]
theorem restH_some {F H : Hp} {a : Addr} (h : F a = none) : restH F H a = H a := by unfold restH; rw [if_pos h]
section
variable {K : PySem.W.Frag}
theorem at_args {F H : Hp} (s : Le F H) {vs : List V} {xs : List D} (r : Reps K F vs xs) : At K F (restH F H) (vs.map some) H (xs.map .fz) where
  sub := s
  out := restH_le
  fo := fun a h => restH_none h
  len := by rw [List.length_map, List.length_map, r.length]
  ents := ⟨fun _ => [], ⟨fun _ => List.nodup_nil, fun _ _ h => by simp at h, fun _ _ _ h => by simp at h⟩, fun i e h => by
    rw [List.getElem?_map] at h
    obtain ⟨x, h1, h2⟩ := Option.map_eq_some_iff.mp h
    subst h2
    obtain ⟨v, h3, h4⟩ := r.get h1
    exact ⟨v, by rw [List.getElem?_map, h3]; rfl, h4⟩⟩
theorem grow_of_rest {F H F' H' : Hp} {σ : L2.St} {Γ : List Ent} (s : Le F H) (f : Le F F') (a : At K F' (restH F H) σ H' Γ) : Grow F H F' H' where
  f := f
  h := fun b u e => by
    by_cases h : F b = none
    · exact a.out b u (by rw [restH_some h]; exact e)
    · cases q : F b with
      | none => exact absurd q h
      | some w =>
        have := s b w q
        rw [e] at this
        cases this
        exact a.sub _ _ (f _ _ q)
  s := a.sub
  n := fun b hb => by
    by_cases h : F b = none
    · have := a.fo b hb
      rw [restH_some h] at this
      exact .inr this
    · exact .inl h
end
section
variable {X : Cx} {E : ME} {kk k : Nat} {N W G Sl : List Str} {sc : Scope} {Γ : List Ent} {a b c e : Expr} {es : List Expr} {mr : Option D} {pos p : Pos}
/-- f(..), f a def of the module, all its arguments frozen -/
theorem ex_call {m : List D → Option D} (L : LX X E kk N W G Sl sc) (j : Nat) {n : Str} (hG : G[j]? = some n) (h : FnM E k n (CP m)) (hk : k ≤ kk) (ha : AX X Γ (a :: es) m mr)
    (he : starEach (a :: es) X.env = (false, eval a X.env) :: starEach es X.env := by rfl) (hpl : (backTo pos (starEach es X.env)).any (·.1) = false := by rfl) : EX X Γ (.Call (.Name n p) (a :: es) [] pos) mr := by
  obtain ⟨h1, h2⟩ := L.gl (List.mem_of_getElem? hG)
  obtain ⟨d1, d2, d3⟩ := dund1 h2
  obtain ⟨E1, E2, E3, E4, E5⟩ := E
  obtain ⟨f, fd, ps, ok, hm, hki, hb⟩ := h
  have q1 := L.mx.prog; have q2 := L.mx.w; have q3 := L.mx.K; have q4 := L.mx.mg; have q5 := L.mx.base
  simp only at q1 q2 q3 q4 q5 ok hm hki hb
  subst q1 q2 q3 q4 q5
  refine (pe_call ok (L.rm.mono hk) h1 hm hki hb .nil pass0 ha d1 he hpl).weak fun σ H Q ⟨F, O, z, at_, e, q⟩ => ⟨F, O, z, at_, e, fun vs xs F1 H1 g1 r1 _ ek => ?_⟩
  show spC X.K (CP m) (vs ++ []) H1 Q E0
  rw [List.append_nil]
  exact ⟨F1, restH F1 H1, xs.map .fz, z, xs.map fun _ => .no, at_args g1.s r1, ⟨xs, rfl, ek, rfl⟩, fun v F' H' f a' r' => q v F' H' (g1.trans (grow_of_rest g1.s f a')) r'⟩
theorem ex_call0 {m : List D → Option D} (L : LX X E kk N W G Sl sc) (j : Nat) {n : Str} (hG : G[j]? = some n) (h : FnM E k n (CP m)) (hk : k ≤ kk) : EX X Γ (.Call (.Name n p) [] [] pos) (m []) := by
  obtain ⟨h1, h2⟩ := L.gl (List.mem_of_getElem? hG)
  obtain ⟨d1, d2, d3⟩ := dund1 h2
  obtain ⟨E1, E2, E3, E4, E5⟩ := E
  obtain ⟨f, fd, ps, ok, hm, hki, hb⟩ := h
  have q1 := L.mx.prog; have q2 := L.mx.w; have q3 := L.mx.K; have q4 := L.mx.mg; have q5 := L.mx.base
  simp only at q1 q2 q3 q4 q5 ok hm hki hb
  subst q1 q2 q3 q4 q5
  refine (pe_call0 ok (L.rm.mono hk) h1 hm hki hb .nil pass0 d1).weak fun σ H Q ⟨F, O, z, at_, e, q⟩ => ?_
  exact ⟨F, restH F H, [], z, [], at_args (xs := []) (vs := []) at_.sub .nil, ⟨[], rfl, e, rfl⟩, fun v F' H' f a' r' => q v F' H' (grow_of_rest at_.sub f a') r'⟩
end

/-! ## a def by its body -/
/-- at a return: what is told of the parameters -/
inductive Ret : List Ent → List Ent → List Ent → Prop
  | nil {Γ' : List Ent} : Ret [] Γ' []
  | no {e0 e' : Ent} {Γ0 Γ' Γ1 : List Ent} : Ret Γ0 Γ' Γ1 → Ret (e0 :: Γ0) (e' :: Γ') (.no :: Γ1)
  | ow {s s0 : Sh} {v : V} {x x0 : D} {Γ0 Γ' Γ1 : List Ent} : Ret Γ0 Γ' Γ1 → Ret (.ow s0 (some v) x0 :: Γ0) (.ow s (some v) x :: Γ') (.ow s (some v) x :: Γ1)
theorem Ret.get : ∀ {Γ0 Γ' Γ1 : List Ent} {i : Nat} {e : Ent}, Ret Γ0 Γ' Γ1 → Γ1[i]? = some e → e = .no ∨ ∃ s v x s0 x0, e = .ow s (some v) x ∧ Γ'[i]? = some e ∧ Γ0[i]? = some (.ow s0 (some v) x0)
  | _, _, _, _, _, .nil, h => by simp at h
  | _, _, _, 0, _, .no _, h => .inl (by simpa using h.symm)
  | _, _, _, i + 1, _, .no r, h => by simpa using r.get (i := i) (by simpa using h)
  | _, _, _, 0, _, .ow _, h => by simp at h; subst h; exact .inr ⟨_, _, _, _, _, rfl, rfl, rfl⟩
  | _, _, _, i + 1, _, .ow r, h => by simpa using r.get (i := i) (by simpa using h)
theorem Ret.len : ∀ {Γ0 Γ' Γ1 : List Ent}, Ret Γ0 Γ' Γ1 → Γ1.length = Γ0.length
  | _, _, _, .nil => rfl
  | _, _, _, .no r => congrArg (· + 1) r.len
  | _, _, _, .ow r => congrArg (· + 1) r.len
/-- a body's worth: Γ0 the parameters at the entry, r the answer, Γ1 the parameters then -/
def BodyOk (X : Cx) (Γ0 Γ : List Ent) (ss : List Stmt) (r : D) (Γ1 : List Ent) : Prop :=
  PSs X ss (fun Dd σ H => ∃ F O, At X.K F O σ H Γ ∧ (∀ v σ' F' H' Γ', Le F F' → At X.K F' O σ' H' Γ' → Ret Γ0 Γ' Γ1 → Rep X.K F' v r → Dd.rt v H') ∧ (r = .none → ∀ σ' F' H' Γ', Le F F' → At X.K F' O σ' H' Γ' → Ret Γ0 Γ' Γ1 → Dd.nx σ' H'))
theorem body_of {Nt L' R' : Type} {X : Cx} {Γ0 Γ Γ1 : List Ent} {ss : List Stmt} {m : Option (Ctl Nt L' R')} {gN : Nt → List Ent} {gL : L' → List Ent} {gR : R' → List Ent} {vR : R' → D} {d : Nt → R'} {rr : R'} (b : BS X Γ ss m gN gL gR vR) (e : Ctl.fin d m = some rr)
    (hR : Ret Γ0 (gR rr) Γ1) (hN : ∀ n, d n = rr → vR rr = .none ∧ Ret Γ0 (gN n) Γ1) : BodyOk X Γ0 Γ ss (vR rr) Γ1 :=
  PSs.weak b fun Dd σ H ⟨F, O, at_, q1, q2⟩ => by
    rcases Ctl.fin_some e with ⟨n, h1, h2⟩ | h1
    · obtain ⟨h3, h4⟩ := hN n h2
      exact ⟨F, O, _, at_, h1, fun σ' F' H' f a => q2 h3 σ' F' H' _ f a h4⟩
    · exact ⟨F, O, _, at_, h1, fun v σ' F' H' f a r => q1 v σ' F' H' _ f a hR r⟩
def locC (sc : Scope) (Sl : List Str) : Bool := Sl.all fun x => match sc.names.lookup x with | some .local => true | some .cell => true | _ => false
theorem at_start {K : PySem.W.Frag} {F O H : Hp} {vs : List V} {Γ0 : List Ent} {N : List Str} (h : At K F O (vs.map some) H Γ0) : At K F O (L2.start N vs) H (Γ0 ++ List.replicate (N.length - vs.length) .no) := by
  obtain ⟨fp, d, e⟩ := h.ents
  have hl : Γ0.length = vs.length := by rw [h.len, List.length_map]
  refine ⟨h.sub, h.out, h.fo, by unfold L2.start; simp [hl], fp, d, fun i x hx => ?_⟩
  by_cases hi : i < Γ0.length
  · rw [List.getElem?_append_left hi] at hx
    unfold L2.start
    rw [List.getElem?_append_left (by rw [List.length_map, ← hl]; exact hi)]
    exact e i x hx
  · rw [List.getElem?_append_right (by omega), List.getElem?_replicate] at hx
    split at hx
    · cases hx; trivial
    · cases hx
theorem at_end {K : PySem.W.Frag} {F O H F' H' : Hp} {vs : List V} {σ' : L2.St} {Γ0 Γ' Γ1 : List Ent} (h : At K F O (vs.map some) H Γ0) (h' : At K F' O σ' H' Γ') (r : Ret Γ0 Γ' Γ1) : At K F' O (vs.map some) H' Γ1 := by
  obtain ⟨fp0, d0, e0⟩ := h.ents
  obtain ⟨fp, d, e⟩ := h'.ents
  refine ⟨h'.sub, h'.out, h'.fo, by rw [r.len, h.len], fp, d, fun i x hx => ?_⟩
  rcases r.get hx with q | ⟨s, v, y, s0, y0, q1, q2, q3⟩
  · subst q; trivial
  · subst q1
    obtain ⟨w, z1, z2, z3⟩ := e i _ q2
    obtain ⟨w0, y1, y2, y3⟩ := e0 i _ q3
    have ew := z2 v rfl
    have ew0 := y2 v rfl
    subst ew ew0
    exact ⟨v, y1, fun u hu => by cases hu; rfl, z3⟩
/-- THE RULE -/
theorem fn_ok {E : ME} {k : Nat} {n qual : Str} {st : Stmt} {f : Addr} {fd : FuncData} {N W G Sl ps : List Str} {C : Con} (F : Fun E.K n qual st f fd) (S : FnScope N ps (defScope st)) (hst : stOk N W G (defScope st) = true)
    (hsl : locC (defScope st) Sl = true) (hlen : ∀ Γ0 r Γ1, C Γ0 r Γ1 → Γ0.length = ps.length)
    (body : ∀ X, LX X E k N W G Sl (defScope st) → ∀ Γ0 r Γ1, C Γ0 r Γ1 → BodyOk X Γ0 (Γ0 ++ List.replicate (N.length - ps.length) .no) (defBody st) r Γ1) : FnOk E.prog E.w E.K E.mg E.base CX0 (k + 1) f fd ps (spC E.K C) := by
  have len : ∀ vs H Q Ex, spC E.K C vs H Q Ex → vs.length = ps.length := fun vs H Q Ex ⟨F, O, Γ0, r, Γ1, a, c, _⟩ => by
    have := a.len
    rw [List.length_map] at this
    rw [← this]
    exact hlen _ _ _ c
  refine F.ok S len fun cdv A outer s H vs Q Ex hr hsp => ?_
  obtain ⟨Fz, O, Γ0, r, Γ1, at_, hc, q⟩ := id hsp
  have hl := len _ _ _ _ hsp
  have hl0 : Γ0.length = ps.length := hlen _ _ _ hc
  have sto : ∀ x ∈ Sl, L2.Loc (defScope st) x ∧ (true = true ∨ (defScope st).names.lookup x = some .local) := fun x hx => by
    have h := List.all_eq_true.mp hsl x hx
    unfold L2.Loc
    split at h
    · rename_i e; exact ⟨.inl e, .inl rfl⟩
    · rename_i e; exact ⟨.inr e, .inl rfl⟩
    · cases h
  have B := body (cxOf CX0 E.prog E.w E.K E.mg E.base N qual (defScope st) f cdv A outer s H Ex).nox ⟨⟨rfl, rfl, rfl, rfl, rfl⟩, hr, rfl, rfl, rfl, hst, sto, PassesOwn.never⟩ Γ0 r Γ1 hc
  refine ⟨_, B, Fz, O, ?_, fun v σ' F' H' Γ' f' a' hR r' => q v F' H' f' (at_end at_ a' hR) r', fun e σ' F' H' Γ' f' a' hR => q .non F' H' f' (at_end at_ a' hR) (by rw [e]; exact .non)⟩
  have := at_start (N := N) at_
  rw [hl] at this
  exact this
theorem fn_mk {E : ME} {k : Nat} {n qual : Str} {st : Stmt} {f : Addr} {fd : FuncData} {N W G Sl ps : List Str} {C : Con} (F : Fun E.K n qual st f fd) (hb : Binds E.K fd ps []) (hm : E.mg n = some (.ref f)) (S : FnScope N ps (defScope st)) (hst : stOk N W G (defScope st) = true)
    (hsl : locC (defScope st) Sl = true) (hlen : ∀ Γ0 r Γ1, C Γ0 r Γ1 → Γ0.length = ps.length)
    (body : ∀ X, LX X E k N W G Sl (defScope st) → ∀ Γ0 r Γ1, C Γ0 r Γ1 → BodyOk X Γ0 (Γ0 ++ List.replicate (N.length - ps.length) .no) (defBody st) r Γ1) : FnM E (k + 1) n C :=
  ⟨f, fd, ps, fn_ok F S hst hsl hlen body, hm, F.kp, hb⟩
/-- nothing can be asked at level 0 -/
theorem fn_zero {E : ME} {n : Str} {f : Addr} {fd : FuncData} {ps : List Str} {C : Con} (hm : E.mg n = some (.ref f)) (hk : PySem.W.keepIn E.K (.ref f) = true) (hb : Binds E.K fd ps []) (hno : ∀ Γ0 r Γ1, ¬ C Γ0 r Γ1) : FnM E 0 n C :=
  ⟨f, fd, ps, ⟨fun vs H Q Ex ⟨F, O, Γ0, r, Γ1, a, c, _⟩ => absurd c (hno _ _ _), fun A outer s H args us vs Q Ex _ _ _ _ ⟨F, O, Γ0, r, Γ1, a, c, _⟩ => absurd c (hno _ _ _)⟩, hm, hk, hb⟩
end Z
namespace Z
open PySem PySem.Spec L2

/-! ## owned lists -/
section
variable {K : PySem.W.Frag} {F O H : Hp} {σ : L2.St} {Γ : List Ent} {i : Nat}
/-- what an owned list's slot is worth -/
theorem At.own (h : At K F O σ H Γ) {ov : Option V} {x : D} (e : Γ[i]? = some (.ow .l ov x)) : ∃ p vs xs, σ[i]? = some (some (.ref p)) ∧ (∀ u, ov = some u → u = .ref p) ∧ x = .list xs ∧ H p = some (.lst vs) ∧ vs.length ≤ sizeLine ∧ Reps K F vs xs ∧ F p = none ∧ O p = none ∧
    (∀ vs' xs', Reps K F vs' xs' → vs'.length ≤ sizeLine → At K F O σ (upd H p (.lst vs')) (Γ.set i (.ow .l ov (.list xs')))) ∧ At K (upd F p (.lst vs)) O σ H (Γ.set i (.fz x)) := by
  obtain ⟨fp, d, q⟩ := h.ents
  obtain ⟨v, h1, h2, t⟩ := q i _ e
  have hi : i < Γ.length := (List.getElem?_eq_some_iff.mp e).1
  generalize hfp : fp i = fpi at t
  cases t with
  | @l p vs xs hp r =>
    obtain ⟨hp, hz⟩ := hp
    have mp : p ∈ fp i := by rw [hfp]; simp
    obtain ⟨fF, fO⟩ := d.f i p mp
    refine ⟨p, vs, xs, h1, h2, rfl, hp, hz, r, fF, fO, fun vs' xs' r' hz' => ?_, ?_⟩
    · refine ⟨fun a o ha => by rw [upd_ne (ne_of_none ha fF)]; exact h.sub a o ha, fun a o ha => by rw [upd_ne (ne_of_none ha fO)]; exact h.out a o ha, h.fo, by simp [h.len], fp, d, fun j e1 he => ?_⟩
      by_cases hj : j = i
      · subst hj
        rw [List.getElem?_set_self hi] at he
        cases he
        refine ⟨_, h1, h2, ?_⟩
        rw [hfp]
        exact .l ⟨upd_same, hz'⟩ r'
      · rw [List.getElem?_set_ne (Ne.symm hj)] at he
        refine (q j e1 he).frame (Le.refl F) fun a ha => upd_ne fun ea => ?_
        subst ea
        exact hj (d.ap j i _ ha mp)
    · have le : Le F (upd F p (.lst vs)) := Le.new fF
      refine ⟨fun a o ha => ?_, h.out, fun a ha => ?_, by simp [h.len], fun j => if j = i then [] else fp j, ⟨fun j => ?_, fun j a ha => ?_, fun j k a ha hb => ?_⟩, fun j e1 he => ?_⟩
      · by_cases ea : a = p
        · subst ea; rw [upd_same] at ha; cases ha; exact hp
        · rw [upd_ne ea] at ha; exact h.sub a o ha
      · by_cases ea : a = p
        · subst ea; exact fO
        · rw [upd_ne ea] at ha; exact h.fo a ha
      · by_cases hj : j = i
        · simp [hj]
        · simp only [hj, if_false]; exact d.nd j
      · by_cases hj : j = i
        · simp [hj] at ha
        · simp only [hj, if_false] at ha
          have ea : a ≠ p := fun ea => by subst ea; exact hj (d.ap j i _ ha mp)
          exact ⟨by rw [upd_ne ea]; exact (d.f j a ha).1, (d.f j a ha).2⟩
      · by_cases hj : j = i
        · simp [hj] at ha
        · by_cases hk : k = i
          · simp [hk] at hb
          · simp only [hj, hk, if_false] at ha hb; exact d.ap j k a ha hb
      · by_cases hj : j = i
        · subst hj
          rw [List.getElem?_set_self hi] at he
          cases he
          exact ⟨_, h1, .lst ⟨upd_same, hz⟩ (r.mono le)⟩
        · rw [List.getElem?_set_ne (Ne.symm hj)] at he
          simp only [hj, if_false]
          exact (q j e1 he).frame le fun a _ => rfl
/-- a new list, owned by a slot -/
theorem At.newOwn (h : At K F O σ H Γ) {p : Addr} (hp : H p = none) {vs : List V} {xs : List D} (r : Reps K F vs xs) (hz : vs.length ≤ sizeLine) : At K F O (σ.set i (some (.ref p))) (upd H p (.lst vs)) (Γ.set i (.ow .l none (.list xs))) := by
  obtain ⟨fp, d, q⟩ := h.ents
  have fF : F p = none := h.sub.none hp
  have fO : O p = none := h.out.none hp
  refine ⟨fun a o ha => by rw [upd_ne (ne_of_none ha fF)]; exact h.sub a o ha, fun a o ha => by rw [upd_ne (ne_of_none ha fO)]; exact h.out a o ha, h.fo, by simp [h.len],
    fun j => if j = i then [p] else (match Γ[j]? with | some (.ow _ _ _) => fp j | _ => []), ⟨fun j => ?_, fun j a ha => ?_, fun j k a ha hb => ?_⟩, fun j e1 he => ?_⟩
  · by_cases hj : j = i
    · simp [hj]
    · simp only [hj, if_false]
      split
      · exact d.nd j
      · exact List.nodup_nil
  · by_cases hj : j = i
    · simp [hj] at ha; subst ha; exact ⟨fF, fO⟩
    · simp only [hj, if_false] at ha
      split at ha
      · exact d.f j a ha
      · cases ha
  · have key : ∀ j, j ≠ i → a ∈ (match Γ[j]? with | some (.ow _ _ _) => fp j | _ => []) → a ∈ fp j ∧ a ≠ p := fun j hj ha => by
      split at ha
      · rename_i s w x hx
        refine ⟨ha, fun ea => ?_⟩
        obtain ⟨v, q1, q2, t⟩ := q j _ hx
        have := t.there a ha
        rw [ea] at this
        exact this hp
      · cases ha
    by_cases hj : j = i
    · by_cases hk : k = i
      · rw [hj, hk]
      · simp [hj] at ha
        simp only [hk, if_false] at hb
        exact absurd ha (key k hk hb).2
    · simp only [hj, if_false] at ha
      by_cases hk : k = i
      · simp [hk] at hb
        exact absurd hb (key j hj ha).2
      · simp only [hk, if_false] at hb
        exact d.ap j k a (key j hj ha).1 (key k hk hb).1
  · by_cases hj : j = i
    · subst hj
      have hjl : j < Γ.length := by
        have := (List.getElem?_eq_some_iff.mp he).1
        simpa using this
      rw [List.getElem?_set_self hjl] at he
      cases he
      simp only [if_true]
      exact ⟨.ref p, by rw [List.getElem?_set_self (by rw [← h.len]; exact hjl)], ⟨fun u hu => (nomatch hu), Tree.l ⟨upd_same, hz⟩ r⟩⟩
    · rw [List.getElem?_set_ne (Ne.symm hj)] at he
      rw [List.getElem?_set_ne (Ne.symm hj)]
      have qq := q j e1 he
      simp only [hj, if_false]
      cases e1 with
      | no => trivial
      | fz x => exact qq
      | sc ns => exact qq
      | ow s w x =>
        simp only [he]
        refine qq.frame (Le.refl F) fun a ha => upd_ne fun ea => ?_
        obtain ⟨v, q1, q2, t⟩ := qq
        exact t.there a ha (by rw [ea]; exact hp)
end
/-- a growth, less one address that was there -/
def lessP (F : Hp) (p : Addr) : Hp := fun a => if a = p then none else F a
theorem lessP_ne {F : Hp} {p a : Addr} (h : a ≠ p) : lessP F p a = F a := by unfold lessP; rw [if_neg h]
theorem lessP_same {F : Hp} {p : Addr} : lessP F p p = none := by unfold lessP; rw [if_pos rfl]
theorem grow_less {F H F' H' : Hp} {p : Addr} {o : HO} (fF : F p = none) (hp : H p ≠ none) (g : Grow (upd F p o) H F' H') : Grow F H (lessP F' p) H' where
  f := fun a u h => by
    have ea : a ≠ p := ne_of_none h fF
    rw [lessP_ne ea]
    exact g.f a u (by rw [upd_ne ea]; exact h)
  h := g.h
  s := fun a u h => by
    by_cases ea : a = p
    · subst ea; rw [lessP_same] at h; cases h
    · rw [lessP_ne ea] at h; exact g.s a u h
  n := fun a h => by
    by_cases ea : a = p
    · subst ea; rw [lessP_same] at h; exact absurd rfl h
    · rw [lessP_ne ea] at h
      have := g.n a h
      rw [upd_ne ea] at this
      exact this
def scal : D → Bool
  | .list _ => false
  | .tuple _ => false
  | .dict _ => false
  | _ => true
theorem rep_scal {K : PySem.W.Frag} {F F' : Hp} {v : V} {x : D} (h : scal x = true) (r : Rep K F v x) : Rep K F' v x := by
  cases r with
  | non => exact .non
  | bl b => exact .bl b
  | int i => exact .int i
  | str s => exact .str s
  | lst _ _ => cases h
  | tup _ _ => cases h

/-! ## what is reckoned on owned lists -/
def pApp (x y : D) : Option D := match x with
  | .list xs => if xs.length < sizeLine then some (.list (xs ++ [y])) else none
  | _ => none
def pExt (x y : D) : Option D := match x, y with
  | .list xs, .list ys => if xs.length + ys.length ≤ sizeLine then some (.list (xs ++ ys)) else none
  | _, _ => none
def pPop (x : D) : Option (D × D) := match x with
  | .list xs => (xs[xs.length - 1]?).map fun y => (y, .list xs.dropLast)
  | _ => none
def pPopAt (x i : D) : Option (D × D) := match x, i with
  | .list xs, .int i => if -(2 ^ 63) ≤ i ∧ i < 2 ^ 63 then (seqIndex? i xs.length).bind fun k => (xs[k]?).map fun y => (y, .list (xs.eraseIdx k)) else none
  | _, _ => none
def pSetI (x i y : D) : Option D := match x, i with
  | .list xs, .int k => (ixN xs.length k).map fun j => .list (xs.set j y)
  | _, _ => none

section
variable {X : Cx} {E : ME} {kk k : Nat} {N W G Sl : List Str} {sc : Scope} {Γ : List Ent} {a b c e : Expr} {es : List Expr} {x y : D} {me ma mb : Option D} {pos p p1 p2 : Pos} {rest ss : List Stmt}
variable {Nt L' R' : Type} {gN : Nt → List Ent} {gL : L' → List Ent} {gR : R' → List Ent} {vR : R' → D}

/-! ### reading an owned list -/
theorem bs_freeze {m : Option (Ctl Nt L' R')} (i : Nat) {ov : Option V} (hΓ : Γ[i]? = some (.ow .l ov x)) (h : BS X (Γ.set i (.fz x)) ss m gN gL gR vR) : BS X Γ ss m gN gL gR vR := PSs.weak h fun Dd σ H ⟨F, O, c, at_, e, q⟩ => by
  obtain ⟨p, vs, xs, h1, h2, h3, h4, h5, h6, h7, h8, h9, h10⟩ := at_.own hΓ
  exact ⟨_, O, c, h10, e, q.le (Le.new h7)⟩
theorem tx_borrow {m : Option Bool} (i : Nat) {ov : Option V} (hΓ : Γ[i]? = some (.ow .l ov x)) (h : TX X (Γ.set i (.fz x)) e m) : TX X Γ e m := PT.weak h fun σ H Q ⟨F, O, c, at_, e, q⟩ => by
  obtain ⟨p, vs, xs, h1, h2, h3, h4, h5, h6, h7, h8, h9, h10⟩ := at_.own hΓ
  exact ⟨_, O, c, h10, e, fun F' H' g => q _ H' (grow_less h7 (by rw [h4]; simp) g)⟩
theorem ex_borrow {m : Option D} (i : Nat) {ov : Option V} (hΓ : Γ[i]? = some (.ow .l ov x)) (hs : ∀ y, m = some y → scal y = true) (h : EX X (Γ.set i (.fz x)) e m) : EX X Γ e m := PE.weak h fun σ H Q ⟨F, O, c, at_, e, q⟩ => by
  obtain ⟨p, vs, xs, h1, h2, h3, h4, h5, h6, h7, h8, h9, h10⟩ := at_.own hΓ
  exact ⟨_, O, c, h10, e, fun v F' H' g r => q v _ H' (grow_less h7 (by rw [h4]; simp) g) (rep_scal (hs c e) r)⟩
theorem own_var (L : LX X E kk N W G Sl sc) (i j : Nat) {n : Str} (hN : N[i]? = some n) (hW : W[j]? = some n) : PE X (.Name n pos) (tVar i) := by
  obtain ⟨h1, h2⟩ := L.vis (List.mem_of_getElem? hW)
  obtain ⟨d1, d2, d3⟩ := dund1 h2
  exact pe_var (i := i) (by rw [L.n]; exact hN) h1 d1 d2
/-- n[e], n an owned list -/
theorem ex_ixO (L : LX X E kk N W G Sl sc) (i j : Nat) {n : Str} {ov : Option V} (hN : N[i]? = some n) (hW : W[j]? = some n) (hΓ : Γ[i]? = some (.ow .l ov x)) (hb : EX X Γ b mb) (hs : PlainIx b) : EX X Γ (.Subscript (.Name n p1) b pos) (mb.bind fun y => pIdx x y) :=
  (pe_ix ix_list (own_var L i j hN hW) hb hs).weak fun σ H Q ⟨F, O, z, at_, e, q⟩ => by
    obtain ⟨y, e1, e⟩ := bind_some' e
    obtain ⟨p, vs, xs, h1, h2, h3, h4, h5, h6, h7, h8, h9, h10⟩ := at_.own hΓ
    subst h3
    refine ⟨_, h1, F, O, y, at_, e1, fun v F1 H1 g1 r1 => ?_⟩
    cases r1 with
    | int k =>
      obtain ⟨w, e2, r2⟩ := atI_reps h6 (by simpa [pIdx] using e)
      exact ⟨p, vs, k, w, rfl, rfl, .of (g1.h _ _ h4), e2, q w F1 H1 g1 (r2.mono g1.f)⟩
    | _ => simp [pIdx] at e
theorem ex_ixO_a (L : LX X E kk N W G Sl sc) (i j : Nat) {n : Str} {ov : Option V} (hN : N[i]? = some n) (hW : W[j]? = some n) (hΓ : Γ[i]? = some (.ow .l ov x)) (hb : EX X Γ b (some y)) (hs : PlainIx b) : EX X Γ (.Subscript (.Name n p1) b pos) (pIdx x y) := ex_ixO L i j hN hW hΓ hb hs

/-! ### storing -/
/-- name = [..]: a list of one's own -/
theorem bs_newl (L : LX X E kk N W G Sl sc) (i j : Nat) {n : Str} {p' : Pos} {k : D → Option (Ctl Nt L' R')} {ml : Option D} (hN : N[i]? = some n) (hT : Sl[j]? = some n) (hz : es.length ≤ sizeLine) (ha : AX X Γ es (fun xs => some (.list xs)) ml) (hr : ∀ x, BS X (Γ.set i (.ow .l none x)) rest (k x) gN gL gR vR)
    (hs : swapsWith (.List es p) (some (.Name n p')) pos.line X.env = pure false := by rfl) : BS X Γ (.Assign [.Name n p'] (.List es p) pos :: rest) (ml.bind k) gN gL gR vR := by
  obtain ⟨h1, h2, h3⟩ := L.slot hN hT
  exact (pss_cons (ps_set L.nd h1 h2 (pe_lst ha) hs h3) (PSs.ex hr)).weak fun Dd σ H ⟨F, O, c, at_, e, q⟩ => by
    obtain ⟨x, e1, e⟩ := bind_some' e
    refine ⟨F, O, x, at_, e1, fun vs xs F1 H1 g1 r1 hl ek => ?_⟩
    cases ek
    have hz2 : vs.length ≤ sizeLine := by rw [r1.length, hl]; exact hz
    exact ⟨hz2, fun p hp => ⟨_, le_rest g1.f ((at_.grow g1).newOwn hp r1 hz2) e q⟩⟩
theorem bs_newl_a (L : LX X E kk N W G Sl sc) (i j : Nat) {n : Str} {p' : Pos} {m : Option (Ctl Nt L' R')} (hN : N[i]? = some n) (hT : Sl[j]? = some n) (hz : es.length ≤ sizeLine) (ha : AX X Γ es (fun xs => some (.list xs)) (some x)) (hr : BS X (Γ.set i (.ow .l none x)) rest m gN gL gR vR)
    (hs : swapsWith (.List es p) (some (.Name n p')) pos.line X.env = pure false := by rfl) : BS X Γ (.Assign [.Name n p'] (.List es p) pos :: rest) m gN gL gR vR := by
  obtain ⟨h1, h2, h3⟩ := L.slot hN hT
  exact (pss_cons (ps_set L.nd h1 h2 (pe_lst ha) hs h3) hr).weak fun Dd σ H ⟨F, O, c, at_, e, q⟩ => by
    refine ⟨F, O, x, at_, rfl, fun vs xs F1 H1 g1 r1 hl ek => ?_⟩
    cases ek
    have hz2 : vs.length ≤ sizeLine := by rw [r1.length, hl]; exact hz
    exact ⟨hz2, fun p hp => le_rest g1.f ((at_.grow g1).newOwn hp r1 hz2) e q⟩
theorem At.own_grow {K : PySem.W.Frag} {F O H F1 H1 : Hp} {σ : L2.St} {i : Nat} {ov : Option V} (at_ : At K F O σ H Γ) (g : Grow F H F1 H1) (hΓ : Γ[i]? = some (.ow .l ov x)) {p : Addr} (hp : σ[i]? = some (some (.ref p))) : ∃ vs xs, x = .list xs ∧ H1 p = some (.lst vs) ∧ vs.length ≤ sizeLine ∧ Reps K F1 vs xs ∧
    (∀ vs' xs', Reps K F1 vs' xs' → vs'.length ≤ sizeLine → At K F1 O σ (upd H1 p (.lst vs')) (Γ.set i (.ow .l ov (.list xs')))) := by
  obtain ⟨p', vs, xs, h1, h2, h3, h4, h5, h6, h7, h8, h9, h10⟩ := (at_.grow g).own hΓ
  rw [hp] at h1
  cases h1
  exact ⟨vs, xs, h3, h4, h5, h6, h9⟩
/-- n.append(e) -/
theorem bs_app (L : LX X E kk N W G Sl sc) (i j : Nat) {n : Str} {ov : Option V} {k : D → Option (Ctl Nt L' R')} (hN : N[i]? = some n) (hW : W[j]? = some n) (hΓ : Γ[i]? = some (.ow .l ov x)) (he : EX X Γ e me) (hr : ∀ z, BS X (Γ.set i (.ow .l ov z)) rest (k z) gN gL gR vR)
    (hs0 : swapsWith (.Call (.Attribute (.Name n p1) "append" p2) [e] [] p) none pos.line X.env = pure false := by rfl)
    (hbase : attributeBase (.Name n p1) "append" X.env (eval (.Name n p1) X.env) = eval (.Name n p1) X.env := by rfl)
    (hfew : ((backTo p (starEach [e] X.env)).all (fun x => !x.1) && (backToKw p (keywordEach [] X.env)).all (fun x => x.1.isSome) && decide ([e].length + ([] : List Keyword).length + (if ([] : List Keyword).isEmpty then 0 else 1) < 30)) = true := by rfl)
    (hline : (p2.endLine == p.line) = true := by rfl) (hs : starEach [e] X.env = (false, eval e X.env) :: starEach [] X.env := by rfl) (hplain : (backTo p (starEach [] X.env)).any (·.1) = false := by rfl) :
    BS X Γ (.Expr (.Call (.Attribute (.Name n p1) "append" p2) [e] [] p) pos :: rest) (me.bind fun y => (pApp x y).bind k) gN gL gR vR :=
  (pss_cons (ps_expr (pe_bm PySem.F.plainAttrs_list PySem.F.slot_list_append PySem.F.type_list_append mt_append (own_var L i j hN hW) (pa_cons he pa_nil hs) hbase hfew hline hs hplain) hs0) (PSs.ex hr)).weak fun Dd σ H ⟨F, O, c, at_, e, q⟩ => by
    obtain ⟨y, e1, e⟩ := bind_some' e
    obtain ⟨z, e2, e⟩ := bind_some' e
    obtain ⟨p, vs, xs, h1, h2, h3, h4, h5, h6, h7, h8, h9, h10⟩ := at_.own hΓ
    refine ⟨_, h1, .inl ⟨rfl, _, .of h4⟩, F, O, y, at_, e1, fun v F1 H1 g1 r1 => ?_⟩
    obtain ⟨vs', xs', h3', h4', h5', h6', h9'⟩ := at_.own_grow g1 hΓ h1
    subst h3'
    simp only [pApp] at e2
    split at e2
    · rename_i hz
      cases e2
      rw [← h6'.length] at hz
      exact ⟨p, vs', v, rfl, rfl, h4', hz, _, le_rest g1.f (h9' _ _ (h6'.snoc r1) (by simp; omega)) e q⟩
    · cases e2
theorem bs_app_a (L : LX X E kk N W G Sl sc) (i j : Nat) {n : Str} {ov : Option V} {k : D → Option (Ctl Nt L' R')} (hN : N[i]? = some n) (hW : W[j]? = some n) (hΓ : Γ[i]? = some (.ow .l ov x)) (he : EX X Γ e (some y)) (hr : ∀ z, BS X (Γ.set i (.ow .l ov z)) rest (k z) gN gL gR vR)
    (hs0 : swapsWith (.Call (.Attribute (.Name n p1) "append" p2) [e] [] p) none pos.line X.env = pure false := by rfl)
    (hbase : attributeBase (.Name n p1) "append" X.env (eval (.Name n p1) X.env) = eval (.Name n p1) X.env := by rfl)
    (hfew : ((backTo p (starEach [e] X.env)).all (fun x => !x.1) && (backToKw p (keywordEach [] X.env)).all (fun x => x.1.isSome) && decide ([e].length + ([] : List Keyword).length + (if ([] : List Keyword).isEmpty then 0 else 1) < 30)) = true := by rfl)
    (hline : (p2.endLine == p.line) = true := by rfl) (hs : starEach [e] X.env = (false, eval e X.env) :: starEach [] X.env := by rfl) (hplain : (backTo p (starEach [] X.env)).any (·.1) = false := by rfl) :
    BS X Γ (.Expr (.Call (.Attribute (.Name n p1) "append" p2) [e] [] p) pos :: rest) ((pApp x y).bind k) gN gL gR vR := bs_app L i j hN hW hΓ he hr hs0 hbase hfew hline hs hplain
/-- n.extend(e) -/
theorem bs_ext (L : LX X E kk N W G Sl sc) (i j : Nat) {n : Str} {ov : Option V} {k : D → Option (Ctl Nt L' R')} (hN : N[i]? = some n) (hW : W[j]? = some n) (hΓ : Γ[i]? = some (.ow .l ov x)) (he : EX X Γ e me) (hr : ∀ z, BS X (Γ.set i (.ow .l ov z)) rest (k z) gN gL gR vR)
    (hs0 : swapsWith (.Call (.Attribute (.Name n p1) "extend" p2) [e] [] p) none pos.line X.env = pure false := by rfl)
    (hbase : attributeBase (.Name n p1) "extend" X.env (eval (.Name n p1) X.env) = eval (.Name n p1) X.env := by rfl)
    (hfew : ((backTo p (starEach [e] X.env)).all (fun x => !x.1) && (backToKw p (keywordEach [] X.env)).all (fun x => x.1.isSome) && decide ([e].length + ([] : List Keyword).length + (if ([] : List Keyword).isEmpty then 0 else 1) < 30)) = true := by rfl)
    (hline : (p2.endLine == p.line) = true := by rfl) (hs : starEach [e] X.env = (false, eval e X.env) :: starEach [] X.env := by rfl) (hplain : (backTo p (starEach [] X.env)).any (·.1) = false := by rfl) :
    BS X Γ (.Expr (.Call (.Attribute (.Name n p1) "extend" p2) [e] [] p) pos :: rest) (me.bind fun y => (pExt x y).bind k) gN gL gR vR :=
  (pss_cons (ps_expr (pe_bm PySem.F.plainAttrs_list PySem.F.slot_list_extend PySem.F.type_list_extend mt_extend (own_var L i j hN hW) (pa_cons he pa_nil hs) hbase hfew hline hs hplain) hs0) (PSs.ex hr)).weak fun Dd σ H ⟨F, O, c, at_, e, q⟩ => by
    obtain ⟨y, e1, e⟩ := bind_some' e
    obtain ⟨z, e2, e⟩ := bind_some' e
    obtain ⟨p, vs, xs, h1, h2, h3, h4, h5, h6, h7, h8, h9, h10⟩ := at_.own hΓ
    refine ⟨_, h1, .inl ⟨rfl, _, .of h4⟩, F, O, y, at_, e1, fun v F1 H1 g1 r1 => ?_⟩
    obtain ⟨vs', xs', h3', h4', h5', h6', h9'⟩ := at_.own_grow g1 hΓ h1
    subst h3'
    cases r1 with
    | @lst bq ws ys hy ry =>
      simp only [pExt, id] at e2
      split at e2
      · rename_i hz
        cases e2
        rw [← h6'.length, ← ry.length] at hz
        exact ⟨p, bq, vs', ws, rfl, rfl, h4', g1.s _ _ hy.1, hz, _, le_rest g1.f (h9' _ _ (h6'.append ry) (by simp; omega)) e q⟩
      · cases e2
    | _ => simp [pExt] at e2
/-- n[b] = e, n an owned list -/
theorem bs_seti (L : LX X E kk N W G Sl sc) (i j : Nat) {n : Str} {ov : Option V} {k : D → Option (Ctl Nt L' R')} (hN : N[i]? = some n) (hW : W[j]? = some n) (hΓ : Γ[i]? = some (.ow .l ov x)) (he : EX X Γ e me) (hb : EX X Γ b mb) (hr : ∀ z, BS X (Γ.set i (.ow .l ov z)) rest (k z) gN gL gR vR)
    (ha : ∀ v, assign (.Subscript (.Name n p1) b p2) X.env v = (do
      let ov ← holding [v] (eval (.Name n p1) X.env)
      let iv ← holding [v, ov] (eval b X.env)
      standAt p2
      holding [v, ov, iv] (setItem ov iv v)
      release [v, ov, iv] []) := by intro _; rfl)
    (hs : swapsWithSole [.Subscript (.Name n p1) b p2] e pos.line X.env = pure false := by rfl) (hw : swappedStores [.Subscript (.Name n p1) b p2] e X.env = pure none := by rfl) (h1 : (assignEach [.Subscript (.Name n p1) b p2] X.env).map (·.2) = [assign (.Subscript (.Name n p1) b p2) X.env] := by rfl) :
    BS X Γ (.Assign [.Subscript (.Name n p1) b p2] e pos :: rest) (me.bind fun y => mb.bind fun z => (pSetI x z y).bind k) gN gL gR vR :=
  (pss_cons (ps_asg he (pg_sub (own_var L i j hN hW) hb set_list ha) hs hw h1) (PSs.ex hr)).weak fun Dd σ H ⟨F, O, c, at_, e, q⟩ => by
    obtain ⟨y, e1, e⟩ := bind_some' e
    obtain ⟨z, e2, e⟩ := bind_some' e
    obtain ⟨w, e3, e⟩ := bind_some' e
    obtain ⟨p, vs, xs, h1, h2, h3, h4, h5, h6, h7, h8, h9, h10⟩ := at_.own hΓ
    refine ⟨F, O, y, at_, e1, fun v F1 H1 g1 r1 => ⟨_, h1, F1, O, z, at_.grow g1, e2, fun u F2 H2 g2 r2 => ?_⟩⟩
    obtain ⟨vs', xs', h3', h4', h5', h6', h9'⟩ := at_.own_grow (g1.trans g2) hΓ h1
    subst h3'
    cases r2 with
    | int kx =>
      simp only [pSetI, id] at e3
      obtain ⟨jx, hj, hw⟩ := Option.map_eq_some_iff.mp e3
      subst hw
      rw [← h6'.length] at hj
      exact ⟨p, vs', kx, jx, rfl, rfl, h4', hj, _, le_rest (g1.f.trans g2.f) (h9' _ _ (h6'.set jx (r1.mono g2.f)) (by simpa using h5')) e q⟩
    | _ => simp [pSetI] at e3
end
end Z
namespace Z
open PySem PySem.Spec L2

/-! ## expressions that turn what is owned: S tells what the slots hold by the state t -/
def tXe {T : Type} (K : PySem.W.Frag) (S : T → List Ent) (t : T) (m : Option (D × T)) : TE := fun σ H Q => ∃ F O r, At K F O σ H (S t) ∧ m = some r ∧ ∀ v F' H', Le F F' → At K F' O σ H' (S r.2) → Rep K F' v r.1 → Q v H'
abbrev EXe {T : Type} (X : Cx) (S : T → List Ent) (t : T) (e : Expr) (m : Option (D × T)) : Prop := PE X e (tXe X.K S t m)
def tTXe {T : Type} (K : PySem.W.Frag) (S : T → List Ent) (t : T) (m : Option (Bool × T)) : TT := fun σ H Q => ∃ F O r, At K F O σ H (S t) ∧ m = some r ∧ ∀ F' H', Le F F' → At K F' O σ H' (S r.2) → Q r.1 H'
abbrev TXe {T : Type} (X : Cx) (S : T → List Ent) (t : T) (e : Expr) (m : Option (Bool × T)) : Prop := PT X e (tTXe X.K S t m)
abbrev WXe {T : Type} (X : Cx) (S : T → List Ent) (t : T) (e : Expr) (m : Option (Bool × T)) : Prop := PW X e (tTXe X.K S t m)
def tAXe {A T : Type} (K : PySem.W.Frag) (S : T → List Ent) (t : T) (n : Nat) (k : List D → T → Option A) (m : Option A) : TA := fun σ H Q => ∃ F O r, At K F O σ H (S t) ∧ m = some r ∧ ∀ vs xs t' F' H', Le F F' → At K F' O σ H' (S t') → Reps K F' vs xs → xs.length = n → k xs t' = some r → Q vs H'
abbrev AXe {A T : Type} (X : Cx) (S : T → List Ent) (t : T) (es : List Expr) (k : List D → T → Option A) (m : Option A) : Prop := PA X es (tAXe X.K S t es.length k m)

theorem RS2.le {K : PySem.W.Frag} {r : R2} {g : D → D → Option D} (h : RS2 K r g) {F O H : Hp} {σ : L2.St} {Γ : List Ent} {v u : V} {x y z : D} {Q : VK} (a : At K F O σ H Γ) (rx : Rep K F v x) (ry : Rep K F u y) (e : g x y = some z)
    (q : ∀ w F' H', Le F F' → At K F' O σ H' Γ → Rep K F' w z → Q w H') : r v u H Q := h F H v u x y z Q a.sub rx ry e fun w F' H' g' r' => q w F' H' g'.f (a.grow g') r'

section
variable {X : Cx} {E : ME} {kk k : Nat} {N W G Sl : List Str} {sc : Scope} {Γ : List Ent} {a b c e : Expr} {es : List Expr} {x y : D} {pos p p1 p2 : Pos} {rest ss : List Stmt}
variable {T : Type} {S : T → List Ent} {t : T} {ma : Option (D × T)} {mb : D × T → Option (D × T)} {me : Option D}
theorem exe_pure (h : EX X (S t) e me) : EXe X S t e (me.map fun x => (x, t)) := PE.weak h fun σ H Q ⟨F, O, r, at_, e, q⟩ => by
  obtain ⟨x, e1, e2⟩ := Option.map_eq_some_iff.mp e
  subst e2
  exact ⟨F, O, x, at_, e1, fun v F' H' g r => q v F' H' g.f (at_.grow g) r⟩
theorem exe_atom (h : EX X (S t) e (some x)) : EXe X S t e (some (x, t)) := exe_pure h
theorem txe_pure {m : Option Bool} (h : TX X (S t) e m) : TXe X S t e (m.map fun x => (x, t)) := PT.weak h fun σ H Q ⟨F, O, r, at_, e, q⟩ => by
  obtain ⟨x, e1, e2⟩ := Option.map_eq_some_iff.mp e
  subst e2
  exact ⟨F, O, x, at_, e1, fun F' H' g => q F' H' g.f (at_.grow g)⟩
/-! two places -/
theorem exe_op {op : Operator} {r : R2} {g : D → D → Option D} (ho : OpR X (binaryOp op) r) (hr : RS2 X.K r g) (ha : EXe X S t a ma) (hb : ∀ r, EXe X S r.2 b (mb r)) : EXe X S t (.BinOp a op b pos) (ma.bind fun r => (mb r).bind fun q => (g r.1 q.1).map fun z => (z, q.2)) := by
  have hB : PE X b (fun σ H Q => ∃ r, tXe X.K S r.2 (mb r) σ H Q) := ⟨fun p s σ H Q I ⟨r, q⟩ => (hb r).run p s σ H Q I q⟩
  refine (pe_op ho ha hB).weak fun σ H Q ⟨F, O, z, at_, e, q⟩ => ?_
  obtain ⟨r1, e1, e⟩ := bind_some' e
  obtain ⟨r2, e2, e⟩ := bind_some' e
  obtain ⟨z', e3, e4⟩ := Option.map_eq_some_iff.mp e
  subst e4
  exact ⟨F, O, r1, at_, e1, fun v F1 H1 f1 a1 q1 => ⟨r1, F1, O, r2, a1, e2, fun u F2 H2 f2 a2 q2 => hr.le a2 (q1.mono f2) q2 e3 fun w F3 H3 f3 a3 q3 => q w F3 H3 ((f1.trans f2).trans f3) a3 q3⟩⟩
theorem exe_cmp {op : CmpOp} {r : R2} {g : D → D → Option D} (ho : OpR X (compareOp op) r) (hr : RS2 X.K r g) (ha : EXe X S t a ma) (hb : ∀ r, EXe X S r.2 b (mb r)) (hm : behindInMarks op b = false) : EXe X S t (.Compare a [op] [b] pos) (ma.bind fun r => (mb r).bind fun q => (g r.1 q.1).map fun z => (z, q.2)) := by
  have hB : PE X b (fun σ H Q => ∃ r, tXe X.K S r.2 (mb r) σ H Q) := ⟨fun p s σ H Q I ⟨r, q⟩ => (hb r).run p s σ H Q I q⟩
  refine (pe_cmpR ho ha hB hm).weak fun σ H Q ⟨F, O, z, at_, e, q⟩ => ?_
  obtain ⟨r1, e1, e⟩ := bind_some' e
  obtain ⟨r2, e2, e⟩ := bind_some' e
  obtain ⟨z', e3, e4⟩ := Option.map_eq_some_iff.mp e
  subst e4
  exact ⟨F, O, r1, at_, e1, fun v F1 H1 f1 a1 q1 => ⟨r1, F1, O, r2, a1, e2, fun u F2 H2 f2 a2 q2 => hr.le a2 (q1.mono f2) q2 e3 fun w F3 H3 f3 a3 q3 => q w F3 H3 ((f1.trans f2).trans f3) a3 q3⟩⟩
theorem txe_cmp {op : CmpOp} {r : R2} {g : D → D → Option D} (ho : OpR X (compareOp op) r) (hr : RS2 X.K r g) (ha : EXe X S t a ma) (hb : ∀ r, EXe X S r.2 b (mb r)) (hm : behindInMarks op b = false) :
    TXe X S t (.Compare a [op] [b] pos) (ma.bind fun r => (mb r).bind fun q => ((g r.1 q.1).bind dBool).map fun z => (z, q.2)) := by
  have hB : PE X b (fun σ H Q => ∃ r, tXe X.K S r.2 (mb r) σ H Q) := ⟨fun p s σ H Q I ⟨r, q⟩ => (hb r).run p s σ H Q I q⟩
  refine (pt_cmpR ho ha hB hm).weak fun σ H Q ⟨F, O, z, at_, e, q⟩ => ?_
  obtain ⟨r1, e1, e⟩ := bind_some' e
  obtain ⟨r2, e2, e⟩ := bind_some' e
  obtain ⟨k, e3, e4⟩ := Option.map_eq_some_iff.mp e
  subst e4
  obtain ⟨z, e5, e6⟩ := bind_some' e3
  have ez : z = .bool k := by cases z <;> simp [dBool] at e6; rw [e6]
  subst ez
  exact ⟨F, O, r1, at_, e1, fun v F1 H1 f1 a1 q1 => ⟨r1, F1, O, r2, a1, e2, fun u F2 H2 f2 a2 q2 => hr.le a2 (q1.mono f2) q2 e5 fun w F3 H3 f3 a3 q3 => by
    cases q3
    exact ⟨k, rfl, q F3 H3 ((f1.trans f2).trans f3) a3⟩⟩⟩
theorem exe_ix (ha : EXe X S t a ma) (hb : ∀ r, EXe X S r.2 b (mb r)) (hs : PlainIx b) : EXe X S t (.Subscript a b pos) (ma.bind fun r => (mb r).bind fun q => (pIdx r.1 q.1).map fun z => (z, q.2)) := by
  have hB : PE X b (fun σ H Q => ∃ r, tXe X.K S r.2 (mb r) σ H Q) := ⟨fun p s σ H Q I ⟨r, q⟩ => (hb r).run p s σ H Q I q⟩
  refine (pe_ix ix_all ha hB hs).weak fun σ H Q ⟨F, O, z, at_, e, q⟩ => ?_
  obtain ⟨r1, e1, e⟩ := bind_some' e
  obtain ⟨r2, e2, e⟩ := bind_some' e
  obtain ⟨z', e3, e4⟩ := Option.map_eq_some_iff.mp e
  subst e4
  exact ⟨F, O, r1, at_, e1, fun v F1 H1 f1 a1 q1 => ⟨r1, F1, O, r2, a1, e2, fun u F2 H2 f2 a2 q2 => rs_ix.le a2 (q1.mono f2) q2 e3 fun w F3 H3 f3 a3 q3 => q w F3 H3 ((f1.trans f2).trans f3) a3 q3⟩⟩
/-! a if c else b; and, or, not as tests -/
theorem exe_if {mc : Option (Bool × T)} {m1 m2 : T → Option (D × T)} (hc : TXe X S t c mc) (ha : ∀ t, EXe X S t a (m1 t)) (hb : ∀ t, EXe X S t b (m2 t)) : EXe X S t (.IfExp c a b pos) (mc.bind fun r => if r.1 = true then m1 r.2 else m2 r.2) := by
  have hA : PE X a (fun σ H Q => ∃ t, tXe X.K S t (m1 t) σ H Q) := ⟨fun p s σ H Q I ⟨r, q⟩ => (ha r).run p s σ H Q I q⟩
  have hB : PE X b (fun σ H Q => ∃ t, tXe X.K S t (m2 t) σ H Q) := ⟨fun p s σ H Q I ⟨r, q⟩ => (hb r).run p s σ H Q I q⟩
  refine (pe_ifExp hc hA hB).weak fun σ H Q ⟨F, O, z, at_, e, q⟩ => ?_
  obtain ⟨r1, e1, e⟩ := bind_some' e
  refine ⟨F, O, r1, at_, e1, fun F1 H1 f1 a1 => ?_⟩
  cases hk : r1.1 with
  | true => rw [hk] at e; exact ⟨r1.2, F1, O, z, a1, e, fun v F2 H2 f2 a2 q2 => q v F2 H2 (f1.trans f2) a2 q2⟩
  | false => rw [hk] at e; exact ⟨r1.2, F1, O, z, a1, e, fun v F2 H2 f2 a2 q2 => q v F2 H2 (f1.trans f2) a2 q2⟩
theorem txe_not {mc : Option (Bool × T)} (h : TXe X S t a mc) : TXe X S t (.UnaryOp .Not a pos) (mc.map fun r => (!r.1, r.2)) := (pt_not h).weak fun σ H Q ⟨F, O, r, at_, e, q⟩ => by
  obtain ⟨x, e1, e2⟩ := Option.map_eq_some_iff.mp e
  subst e2
  exact ⟨F, O, x, at_, e1, fun F' H' f a => q F' H' f a⟩
theorem wxe_and1 {mc : Option (Bool × T)} (h : TXe X S t a mc) : WXe X S t (.BoolOp .And [a] pos) mc := pw_and1 h
theorem wxe_or1 {mc : Option (Bool × T)} (h : TXe X S t a mc) : WXe X S t (.BoolOp .Or [a] pos) mc := pw_or1 h
theorem wxe_and {rest : List Expr} {mc : Option (Bool × T)} {md : T → Option (Bool × T)} (ha : TXe X S t a mc) (hb : ∀ t, WXe X S t (.BoolOp .And (b :: rest) pos) (md t)) : WXe X S t (.BoolOp .And (a :: b :: rest) pos) (mc.bind fun r => if r.1 = true then md r.2 else some (false, r.2)) := by
  have hB : PW X (.BoolOp .And (b :: rest) pos) (fun σ H Q => ∃ t, tTXe X.K S t (md t) σ H Q) := ⟨fun w p s σ H Q I ⟨r, q⟩ => (hb r).run w p s σ H Q I q⟩
  refine (pw_and ha hB).weak fun σ H Q ⟨F, O, z, at_, e, q⟩ => ?_
  obtain ⟨r1, e1, e⟩ := bind_some' e
  refine ⟨F, O, r1, at_, e1, fun F1 H1 f1 a1 => ?_⟩
  cases hk : r1.1 with
  | true => rw [hk] at e; exact ⟨r1.2, F1, O, z, a1, e, fun F2 H2 f2 a2 => q F2 H2 (f1.trans f2) a2⟩
  | false => rw [hk] at e; cases e; exact q F1 H1 f1 a1
theorem wxe_or {rest : List Expr} {mc : Option (Bool × T)} {md : T → Option (Bool × T)} (ha : TXe X S t a mc) (hb : ∀ t, WXe X S t (.BoolOp .Or (b :: rest) pos) (md t)) : WXe X S t (.BoolOp .Or (a :: b :: rest) pos) (mc.bind fun r => if r.1 = true then some (true, r.2) else md r.2) := by
  have hB : PW X (.BoolOp .Or (b :: rest) pos) (fun σ H Q => ∃ t, tTXe X.K S t (md t) σ H Q) := ⟨fun w p s σ H Q I ⟨r, q⟩ => (hb r).run w p s σ H Q I q⟩
  refine (pw_or ha hB).weak fun σ H Q ⟨F, O, z, at_, e, q⟩ => ?_
  obtain ⟨r1, e1, e⟩ := bind_some' e
  refine ⟨F, O, r1, at_, e1, fun F1 H1 f1 a1 => ?_⟩
  cases hk : r1.1 with
  | true => rw [hk] at e; cases e; exact q F1 H1 f1 a1
  | false => rw [hk] at e; exact ⟨r1.2, F1, O, z, a1, e, fun F2 H2 f2 a2 => q F2 H2 (f1.trans f2) a2⟩
theorem txe_w {mc : Option (Bool × T)} (h : WXe X S t a mc) : TXe X S t a mc := PW.pt h
theorem txe_val (ha : EXe X S t a ma) (he : ∀ whole, isTrue a X.env whole = (do let v ← whole; standAt a.pos; holding [v] (truthy v))) : TXe X S t a (ma.bind fun r => (pTru r.1).map fun b => (b, r.2)) :=
  (pt_truth ha he).weak fun σ H Q ⟨F, O, k, at_, e, q⟩ => by
    obtain ⟨x, e1, e⟩ := bind_some' e
    obtain ⟨b, e2, e3⟩ := Option.map_eq_some_iff.mp e
    subst e3
    exact ⟨F, O, x, at_, e1, fun v F1 H1 f1 a1 r1 => ⟨b, tru_v a1.sub r1 e2, q F1 H1 f1 a1⟩⟩
/-! arguments -/
variable {A : Type}
theorem axe_nil {k : List D → T → Option A} : AXe X S t [] k (k [] t) := pa_nil.weak fun σ H Q ⟨F, O, r, at_, e, q⟩ => q [] [] t F H (Le.refl F) at_ .nil rfl e
theorem axe_cons {k : List D → T → Option A} {mr : D × T → Option A} (ha : EXe X S t a ma) (hr : ∀ r, AXe X S r.2 es (fun xs t' => k (r.1 :: xs) t') (mr r)) (hs : starEach (a :: es) X.env = (false, eval a X.env) :: starEach es X.env := by rfl) : AXe X S t (a :: es) k (ma.bind mr) := by
  have hB : PA X es (fun σ H Q => ∃ r, tAXe X.K S r.2 es.length (fun xs t' => k (r.1 :: xs) t') (mr r) σ H Q) := ⟨fun ps p s σ H Q I ⟨r, q⟩ => (hr r).run ps p s σ H Q I q⟩
  refine (pa_cons ha hB hs).weak fun σ H Q ⟨F, O, z, at_, e, q⟩ => ?_
  obtain ⟨r1, e1, e⟩ := bind_some' e
  exact ⟨F, O, r1, at_, e1, fun v F1 H1 f1 a1 q1 => ⟨r1, F1, O, z, a1, e, fun vs xs t' F2 H2 f2 a2 r2 el ek => q (v :: vs) (r1.1 :: xs) t' F2 H2 (f1.trans f2) a2 (.cons (q1.mono f2) r2) (congrArg (· + 1) el) ek⟩⟩
theorem axe_consA {k : List D → T → Option A} {m : Option A} (ha : EX X (S t) a (some x)) (hr : AXe X S t es (fun xs t' => k (x :: xs) t') m) (hs : starEach (a :: es) X.env = (false, eval a X.env) :: starEach es X.env := by rfl) : AXe X S t (a :: es) k m :=
  (pa_cons ha hr hs).weak fun σ H Q ⟨F, O, z, at_, e, q⟩ => ⟨F, O, x, at_, rfl, fun v F1 H1 g1 r1 => ⟨F1, O, z, at_.grow g1, e, fun vs xs t' F2 H2 f2 a2 r2 el ek => q (v :: vs) (x :: xs) t' F2 H2 (g1.f.trans f2) a2 (.cons (r1.mono f2) r2) (congrArg (· + 1) el) ek⟩⟩
theorem axe_consP {k : List D → T → Option A} {mr : D → Option A} (ha : EX X (S t) a me) (hr : ∀ x, AXe X S t es (fun xs t' => k (x :: xs) t') (mr x)) (hs : starEach (a :: es) X.env = (false, eval a X.env) :: starEach es X.env := by rfl) : AXe X S t (a :: es) k (me.bind mr) := by
  have hB : PA X es (fun σ H Q => ∃ x, tAXe X.K S t es.length (fun xs t' => k (x :: xs) t') (mr x) σ H Q) := ⟨fun ps p s σ H Q I ⟨r, q⟩ => (hr r).run ps p s σ H Q I q⟩
  refine (pa_cons ha hB hs).weak fun σ H Q ⟨F, O, z, at_, e, q⟩ => ?_
  obtain ⟨x, e1, e⟩ := bind_some' e
  exact ⟨F, O, x, at_, e1, fun v F1 H1 g1 r1 => ⟨x, F1, O, z, at_.grow g1, e, fun vs xs t' F2 H2 f2 a2 r2 el ek => q (v :: vs) (x :: xs) t' F2 H2 (g1.f.trans f2) a2 (.cons (r1.mono f2) r2) (congrArg (· + 1) el) ek⟩⟩
theorem exe_tup {m : Option (D × T)} {x1} (hz : es.length ≤ sizeLine) (h : AXe X S t es (fun xs t' => some (.tuple xs, t')) m) : EXe X S t (.Tuple es x1 pos) m :=
  (pe_tupF h).weak fun σ H Q ⟨F, O, z, at_, e, q⟩ => ⟨F, O, z, at_, e, fun vs xs t' F1 H1 f1 a1 r1 hl ek => by
    cases ek
    have hz2 : vs.length ≤ sizeLine := by rw [r1.length, hl]; exact hz
    refine ⟨hz2, fun o p ho hp => ?_⟩
    obtain ⟨g2, r2⟩ := grow_tup ho a1.sub hp hz2 r1
    exact q _ _ _ (f1.trans g2.f) (a1.grow g2) r2⟩
theorem exe_lst {m : Option (D × T)} (hz : es.length ≤ sizeLine) (h : AXe X S t es (fun xs t' => some (.list xs, t')) m) : EXe X S t (.List es pos) m :=
  (pe_lst h).weak fun σ H Q ⟨F, O, z, at_, e, q⟩ => ⟨F, O, z, at_, e, fun vs xs t' F1 H1 f1 a1 r1 hl ek => by
    cases ek
    have hz2 : vs.length ≤ sizeLine := by rw [r1.length, hl]; exact hz
    refine ⟨hz2, fun p hp => ?_⟩
    obtain ⟨g2, r2⟩ := grow_lst a1.sub hp hz2 r1
    exact q _ _ _ (f1.trans g2.f) (a1.grow g2) r2⟩
theorem exe_callB {r : List V → Hp → VK → Prop} {g : List D → Option D} {id : String} {m : Option (D × T)} (L : LX X E kk N W G Sl sc) (j : Nat) {n : Str} (hG : G[j]? = some n) (hm : Free E n) (hv : bootBuiltins n = some (.builtin id)) (hc : CallR X (.builtin id) r) (hr : RSn X.K r g) (ha : AXe X S t (a :: es) (fun xs t' => (g xs).map fun z => (z, t')) m)
    (he : starEach (a :: es) X.env = (false, eval a X.env) :: starEach es X.env := by rfl) (hpl : (backTo pos (starEach es X.env)).any (·.1) = false := by rfl) : EXe X S t (.Call (.Name n p) (a :: es) [] pos) m := by
  obtain ⟨h1, h2⟩ := L.gl (List.mem_of_getElem? hG)
  obtain ⟨d1, d2, d3⟩ := dund1 h2
  exact (pe_callB hc h1 (hm.at L) hv ha d3 d1 he hpl).weak fun σ H Q ⟨F, O, z, at_, e, q⟩ => ⟨F, O, z, at_, e, fun vs xs t' F1 H1 f1 a1 r1 _ ek => by
    obtain ⟨z', e3, e4⟩ := Option.map_eq_some_iff.mp ek
    subst e4
    exact hr F1 H1 vs xs z' Q a1.sub r1 e3 fun w F2 H2 g2 r2 => q w F2 H2 (f1.trans g2.f) (a1.grow g2) r2⟩
theorem exe_callT {r : List V → Hp → VK → Prop} {g : List D → Option D} {Ty : String} {m : Option (D × T)} (L : LX X E kk N W G Sl sc) (j : Nat) {n : Str} (hG : G[j]? = some n) (hm : Free E n) (hv : bootBuiltins n = some (.type Ty)) (hc : CallR X (.type Ty) r) (hr : RSn X.K r g) (ha : AXe X S t (a :: es) (fun xs t' => (g xs).map fun z => (z, t')) m)
    (he : starEach (a :: es) X.env = (false, eval a X.env) :: starEach es X.env := by rfl) (hpl : (backTo pos (starEach es X.env)).any (·.1) = false := by rfl) : EXe X S t (.Call (.Name n p) (a :: es) [] pos) m := by
  obtain ⟨h1, h2⟩ := L.gl (List.mem_of_getElem? hG)
  obtain ⟨d1, d2, d3⟩ := dund1 h2
  exact (pe_callTy hc h1 (hm.at L) hv ha d3 d1 he hpl).weak fun σ H Q ⟨F, O, z, at_, e, q⟩ => ⟨F, O, z, at_, e, fun vs xs t' F1 H1 f1 a1 r1 _ ek => by
    obtain ⟨z', e3, e4⟩ := Option.map_eq_some_iff.mp ek
    subst e4
    exact hr F1 H1 vs xs z' Q a1.sub r1 e3 fun w F2 H2 g2 r2 => q w F2 H2 (f1.trans g2.f) (a1.grow g2) r2⟩
/-- a def with frozen arguments -/
theorem exe_call {m : List D → Option D} {mr : Option (D × T)} (L : LX X E kk N W G Sl sc) (j : Nat) {n : Str} (hG : G[j]? = some n) (h : FnM E k n (CP m)) (hk : k ≤ kk) (ha : AXe X S t (a :: es) (fun xs t' => (m xs).map fun z => (z, t')) mr)
    (he : starEach (a :: es) X.env = (false, eval a X.env) :: starEach es X.env := by rfl) (hpl : (backTo pos (starEach es X.env)).any (·.1) = false := by rfl) : EXe X S t (.Call (.Name n p) (a :: es) [] pos) mr := by
  obtain ⟨h1, h2⟩ := L.gl (List.mem_of_getElem? hG)
  obtain ⟨d1, d2, d3⟩ := dund1 h2
  obtain ⟨E1, E2, E3, E4, E5⟩ := E
  obtain ⟨f, fd, ps, ok, hm, hki, hb⟩ := h
  have q1 := L.mx.prog; have q2 := L.mx.w; have q3 := L.mx.K; have q4 := L.mx.mg; have q5 := L.mx.base
  simp only at q1 q2 q3 q4 q5 ok hm hki hb
  subst q1 q2 q3 q4 q5
  refine (pe_call ok (L.rm.mono hk) h1 hm hki hb .nil pass0 ha d1 he hpl).weak fun σ H Q ⟨F, O, z, at_, e, q⟩ => ⟨F, O, z, at_, e, fun vs xs t' F1 H1 f1 a1 r1 _ ek => ?_⟩
  obtain ⟨z', e3, e4⟩ := Option.map_eq_some_iff.mp ek
  subst e4
  show spC X.K (CP m) (vs ++ []) H1 Q E0
  rw [List.append_nil]
  refine ⟨F1, restH F1 H1, xs.map .fz, z', xs.map fun _ => .no, at_args a1.sub r1, ⟨xs, rfl, e3, rfl⟩, fun v F' H' f a' r' => ?_⟩
  have g := grow_of_rest a1.sub f a'
  exact q v F' H' (f1.trans g.f) (a1.grow g) r'
end
/-! ## a def whose first parameter is owned -/
def CO1 (s : Sh) (m : D → List D → Option (D × D)) : Con := fun Γ0 r Γ1 => ∃ (v : V) (x : D) (xs : List D) (y : D), Γ0 = .ow s (some v) x :: xs.map .fz ∧ m x xs = some (r, y) ∧ Γ1 = .ow s (some v) y :: xs.map fun _ => .no
/-- all of H but F and some places -/
def restP (F H : Hp) (fp : List Addr) : Hp := fun a => if F a = none ∧ a ∉ fp then H a else none
section
variable {K : PySem.W.Frag} {F O H : Hp} {σ : L2.St} {Γ : List Ent} {i : Nat} {s : Sh} {ov : Option V} {x : D}
theorem At.pass1 (h : At K F O σ H Γ) (e : Γ[i]? = some (.ow s ov x)) {vs : List V} {xs : List D} (r : Reps K F vs xs) : ∃ v fp, σ[i]? = some (some v) ∧ At K F (restP F H fp) ((v :: vs).map some) H (.ow s (some v) x :: xs.map .fz) ∧
    ∀ F' H' y (Δ : List Ent), Le F F' → At K F' (restP F H fp) ((v :: vs).map some) H' (.ow s (some v) y :: Δ) → At K F' O σ H' (Γ.set i (.ow s ov y)) := by
  obtain ⟨fp, d, q⟩ := h.ents
  obtain ⟨v, h1, h2, t⟩ := q i _ e
  have hi : i < Γ.length := (List.getElem?_eq_some_iff.mp e).1
  have rle : Le (restP F H (fp i)) H := fun a o ha => by
    unfold restP at ha
    split at ha
    · exact ha
    · cases ha
  refine ⟨v, fp i, h1, ⟨h.sub, rle, fun a ha => ?_, ?_, fun j => if j = 0 then fp i else [], ⟨fun j => ?_, fun j a ha => ?_, fun j k a ha hb => ?_⟩, fun j e1 he => ?_⟩, fun F' H' y Δ lf a' => ?_⟩
  · unfold restP; rw [if_neg (fun z => ha z.1)]
  · simp [r.length]
  · by_cases hj : j = 0
    · simp only [hj, if_true]; exact d.nd i
    · simp only [hj, if_false]; exact List.nodup_nil
  · by_cases hj : j = 0
    · simp only [hj, if_true] at ha
      exact ⟨(d.f i a ha).1, by unfold restP; rw [if_neg (fun z => z.2 ha)]⟩
    · simp [hj] at ha
  · by_cases hj : j = 0
    · by_cases hk : k = 0
      · rw [hj, hk]
      · simp [hk] at hb
    · simp [hj] at ha
  · cases j with
    | zero =>
      simp at he
      subst he
      exact ⟨v, rfl, fun u hu => by cases hu; rfl, t⟩
    | succ j =>
      simp only [List.getElem?_cons_succ, List.getElem?_map] at he
      obtain ⟨x', q1, q2⟩ := Option.map_eq_some_iff.mp he
      subst q2
      obtain ⟨w, q3, q4⟩ := r.get q1
      exact ⟨w, by simp [q3], q4⟩
  · obtain ⟨fp', d', q'⟩ := a'.ents
    obtain ⟨w, z1, z2, t'⟩ := q' 0 _ rfl
    have ew := z2 v rfl
    subst ew
    -- what is neither frozen nor passed stays
    have keep : ∀ a, F a = none → a ∉ fp i → H a ≠ none → H' a = H a ∧ F' a = none ∧ a ∉ fp' 0 := fun a hF hn hh => by
      have ho : restP F H (fp i) a = H a := by unfold restP; rw [if_pos ⟨hF, hn⟩]
      refine ⟨?_, ?_, fun hm => ?_⟩
      · cases hq : H a with
        | none => exact absurd hq hh
        | some u => exact a'.out a u (by rw [ho]; exact hq)
      · cases hq : F' a with
        | none => rfl
        | some u =>
          have := a'.fo a (by rw [hq]; simp)
          rw [ho] at this
          exact absurd this hh
      · have := (d'.f 0 a hm).2
        rw [ho] at this
        exact hh this
    have keepO : ∀ a o, O a = some o → F a = none ∧ a ∉ fp i := fun a o ho => by
      refine ⟨?_, fun hm => ?_⟩
      · cases hq : F a with
        | none => rfl
        | some u =>
          have := h.fo a (by rw [hq]; simp)
          rw [ho] at this; cases this
      · have := (d.f i a hm).2
        rw [ho] at this; cases this
    refine ⟨a'.sub, fun a o ho => ?_, fun a ha => ?_, by simp [h.len], fun j => if j = i then fp' 0 else (match Γ[j]? with | some (.ow _ _ _) => fp j | _ => []), ⟨fun j => ?_, fun j a ha => ?_, fun j k a ha hb => ?_⟩, fun j e1 he => ?_⟩
    · obtain ⟨k1, k2⟩ := keepO a o ho
      have hH := h.out a o ho
      rw [(keep a k1 k2 (by rw [hH]; simp)).1]
      exact hH
    · cases hq : O a with
      | none => rfl
      | some o =>
        obtain ⟨k1, k2⟩ := keepO a o hq
        have hH := h.out a o hq
        exact absurd (keep a k1 k2 (by rw [hH]; simp)).2.1 ha
    · by_cases hj : j = i
      · simp only [hj, if_true]; exact d'.nd 0
      · simp only [hj, if_false]
        split
        · exact d.nd j
        · exact List.nodup_nil
    · by_cases hj : j = i
      · simp only [hj, if_true] at ha
        refine ⟨(d'.f 0 a ha).1, ?_⟩
        cases hq : O a with
        | none => rfl
        | some o =>
          obtain ⟨k1, k2⟩ := keepO a o hq
          have hH := h.out a o hq
          exact absurd ha (keep a k1 k2 (by rw [hH]; simp)).2.2
      · simp only [hj, if_false] at ha
        split at ha
        · rename_i s' w' x' hx
          obtain ⟨v2, y1, y2, t2⟩ := q j _ hx
          exact ⟨(keep a (d.f j a ha).1 (fun hm => hj (d.ap j i a ha hm)) (t2.there a ha)).2.1, (d.f j a ha).2⟩
        · cases ha
    · have key : ∀ j, j ≠ i → a ∈ (match Γ[j]? with | some (.ow _ _ _) => fp j | _ => []) → a ∈ fp j ∧ a ∉ fp' 0 := fun j hj ha => by
        split at ha
        · rename_i s' w' x' hx
          obtain ⟨v2, y1, y2, t2⟩ := q j _ hx
          exact ⟨ha, (keep a (d.f j a ha).1 (fun hm => hj (d.ap j i a ha hm)) (t2.there a ha)).2.2⟩
        · cases ha
      by_cases hj : j = i
      · by_cases hk : k = i
        · rw [hj, hk]
        · simp only [hj, if_true] at ha
          simp only [hk, if_false] at hb
          exact absurd ha (key k hk hb).2
      · simp only [hj, if_false] at ha
        by_cases hk : k = i
        · simp only [hk, if_true] at hb
          exact absurd hb (key j hj ha).2
        · simp only [hk, if_false] at hb
          exact d.ap j k a (key j hj ha).1 (key k hk hb).1
    · by_cases hj : j = i
      · subst hj
        rw [List.getElem?_set_self hi] at he
        cases he
        simp only [if_true]
        exact ⟨_, h1, h2, t'⟩
      · rw [List.getElem?_set_ne (Ne.symm hj)] at he
        simp only [hj, if_false]
        have qq := q j e1 he
        cases e1 with
        | no => trivial
        | fz y => obtain ⟨v2, y1, y2⟩ := qq; exact ⟨v2, y1, y2.mono lf⟩
        | sc ns => obtain ⟨v2, y1, y2⟩ := qq; exact ⟨v2, y1, le_l lf y2⟩
        | ow s' w' x' =>
          simp only [he]
          obtain ⟨v2, y1, y2, t2⟩ := qq
          exact ⟨v2, y1, y2, t2.frame lf fun a ha => (keep a (d.f j a ha).1 (fun hm => hj (d.ap j i a ha hm)) (t2.there a ha)).1⟩
end
section
variable {X : Cx} {E : ME} {kk k : Nat} {N W G Sl : List Str} {sc : Scope} {es : List Expr} {pos p pv : Pos} {T : Type} {S : T → List Ent} {t : T} {s : Sh}
/-- f(own, ..): get, put: the owned datum within the state -/
theorem exe_callO {m : D → List D → Option (D × D)} {mr : Option (D × T)} {ov : Option V} (L : LX X E kk N W G Sl sc) (j iv jv : Nat) {n nv : Str} (hG : G[j]? = some n) (hN : N[iv]? = some nv) (hW : W[jv]? = some nv) (h : FnM E k n (CO1 s m)) (hk : k ≤ kk) (get : T → D) (put : T → D → T)
    (hg : ∀ t, (S t)[iv]? = some (.ow s ov (get t))) (hp : ∀ t y, (S t).set iv (.ow s ov y) = S (put t y)) (ha : AXe X S t es (fun xs t' => (m (get t') xs).map fun q => (q.1, put t' q.2)) mr)
    (he : starEach (.Name nv pv :: es) X.env = (false, eval (.Name nv pv) X.env) :: starEach es X.env := by rfl) (hpl : (backTo pos (starEach es X.env)).any (·.1) = false := by rfl) : EXe X S t (.Call (.Name n p) (.Name nv pv :: es) [] pos) mr := by
  obtain ⟨h1, h2⟩ := L.gl (List.mem_of_getElem? hG)
  obtain ⟨d1, d2, d3⟩ := dund1 h2
  have hv := own_var (pos := pv) L iv jv hN hW
  obtain ⟨E1, E2, E3, E4, E5⟩ := E
  obtain ⟨f, fd, ps, ok, hm, hki, hb⟩ := h
  have q1 := L.mx.prog; have q2 := L.mx.w; have q3 := L.mx.K; have q4 := L.mx.mg; have q5 := L.mx.base
  simp only at q1 q2 q3 q4 q5 ok hm hki hb
  subst q1 q2 q3 q4 q5
  refine (pe_call ok (L.rm.mono hk) h1 hm hki hb .nil pass0 (pa_cons hv ha he) d1 he hpl).weak fun σ H Q ⟨F, O, z, at_, e, q⟩ => ?_
  obtain ⟨fp, d, qe⟩ := at_.ents
  obtain ⟨v0, hs0, _⟩ := qe iv _ (hg t)
  refine ⟨v0, hs0, F, O, z, at_, e, fun vs xs t' F1 H1 f1 a1 r1 _ ek => ?_⟩
  obtain ⟨qr, e3, e4⟩ := Option.map_eq_some_iff.mp ek
  subst e4
  obtain ⟨v, fp1, hs1, a2, back⟩ := a1.pass1 (hg t') r1
  rw [hs0] at hs1
  cases hs1
  show spC X.K (CO1 s m) (v0 :: vs ++ []) H1 Q E0
  rw [List.append_nil]
  refine ⟨F1, _, _, qr.1, _, a2, ⟨v0, _, xs, qr.2, rfl, e3, rfl⟩, fun v F' H' f a' r' => ?_⟩
  have a3 := back F' H' _ _ f a'
  rw [hp] at a3
  exact q v F' H' (f1.trans f) a3 r'
/-- .. where the state is the owned datum alone -/
theorem exe_callO1 {S : D → List Ent} {t : D} {m : D → List D → Option (D × D)} {mr : Option (D × D)} {ov : Option V} (L : LX X E kk N W G Sl sc) (j iv jv : Nat) {n nv : Str} (hG : G[j]? = some n) (hN : N[iv]? = some nv) (hW : W[jv]? = some nv) (h : FnM E k n (CO1 s m)) (hk : k ≤ kk)
    (hg : ∀ t, (S t)[iv]? = some (.ow s ov t)) (hp : ∀ t y, (S t).set iv (.ow s ov y) = S y) (ha : AXe X S t es (fun xs t' => m t' xs) mr)
    (he : starEach (.Name nv pv :: es) X.env = (false, eval (.Name nv pv) X.env) :: starEach es X.env := by rfl) (hpl : (backTo pos (starEach es X.env)).any (·.1) = false := by rfl) : EXe X S t (.Call (.Name n p) (.Name nv pv :: es) [] pos) mr :=
  exe_callO L j iv jv hG hN hW h hk id (fun _ y => y) hg hp (PA.weak ha fun σ H Q ⟨F, O, r, a, e, q⟩ => ⟨F, O, r, a, e, fun vs xs t' F' H' f a' r' el ek => q vs xs t' F' H' f a' r' el (by show (m t' xs).map (fun q => (q.1, q.2)) = some r; rw [show m t' xs = some r from ek]; rfl)⟩) he hpl
end
end Z
namespace Z
open PySem PySem.Spec L2

/-! ## a place kept from all -/
section
variable {K : PySem.W.Frag} {F O H : Hp} {σ : L2.St} {Γ : List Ent} {p : Addr}
theorem At.protect (h : At K F O σ H Γ) (hp : H p = none) (o : HO) : At K F (upd O p o) σ (upd H p o) Γ := by
  obtain ⟨fp, d, q⟩ := h.ents
  have fF : F p = none := h.sub.none hp
  refine ⟨fun a u ha => by rw [upd_ne (ne_of_none ha fF)]; exact h.sub a u ha, fun a u ha => ?_, fun a ha => ?_, h.len, fun j => (match Γ[j]? with | some (.ow _ _ _) => fp j | _ => []), ⟨fun j => ?_, fun j a ha => ?_, fun j k a ha hb => ?_⟩, fun j e1 he => ?_⟩
  · by_cases ea : a = p
    · subst ea; rw [upd_same] at ha ⊢; exact ha
    · rw [upd_ne ea] at ha ⊢; exact h.out a u ha
  · by_cases ea : a = p
    · subst ea; exact absurd fF ha
    · rw [upd_ne ea]; exact h.fo a ha
  · split
    · exact d.nd j
    · exact List.nodup_nil
  · split at ha
    · rename_i s w x hx
      obtain ⟨v, q1, q2, t⟩ := q j _ hx
      refine ⟨(d.f j a ha).1, ?_⟩
      rw [upd_ne (fun ea => by subst ea; exact t.there a ha hp)]
      exact (d.f j a ha).2
    · cases ha
  · split at ha
    · split at hb
      · exact d.ap j k a ha hb
      · cases hb
    · cases ha
  · have qq := q j e1 he
    cases e1 with
    | no => trivial
    | fz x => exact qq
    | sc ns => exact qq
    | ow s w x =>
      simp only [he]
      exact qq.frame (Le.refl F) fun a ha => upd_ne fun ea => by
        obtain ⟨v, q1, q2, t⟩ := qq
        subst ea
        exact t.there a ha hp
theorem At.reO {o o' : HO} (h : At K F (upd O p o) σ H Γ) : At K F (upd O p o') σ (upd H p o') Γ := by
  obtain ⟨fp, d, q⟩ := h.ents
  have fF : F p = none := by
    cases hq : F p with
    | none => rfl
    | some u => have := h.fo p (by rw [hq]; simp); rw [upd_same] at this; cases this
  have hO : ∀ a, upd O p o a = none → upd O p o' a = none := fun a ha => by
    by_cases ea : a = p
    · subst ea; rw [upd_same] at ha; cases ha
    · rw [upd_ne ea] at ha ⊢; exact ha
  refine ⟨fun a u ha => by rw [upd_ne (ne_of_none ha fF)]; exact h.sub a u ha, fun a u ha => ?_, fun a ha => hO a (h.fo a ha), h.len, fp, ⟨d.nd, fun j a ha => ⟨(d.f j a ha).1, hO a (d.f j a ha).2⟩, d.ap⟩, fun j e1 he => ?_⟩
  · by_cases ea : a = p
    · subst ea; rw [upd_same] at ha ⊢; exact ha
    · rw [upd_ne ea] at ha ⊢; exact h.out a u (by rw [upd_ne ea]; exact ha)
  · exact (q j e1 he).frame (Le.refl F) fun a ha => upd_ne fun ea => by
      subst ea
      have := (d.f j a ha).2
      rw [upd_same] at this; cases this
theorem At.prot_get {o : HO} (h : At K F (upd O p o) σ H Γ) : H p = some o ∧ F p = none := by
  refine ⟨h.out p o upd_same, ?_⟩
  cases hq : F p with
  | none => rfl
  | some u => have := h.fo p (by rw [hq]; simp); rw [upd_same] at this; cases this
theorem At.unprotect {o : HO} (h : At K F (upd O p o) σ H Γ) (hO : O p = none) : At K (upd F p o) O σ H Γ := by
  obtain ⟨fp, d, q⟩ := h.ents
  obtain ⟨hp, fF⟩ := h.prot_get
  have hO2 : ∀ a, upd O p o a = none → O a = none := fun a ha => by
    by_cases ea : a = p
    · subst ea; exact hO
    · rw [upd_ne ea] at ha; exact ha
  refine ⟨fun a u ha => ?_, fun a u ha => ?_, fun a ha => ?_, h.len, fp, ⟨d.nd, fun j a ha => ?_, d.ap⟩, fun j e1 he => (q j e1 he).frame (Le.new fF) fun a _ => rfl⟩
  · by_cases ea : a = p
    · subst ea; rw [upd_same] at ha; cases ha; exact hp
    · rw [upd_ne ea] at ha; exact h.sub a u ha
  · refine h.out a u ?_
    rw [upd_ne (ne_of_none ha hO)]; exact ha
  · by_cases ea : a = p
    · subst ea; exact hO
    · rw [upd_ne ea] at ha; exact hO2 a (h.fo a ha)
  · have ea : a ≠ p := fun ea => by
      subst ea
      have := (d.f j a ha).2
      rw [upd_same] at this; cases this
    exact ⟨by rw [upd_ne ea]; exact (d.f j a ha).1, hO2 a (d.f j a ha).2⟩
end

/-! ## comprehensions that turn what is owned -/
def lcGE {T : Type} (f : D → T → Option (Option D × T)) : List D → T → Option (List D × T)
  | [], t => some ([], t)
  | x :: r, t => (f x t).bind fun o => (lcGE f r o.2).map fun ys => match o.1 with
    | some y => (y :: ys.1, ys.2)
    | none => ys
def lcME {T : Type} (f : D → T → Option (D × T)) : List D → T → Option (List D × T)
  | [], t => some ([], t)
  | x :: r, t => (f x t).bind fun y => (lcME f r y.2).map fun ys => (y.1 :: ys.1, ys.2)
def lcIE {T : Type} (c : D → T → Option (Bool × T)) (f : D → T → Option (D × T)) : List D → T → Option (List D × T)
  | [], t => some ([], t)
  | x :: r, t => (c x t).bind fun b => if b.1 = true then (f x b.2).bind fun y => (lcIE c f r y.2).map fun ys => (y.1 :: ys.1, ys.2) else lcIE c f r b.2
def stepE {T : Type} (c : D → T → Option (Bool × T)) (f : D → T → Option (D × T)) (x : D) (t : T) : Option (Option D × T) := (c x t).bind fun b => if b.1 = true then (f x b.2).map fun y => (some y.1, y.2) else some (none, b.2)
theorem lcME_G {T : Type} (f : D → T → Option (D × T)) : ∀ xs t, lcME f xs t = lcGE (stepE (fun _ t => some (true, t)) f) xs t
  | [], _ => rfl
  | x :: r, t => by
    unfold lcME lcGE
    have ih := lcME_G f r
    unfold stepE at ih ⊢
    simp only [Option.bind_some, if_true]
    cases f x t with
    | none => rfl
    | some y => simp only [Option.bind_some, Option.map_some]; rw [ih]; rfl
theorem lcIE_G {T : Type} (c : D → T → Option (Bool × T)) (f : D → T → Option (D × T)) : ∀ xs t, lcIE c f xs t = lcGE (stepE c f) xs t
  | [], _ => rfl
  | x :: r, t => by
    unfold lcIE lcGE
    have ih := lcIE_G c f r
    unfold stepE at ih ⊢
    cases c x t with
    | none => rfl
    | some b =>
      simp only [Option.bind_some]
      cases hb : b.1 with
      | true =>
        simp only [if_true]
        cases f x b.2 with
        | none => rfl
        | some y => simp only [Option.bind_some, Option.map_some]; rw [ih]
      | false =>
        simp only [Bool.false_eq_true, if_false, Option.bind_some]
        rw [ih]
        cases lcGE _ r b.2 <;> rfl

def tXIe {T : Type} (K : PySem.W.Frag) (S : T → List Ent) (t : T) (m : Option (List D × T)) : TI := fun σ H R => ∃ F O r, At K F O σ H (S t) ∧ m = some r ∧ ∀ F' H' J, Le F F' → At K F' O σ H' (S r.2) → ItD K F' J r.1 → R J H'
abbrev XIe {T : Type} (X : Cx) (S : T → List Ent) (t : T) (tg e : Expr) (m : Option (List D × T)) : Prop := PI X tg e (tXIe X.K S t m)
section
variable {X : Cx} {E : ME} {kk k : Nat} {N W G Sl : List Str} {sc scope : Scope} {Γ : List Ent} {a b c e tg elt : Expr} {es : List Expr} {x y : D} {pos p p1 p2 : Pos} {rest ss body : List Stmt}
variable {T : Type} {S : T → List Ent} {t : T} {me : Option (D × T)} {mi : Option (List D × T)}
variable {Nt L' R' : Type} {gN : Nt → List Ent} {gL : L' → List Ent} {gR : R' → List Ent} {vR : R' → D}
theorem xie_pure {m : Option (List D)} (h : XI X (S t) tg e m) : XIe X S t tg e (m.map fun x => (x, t)) := PI.weak h fun σ H R ⟨F, O, r, at_, e, q⟩ => by
  obtain ⟨x, e1, e2⟩ := Option.map_eq_some_iff.mp e
  subst e2
  exact ⟨F, O, x, at_, e1, fun F' H' J g it => q F' H' J g.f (at_.grow g) it⟩
theorem xie_rg1 (L : LX X E kk N W G Sl sc) (j : Nat) (hG : G[j]? = some ("range" : Str)) (hm : Free E "range") (ha : EXe X S t a me) (hs : starEach [a] X.env = [(false, eval a X.env)] := by rfl) : XIe X S t tg (.Call (.Name "range" p) [a] [] pos) (me.bind fun r => (pRg1 r.1).map fun x => (x, r.2)) :=
  (pi_range1 (L.gl (List.mem_of_getElem? hG)).1 (hm.at L) (pa_cons ha pa_nil hs) hs).weak fun σ H R ⟨F, O, xs, at_, e, q⟩ => by
    obtain ⟨⟨x, t1⟩, e1, e⟩ := bind_some' e
    obtain ⟨xs', e2, e3⟩ := Option.map_eq_some_iff.mp e
    subst e3
    cases x <;> simp only [pRg1, reduceCtorEq] at e2
    split at e2
    · rename_i hz
      cases e2
      have hz2 := of_decide_eq_true hz.2
      have hz := of_decide_eq_true hz.1
      refine ⟨F, O, _, at_, e1, fun v F1 H1 f1 a1 r1 => ?_⟩
      cases r1
      exact ⟨_, rfl, hz.1, hz.2, q F1 H1 _ f1 a1 (itd_range hz2)⟩
    · cases e2
theorem xie_val (he : EXe X S t e me) : XIe X S t tg e (me.bind fun r => (pIter r.1).map fun x => (x, r.2)) := (((pi_list he).or (pi_tup he)).or (pi_str he)).weak fun σ H R ⟨F, O, xs, at_, e, q⟩ => by
  obtain ⟨⟨x, t1⟩, e1, e⟩ := bind_some' e
  obtain ⟨xs', e2, e3⟩ := Option.map_eq_some_iff.mp e
  subst e3
  cases x with
  | list ds =>
    cases e2
    refine .inl (.inl ⟨F, O, _, at_, e1, fun v F1 H1 f1 a1 r1 => ?_⟩)
    cases r1 with
    | lst h r => exact ⟨_, rfl, ⟨_, .of (a1.sub _ _ h.1)⟩, q F1 H1 _ f1 a1 (itd_list h r)⟩
  | tuple ds =>
    cases e2
    refine .inl (.inr ⟨F, O, _, at_, e1, fun v F1 H1 f1 a1 r1 => ?_⟩)
    cases r1 with
    | tup h r => exact ⟨_, rfl, ⟨_, le_t a1.sub h.1.sq⟩, q F1 H1 _ f1 a1 (itd_tup h r)⟩
  | str z =>
    simp only [pIter] at e2
    split at e2
    · rename_i hz
      cases e2
      refine .inr ⟨F, O, _, at_, e1, fun v F1 H1 f1 a1 r1 => ?_⟩
      cases r1
      exact ⟨z, rfl, q F1 H1 _ f1 a1 (itd_str z hz)⟩
    · cases e2
  | _ => cases e2

theorem exe_lcG (L : LX X E kk N W G Sl sc) {Wb Gb Sb : List Str} (i j : Nat) {n : Str} {p' : Pos} (hN : N[i]? = some n) (hT : Sb[j]? = some n) (ok : lcOk N Wb Gb Sb sc scope [(n, i)] = true) {ifs : List Expr} {cc : D → T → Option (Bool × T)} {mf : D → T → Option (D × T)}
    (hS : ∀ t, (S t).set i .no = S t)
    (hi : XIe X S t (.Name n p') e mi)
    (ht : ∀ X', LX X' E kk N Wb Gb Sb (relS scope sc) → ∀ x t, PTs X' ifs (tTXe X'.K (fun t => (S t).set i (.fz x)) t (cc x t)))
    (he : ∀ X', LX X' E kk N Wb Gb Sb (relS scope sc) → ∀ x t, EXe X' (fun t => (S t).set i (.fz x)) t elt (mf x t)) (hs : ∀ x, foldedSetIterable e X.env x = pure x := by intro _; rfl) :
    CE X (.ListComp elt [⟨.Name n p', e, ifs, 0⟩] scope pos) (tXe X.K S t (mi.bind fun r => (lcGE (stepE cc mf) r.1 r.2).map fun z => (.list z.1, z.2))) := by
  unfold lcOk at ok
  simp only [Bool.and_eq_true] at ok
  obtain ⟨⟨o1, o2⟩, o3⟩ := ok
  have o4 : BlkOk X.N X.env.scope scope [(n, i)] := by rw [L.n, L.scp]; exact blkOk_by o3
  have hG : ∀ (s : Shared) (H : Hp) (C : Addr) (cl : List (Str × Addr)) (fp : List Addr), PG (X.blk s H scope (compEnvC scope cl C X.env) fp) (.Name n p') (fun v σ H Q => ∃ t, tGY X.K (S t) [i] some (fun x => (S t).set i (.fz x)) v σ H Q) :=
    fun s H C cl fp => PG.ex fun t => gy_name (L.blk o1 o2) i j hN hT
  have hT' : ∀ (s : Shared) (H : Hp) (C : Addr) (cl : List (Str × Addr)) (fp : List Addr), PTs (X.blk s H scope (compEnvC scope cl C X.env) fp) ifs (fun σ H Q => ∃ q : D × T, tTXe X.K (fun t => (S t).set i (.fz q.1)) q.2 (cc q.1 q.2) σ H Q) :=
    fun s H C cl fp => ⟨fun p s' σ H' Q I ⟨a, q⟩ => (ht _ (L.blk o1 o2) a.1 a.2).run p s' σ H' Q I q⟩
  have hE : ∀ (s : Shared) (H : Hp) (C : Addr) (cl : List (Str × Addr)) (fp : List Addr), PE (X.blk s H scope (compEnvC scope cl C X.env) fp) elt (fun σ H Q => ∃ q : D × T, tXe X.K (fun t => (S t).set i (.fz q.1)) q.2 (mf q.1 q.2) σ H Q) :=
    fun s H C cl fp => ⟨fun p s' σ H' Q I ⟨a, q⟩ => (he _ (L.blk o1 o2) a.1 a.2).run p s' σ H' Q I q⟩
  refine (CE.mk (pe_lc L.calm L.nd hi o4 hG hT' hE hs) fun i y py spos a b c => ps_setLc L.calm L.nd a b c hi o4 hG hT' hE hs).weak fun σ H Q ⟨F, O, z, at_, e, q⟩ => ?_
  obtain ⟨⟨xs, t0⟩, e1, e⟩ := bind_some' e
  obtain ⟨⟨ys, tz⟩, e2, e3⟩ := Option.map_eq_some_iff.mp e
  subst e3
  refine ⟨F, O, (xs, t0), at_, e1, fun F1 H1 J f1 a1 it Da hD => ?_⟩
  have hOD : O Da = none := a1.out.none hD
  have ww : ∀ {F O H} {t}, At X.K F O σ H (S t) → At X.K F O (L2.wipe σ [i]) H (S t) := fun {F O H t} a => by
    have := a.wipe [i]
    show At X.K F O (L2.wipe σ [i]) H (S t)
    have e : wipeE (S t) [i] = S t := hS t
    rw [e] at this
    exact this
  refine ⟨fun i' mm H' => mm = xs.length - i' ∧ i' ≤ xs.length ∧ ∃ F' acc zs ws t', Le F1 F' ∧ At X.K F' (upd O Da (.lst acc)) σ H' (S t') ∧ acc.length ≤ i' ∧ Reps X.K F' acc zs ∧ lcGE (stepE cc mf) (xs.drop i') t' = some (ws, tz) ∧ zs ++ ws = ys,
    ⟨xs.length, by simp, Nat.zero_le _, F1, [], [], ys, t0, Le.refl _, a1.protect hD _, Nat.le_refl _, .nil, by simpa using e2, rfl⟩, ?_⟩
  rintro i' mm H' ⟨rfl, hi2, F', acc, zs, ws, t', lf, a', hl, r, ew, ey⟩
  by_cases hlt : i' < xs.length
  · refine .inr ⟨it.go i' F' H' lf a'.sub hlt, fun H2 => ∃ F2 acc2 zs2 ws2 t2, Le F1 F2 ∧ At X.K F2 (upd O Da (.lst acc2)) σ H2 (S t2) ∧ acc2.length ≤ i' + 1 ∧ Reps X.K F2 acc2 zs2 ∧ lcGE (stepE cc mf) (xs.drop (i' + 1)) t2 = some (ws2, tz) ∧ zs2 ++ ws2 = ys,
      fun H2 ⟨F2, acc2, zs2, ws2, t2, a⟩ => ⟨xs.length - (i' + 1), by omega, rfl, hlt, F2, acc2, zs2, ws2, t2, a⟩, fun v H2 hy => ?_⟩
    obtain ⟨F2, g2, r2⟩ := it.yld i' F' H' v H2 lf a'.sub hy _ (List.getElem?_eq_getElem hlt)
    rw [List.drop_eq_getElem_cons hlt] at ew
    unfold lcGE at ew
    obtain ⟨o, ef, ew⟩ := bind_some' ew
    obtain ⟨ws2, ew2, ew3⟩ := Option.map_eq_some_iff.mp ew
    unfold stepE at ef
    obtain ⟨bb, ec, ef⟩ := bind_some' ef
    have back : ∀ {F3 H3 : Hp} {σ2 : L2.St} {t3 : T}, L2.wipe σ2 [i] = L2.wipe (L2.wipe σ [i]) [i] → At X.K F3 (upd O Da (.lst acc)) σ2 H3 ((S t3).set i (.fz xs[i'])) → At X.K F3 (upd O Da (.lst acc)) σ H3 (S t3) := fun {F3 H3 σ2 t3} hw a3 => by
      have h1 := a3.wipe [i]
      have e1 : wipeE ((S t3).set i (.fz xs[i'])) [i] = S t3 := by
        show ((S t3).set i (.fz xs[i'])).set i .no = S t3
        rw [List.set_set, hS]
      rw [e1, hw] at h1
      obtain ⟨fp, d, qe⟩ := h1.ents
      refine ⟨h1.sub, h1.out, h1.fo, by rw [h1.len, wipe_length, wipe_length], fp, d, fun k x hx => ?_⟩
      have := qe k x hx
      by_cases hk : k = i
      · subst hk
        have : x = .no := by
          rw [← hS t3] at hx
          have hkl : k < (S t3).length := by
            have := (List.getElem?_eq_some_iff.mp hx).1
            simpa using this
          rw [List.getElem?_set_self hkl] at hx
          exact (Option.some.inj hx).symm
        subst this
        trivial
      · rw [wipe_get, wipe_get] at this
        simpa [hk] using this
    refine ⟨t', F2, _, xs[i'], xs[i'], ww (a'.grow g2), r2, rfl, fun σ2 at2 hw => ⟨by show L2.wipe σ2 [i] = L2.wipe σ [i]; rw [hw]; exact wipe_eq (wipe_length _ _) fun k hk => by rw [wipe_get]; simp at hk; simp [hk], (xs[i'], t'), F2, _, bb, at2, ec, fun F3 H3 f3 a3 => ?_⟩⟩
    obtain ⟨bk, tb⟩ := bb
    cases bk with
    | false =>
      simp only [Bool.false_eq_true, if_false, Option.some.injEq] at ef ⊢
      subst ef
      simp only at ew3 ew2
      subst ew3
      exact ⟨F3, acc, zs, _, tb, lf.trans (g2.f.trans f3), back hw a3, by omega, r.mono (g2.f.trans f3), ew2, ey⟩
    | true =>
      simp only [if_true] at ef ⊢
      obtain ⟨y, ey2, ef⟩ := Option.map_eq_some_iff.mp ef
      subst ef
      simp only at ew3 ew2
      obtain ⟨w1, w2⟩ := ws2
      cases ew3
      refine ⟨(xs[i'], tb), F3, _, y, a3, ey2, fun w F4 H4 f4 a4 r4 => ?_⟩
      obtain ⟨hDa, fDa⟩ := a4.prot_get
      have hs2 : xs.length ≤ sizeLine := it.len
      exact ⟨acc, hDa, by omega, F4, acc ++ [w], zs ++ [y.1], w1, y.2, lf.trans (g2.f.trans (f3.trans f4)), (back hw a4).reO, by simp; omega, (r.mono (g2.f.trans (f3.trans f4))).snoc r4, ew2, by rw [List.append_assoc]; exact ey⟩
  · have ei : i' = xs.length := by omega
    subst ei
    refine .inl ⟨it.stop F' H' lf a'.sub, ?_⟩
    rw [List.drop_length] at ew
    cases ew
    rw [List.append_nil] at ey
    subst ey
    obtain ⟨hDa, fDa⟩ := a'.prot_get
    exact q _ (upd F' Da (.lst acc)) H' (f1.trans (lf.trans (Le.new fDa))) (a'.unprotect hOD) (.lst ⟨upd_same, Nat.le_trans hl it.len⟩ (r.mono (Le.new fDa)))
theorem ptse_yes {X' : Cx} {S : T → List Ent} {t : T} : PTs X' [] (tTXe X'.K S t (some (true, t))) := ⟨fun p s σ H Q I ⟨F, O, b, at_, e, q⟩ => by cases e; exact pts_nil.run p s σ H Q I (q F H (Le.refl F) at_)⟩
theorem ptse_ifs {X' : Cx} {S : T → List Ent} {t : T} {c : Expr} {m : Option (Bool × T)} (h : TXe X' S t c m) : PTs X' [c] (tTXe X'.K S t m) := pts_one h
theorem exe_lc1 (L : LX X E kk N W G Sl sc) {Wb Gb Sb : List Str} (i j : Nat) {n : Str} {p' : Pos} (hN : N[i]? = some n) (hT : Sb[j]? = some n) (ok : lcOk N Wb Gb Sb sc scope [(n, i)] = true) {mf : D → T → Option (D × T)}
    (hS : ∀ t, (S t).set i .no = S t) (hi : XIe X S t (.Name n p') e mi)
    (he : ∀ X', LX X' E kk N Wb Gb Sb (relS scope sc) → ∀ x t, EXe X' (fun t => (S t).set i (.fz x)) t elt (mf x t)) (hs : ∀ x, foldedSetIterable e X.env x = pure x := by intro _; rfl) :
    CE X (.ListComp elt [⟨.Name n p', e, [], 0⟩] scope pos) (tXe X.K S t (mi.bind fun r => (lcME mf r.1 r.2).map fun z => (.list z.1, z.2))) := by
  have h := exe_lcG (cc := fun _ t => some (true, t)) (mf := mf) (pos := pos) L i j hN hT ok hS hi (fun X' L' x t => ptse_yes) he hs
  have e1 : lcME mf = lcGE (stepE (fun _ t => some (true, t)) mf) := by funext xs t; exact lcME_G mf xs t
  rw [e1]; exact h
theorem exe_lcI1 (L : LX X E kk N W G Sl sc) {Wb Gb Sb : List Str} (i j : Nat) {n : Str} {p' : Pos} (hN : N[i]? = some n) (hT : Sb[j]? = some n) (ok : lcOk N Wb Gb Sb sc scope [(n, i)] = true) {cc : D → T → Option (Bool × T)} {mf : D → T → Option (D × T)}
    (hS : ∀ t, (S t).set i .no = S t) (hi : XIe X S t (.Name n p') e mi)
    (ht : ∀ X', LX X' E kk N Wb Gb Sb (relS scope sc) → ∀ x t, TXe X' (fun t => (S t).set i (.fz x)) t c (cc x t))
    (he : ∀ X', LX X' E kk N Wb Gb Sb (relS scope sc) → ∀ x t, EXe X' (fun t => (S t).set i (.fz x)) t elt (mf x t)) (hs : ∀ x, foldedSetIterable e X.env x = pure x := by intro _; rfl) :
    CE X (.ListComp elt [⟨.Name n p', e, [c], 0⟩] scope pos) (tXe X.K S t (mi.bind fun r => (lcIE cc mf r.1 r.2).map fun z => (.list z.1, z.2))) := by
  have h := exe_lcG (cc := cc) (mf := mf) (pos := pos) L i j hN hT ok hS hi (fun X' L' x t => ptse_ifs (ht X' L' x t)) he hs
  have e1 : lcIE cc mf = lcGE (stepE cc mf) := by funext xs t; exact lcIE_G cc mf xs t
  rw [e1]; exact h

/-! ## statements with such expressions -/
theorem bs_setE (L : LX X E kk N W G Sl sc) (i j : Nat) {n : Str} {p' : Pos} {k : D × T → Option (Ctl Nt L' R')} (hN : N[i]? = some n) (hT : Sl[j]? = some n) (he : EXe X S t e me) (hr : ∀ r, BS X ((S r.2).set i (.fz r.1)) rest (k r) gN gL gR vR)
    (hs : swapsWith e (some (.Name n p')) pos.line X.env = pure false := by rfl) : BS X (S t) (.Assign [.Name n p'] e pos :: rest) (me.bind k) gN gL gR vR := by
  obtain ⟨h1, h2, h3⟩ := L.slot hN hT
  exact (pss_cons (ps_set L.nd h1 h2 he hs h3) (PSs.ex hr)).weak fun D σ H ⟨F, O, c, at_, e, q⟩ => by
    obtain ⟨r, e1, e⟩ := bind_some' e
    exact ⟨F, O, r, at_, e1, fun v F1 H1 f1 a1 r1 => ⟨r, le_rest f1 (a1.set r1) e q⟩⟩
/-- name = [..] -/
theorem bs_setC {mp : Option D} (L : LX X E kk N W G Sl sc) (i : Nat) {n : Str} {p' : Pos} {k : D → Option (Ctl Nt L' R')} (hN : N[i]? = some n) (hl : sc.names.lookup n = some .local) (he : CE X e (tX X.K Γ mp id)) (hr : ∀ x, BS X (Γ.set i (.fz x)) rest (k x) gN gL gR vR)
    (hs : swapsWith e (some (.Name n p')) pos.line X.env = pure true) : BS X Γ (.Assign [.Name n p'] e pos :: rest) (mp.bind k) gN gL gR vR :=
  (pss_cons (he.st i n p' pos (by rw [L.n]; exact hN) (by rw [L.scp]; exact hl) hs) (PSs.ex hr)).weak fun D σ H ⟨F, O, c, at_, e, q⟩ => by
    obtain ⟨x, e1, e⟩ := bind_some' e
    exact ⟨F, O, x, at_, e1, fun v F1 H1 g1 r1 => ⟨x, le_rest g1.f ((at_.grow g1).set r1) e q⟩⟩
theorem bs_setCE (L : LX X E kk N W G Sl sc) (i : Nat) {n : Str} {p' : Pos} {k : D × T → Option (Ctl Nt L' R')} (hN : N[i]? = some n) (hl : sc.names.lookup n = some .local) (he : CE X e (tXe X.K S t me)) (hr : ∀ r, BS X ((S r.2).set i (.fz r.1)) rest (k r) gN gL gR vR)
    (hs : swapsWith e (some (.Name n p')) pos.line X.env = pure true) : BS X (S t) (.Assign [.Name n p'] e pos :: rest) (me.bind k) gN gL gR vR :=
  (pss_cons (he.st i n p' pos (by rw [L.n]; exact hN) (by rw [L.scp]; exact hl) hs) (PSs.ex hr)).weak fun D σ H ⟨F, O, c, at_, e, q⟩ => by
    obtain ⟨r, e1, e⟩ := bind_some' e
    exact ⟨F, O, r, at_, e1, fun v F1 H1 f1 a1 r1 => ⟨r, le_rest f1 (a1.set r1) e q⟩⟩
/-- the way a comprehension is stored -/
def swC (sc scope : Scope) (y : Str) : Bool := (match sc.kind with | .function => true | _ => false) && (match sc.names.lookup y with | some .local => true | _ => false) && !(scope.names.any fun (n, k) => n == y && (k == .local || k == .cell))
theorem swT {elt : Expr} {gs : List Comprehension} {y : Str} {py : Pos} {l : Nat} (L : LX X E kk N W G Sl sc) (h : swC sc scope y = true) (hl : (py.line == pos.line) = true) : swapsWith (.ListComp elt gs scope pos) (some (.Name y py)) l X.env = pure true ∧ sc.names.lookup y = some .local := by
  unfold swC at h
  simp only [Bool.and_eq_true, Bool.not_eq_true'] at h
  obtain ⟨⟨h1, h2⟩, h3⟩ := h
  have k1 : sc.kind = .function := by revert h1; cases sc.kind <;> simp
  have k2 : sc.names.lookup y = some .local := by
    split at h2
    · assumption
    · cases h2
  exact ⟨sw_true (by rw [L.scp]; exact k1) (by rw [L.scp]; exact k2) hl h3, k2⟩
theorem swF {elt : Expr} {gs : List Comprehension} {y : Str} {py : Pos} {l : Nat} (L : LX X E kk N W G Sl sc) (h : swC sc scope y = false) (hk : (match sc.kind with | .function => true | _ => false) = true) : swapsWith (.ListComp elt gs scope pos) (some (.Name y py)) l X.env = pure false := by
  have k1 : X.env.scope.kind = .function := by rw [L.scp]; revert hk; cases sc.kind <;> simp
  have hb : X.env.blockKind = .function := by unfold Env.blockKind; rw [k1]; rfl
  have e : (X.env.kindOf y == some .local && !(scope.names.any fun (n, k) => n == y && (k == .local || k == .cell))) = false := by
    unfold swC at h
    rw [hk, Bool.true_and] at h
    have : (X.env.kindOf y == some .local) = (match sc.names.lookup y with | some .local => true | _ => false) := by
      unfold Env.kindOf
      rw [L.scp]
      cases sc.names.lookup y with
      | none => rfl
      | some k => cases k <;> rfl
    rw [this]
    exact h
  unfold swapsWith
  simp only [hb]
  show pure _ = pure false
  congr 1
  cases hq : (X.env.kindOf y == some NameKind.local)
  · simp
  · rw [hq, Bool.true_and] at e
    rw [e]
    simp
theorem bs_exprE {k : D × T → Option (Ctl Nt L' R')} (he : EXe X S t e me) (hr : ∀ r, BS X (S r.2) rest (k r) gN gL gR vR) (hs : swapsWith e none pos.line X.env = pure false := by rfl) : BS X (S t) (.Expr e pos :: rest) (me.bind k) gN gL gR vR :=
  (pss_cons (ps_expr he hs) (PSs.ex hr)).weak fun D σ H ⟨F, O, c, at_, e, q⟩ => by
    obtain ⟨r, e1, e⟩ := bind_some' e
    exact ⟨F, O, r, at_, e1, fun v F1 H1 f1 a1 r1 => ⟨r, le_rest f1 a1 e q⟩⟩
theorem bs_retE {mk : D × T → R'} (he : EXe X S t e me) (h1 : ∀ r, vR (mk r) = r.1) (h2 : ∀ r, Weak (S r.2) (gR (mk r))) : BS X (S t) (.Return (some e) pos :: rest) (me.bind fun r => some (.rt (mk r))) gN gL gR vR :=
  (pss_cons (ps_ret he) pss_never).weak fun D σ H ⟨F, O, c, at_, e, q⟩ => by
    obtain ⟨r, e1, e⟩ := bind_some' e
    cases e
    exact ⟨F, O, r, at_, e1, fun v F1 H1 f1 a1 r1 => q v σ F1 H1 f1 (a1.weak (h2 r)) (by rw [h1]; exact r1)⟩
/-- target = e, the target any -/
theorem bs_asg {A : Type} {mp : Option D} {mt : D → Option A} {gt : A → List Ent} {k : A → Option (Ctl Nt L' R')} (he : EX X Γ e mp) (hg : GX X Γ tg mt gt) (hr : ∀ a, BS X (gt a) rest (k a) gN gL gR vR)
    (hs : swapsWithSole [tg] e pos.line X.env = pure false := by rfl) (hw : swappedStores [tg] e X.env = pure none := by rfl) (h1 : (assignEach [tg] X.env).map (·.2) = [assign tg X.env] := by rfl) : BS X Γ (.Assign [tg] e pos :: rest) (mp.bind fun x => (mt x).bind k) gN gL gR vR :=
  (pss_cons (ps_asg he hg hs hw h1) (PSs.ex hr)).weak fun D σ H ⟨F, O, c, at_, e, q⟩ => by
    obtain ⟨x, e1, e⟩ := bind_some' e
    obtain ⟨a, e2, e⟩ := bind_some' e
    exact ⟨F, O, x, at_, e1, fun v F1 H1 g1 r1 => ⟨F1, O, x, a, at_.grow g1, r1, e2, fun σ' a' => ⟨a, le_rest g1.f a' e q⟩⟩⟩
theorem bs_asgE {A : Type} {mt : D → Option A} {gt : T → A → List Ent} {k : D × T → A → Option (Ctl Nt L' R')} (he : EXe X S t e me) (hg : ∀ t, GX X (S t) tg mt (gt t)) (hr : ∀ r a, BS X (gt r.2 a) rest (k r a) gN gL gR vR)
    (hs : swapsWithSole [tg] e pos.line X.env = pure false := by rfl) (hw : swappedStores [tg] e X.env = pure none := by rfl) (h1 : (assignEach [tg] X.env).map (·.2) = [assign tg X.env] := by rfl) : BS X (S t) (.Assign [tg] e pos :: rest) (me.bind fun r => (mt r.1).bind fun a => k r a) gN gL gR vR := by
  have hG : PG X tg (fun v σ H Q => ∃ t, tGX X.K (S t) mt (gt t) v σ H Q) := PG.ex hg
  have hR : PSs X rest (fun Dd σ H => ∃ q : (D × T) × A, tBS X.K (gt q.1.2 q.2) (k q.1 q.2) gN gL gR vR Dd σ H) := PSs.ex fun q => hr q.1 q.2
  exact (pss_cons (ps_asg he hG hs hw h1) hR).weak fun D σ H ⟨F, O, c, at_, e, q⟩ => by
    obtain ⟨r, e1, e⟩ := bind_some' e
    obtain ⟨a, e2, e⟩ := bind_some' e
    exact ⟨F, O, r, at_, e1, fun v F1 H1 f1 a1 r1 => ⟨r.2, F1, O, r.1, a, a1, r1, e2, fun σ' a' => ⟨(r, a), le_rest f1 a' e q⟩⟩⟩
theorem ss_ifE {mc : Option (Bool × T)} {aa bb : List Stmt} {m1 m2 : T → Option (Ctl Nt L' R')} (hc : TXe X S t c mc) (ha : ∀ t, BS X (S t) aa (m1 t) gN gL gR vR) (hb : ∀ t, BS X (S t) bb (m2 t) gN gL gR vR) : SS X (S t) (.If c aa bb pos) (mc.bind fun r => if r.1 = true then m1 r.2 else m2 r.2) gN gL gR vR :=
  (ps_if hc (PSs.ex ha) (PSs.ex hb)).weak fun D σ H ⟨F, O, c, at_, e, q⟩ => by
    obtain ⟨⟨k, tk⟩, e1, e⟩ := bind_some' e
    refine ⟨F, O, (k, tk), at_, e1, fun F1 H1 f1 a1 => ?_⟩
    cases k with
    | true => exact ⟨tk, le_rest f1 a1 e q⟩
    | false => exact ⟨tk, le_rest f1 a1 e q⟩
theorem bs_ifxE {Nt' : Type} {gN' : Nt' → List Ent} {mc : Option (Bool × T)} {aa : List Stmt} {m1 : T → Option (Ctl Nt' L' R')} {m2 : T → Option (Ctl Nt L' R')} (hc : TXe X S t c mc) (ha : ∀ t, BS X (S t) aa (m1 t) gN' gL gR vR) (hr : ∀ t, BS X (S t) rest (m2 t) gN gL gR vR) :
    BS X (S t) (.If c aa [] pos :: rest) (mc.bind fun r => if r.1 = true then Ctl.ex (m1 r.2) else m2 r.2) gN gL gR vR :=
  (pss_cons (ps_if hc (PSs.ex ha) (PSs.weak pss_nil (t' := fun D σ H => ∃ t : T, tNext D σ H) fun D σ H ⟨_, q⟩ => q)) (PSs.ex hr)).weak fun D σ H ⟨F, O, c, at_, e, q⟩ => by
    obtain ⟨⟨k, tk⟩, e1, e⟩ := bind_some' e
    refine ⟨F, O, (k, tk), at_, e1, fun F1 H1 f1 a1 => ?_⟩
    cases k with
    | true =>
      simp only [if_true] at e ⊢
      refine ⟨tk, ?_⟩
      cases hm : m1 tk with
      | none => rw [hm] at e; cases e
      | some d =>
        rw [hm] at e
        cases d with
        | nx n => cases e
        | bk l => cases e; exact le_rest (m := some _) f1 a1 rfl q
        | ct l => cases e; exact le_rest (m := some _) f1 a1 rfl q
        | rt l => cases e; exact le_rest (m := some _) f1 a1 rfl q
    | false => exact ⟨tk, tk, le_rest f1 a1 e q⟩
/-- n.append(e), e turning what is owned -/
theorem bs_appE (L : LX X E kk N W G Sl sc) (i j : Nat) {n : Str} {ov : Option V} {k : D × T → D → Option (Ctl Nt L' R')} (hN : N[i]? = some n) (hW : W[j]? = some n) (get : T → D) (hΓ : ∀ t, (S t)[i]? = some (.ow .l ov (get t))) (he : EXe X S t e me) (hr : ∀ r z, BS X ((S r.2).set i (.ow .l ov z)) rest (k r z) gN gL gR vR)
    (hs0 : swapsWith (.Call (.Attribute (.Name n p1) "append" p2) [e] [] p) none pos.line X.env = pure false := by rfl)
    (hbase : attributeBase (.Name n p1) "append" X.env (eval (.Name n p1) X.env) = eval (.Name n p1) X.env := by rfl)
    (hfew : ((backTo p (starEach [e] X.env)).all (fun x => !x.1) && (backToKw p (keywordEach [] X.env)).all (fun x => x.1.isSome) && decide ([e].length + ([] : List Keyword).length + (if ([] : List Keyword).isEmpty then 0 else 1) < 30)) = true := by rfl)
    (hline : (p2.endLine == p.line) = true := by rfl) (hs : starEach [e] X.env = (false, eval e X.env) :: starEach [] X.env := by rfl) (hplain : (backTo p (starEach [] X.env)).any (·.1) = false := by rfl) :
    BS X (S t) (.Expr (.Call (.Attribute (.Name n p1) "append" p2) [e] [] p) pos :: rest) (me.bind fun r => (pApp (get r.2) r.1).bind fun z => k r z) gN gL gR vR := by
  have hR : PSs X rest (fun Dd σ H => ∃ q : (D × T) × D, tBS X.K ((S q.1.2).set i (.ow .l ov q.2)) (k q.1 q.2) gN gL gR vR Dd σ H) := PSs.ex fun q => hr q.1 q.2
  exact (pss_cons (ps_expr (pe_bm PySem.F.plainAttrs_list PySem.F.slot_list_append PySem.F.type_list_append mt_append (own_var L i j hN hW) (pa_cons he pa_nil hs) hbase hfew hline hs hplain) hs0) hR).weak fun Dd σ H ⟨F, O, c, at_, e, q⟩ => by
    obtain ⟨r, e1, e⟩ := bind_some' e
    obtain ⟨z, e2, e⟩ := bind_some' e
    obtain ⟨p, vs, xs, h1, h2, h3, h4, h5, h6, h7, h8, h9, h10⟩ := at_.own (hΓ t)
    refine ⟨_, h1, .inl ⟨rfl, _, .of h4⟩, F, O, r, at_, e1, fun v F1 H1 f1 a1 r1 => ?_⟩
    obtain ⟨p', vs', xs', k1, k2, k3, k4, k5, k6, k7, k8, k9, k10⟩ := a1.own (hΓ r.2)
    rw [h1] at k1
    cases k1
    rw [k3] at e2
    simp only [pApp] at e2
    split at e2
    · rename_i hz
      cases e2
      rw [← k6.length] at hz
      exact ⟨p, vs', v, rfl, rfl, k4, hz, (r, _), le_rest f1 (k9 _ _ (k6.snoc r1) (by simp; omega)) e q⟩
    · cases e2
/-- for over an iterable that turns what is owned -/
theorem ss_forE (L : LX X E kk N W G Sl sc) {S' A : Type} {gS : S' → List Ent} {mt : D → Option A} {gt : S' → A → List Ent} {mb : A → S' → Option (Ctl S' S' R')} {s0 : T → S'} (w : ∀ t, Weak (S t) (gS (s0 t))) (hi : XIe X S t tg e mi) (hg : ∀ s, GX X (gS s) tg mt (gt s)) (hb : ∀ s a, BS X (gt s a) body (mb a s) gS gS gR vR)
    (hs : ∀ x, foldedSetIterable e X.env x = pure x := by intro _; rfl) : SS X (S t) (.For tg e body [] pos) (mi.bind fun r => forC (fun x s => (mt x).bind fun a => mb a s) r.1 (s0 r.2)) gS gL gR vR := by
  have hG : PG X tg (fun v σ H Q => ∃ s, tGX X.K (gS s) mt (gt s) v σ H Q) := PG.ex hg
  have hB : PSs X body (fun D σ H => ∃ sa : S' × A, tBS X.K (gt sa.1 sa.2) (mb sa.2 sa.1) gS gS gR vR D σ H) := PSs.ex fun sa => hb sa.1 sa.2
  refine (ps_for L.po L.calm hi hG hB hs).weak fun Dd σ H ⟨F, O, c, at_, e, q⟩ => ?_
  obtain ⟨⟨xs, t0⟩, e1, e⟩ := bind_some' e
  refine ⟨F, O, (xs, t0), at_, e1, fun F1 H1 J f1 a1 it => ?_⟩
  refine ⟨fun i mm σ' H' => mm = xs.length - i ∧ i ≤ xs.length ∧ ∃ F' s, Le F1 F' ∧ At X.K F' O σ' H' (gS s) ∧ forC (L := L') (fun x s => (mt x).bind fun a => mb a s) (xs.drop i) s = some c, ⟨xs.length, by simp, Nat.zero_le _, F1, s0 t0, Le.refl _, a1.weak (w t0), by simpa using e⟩, ?_⟩
  rintro i mm σ' H' ⟨rfl, hi2, F', s, lf, at', ec⟩
  by_cases hlt : i < xs.length
  · refine .inr ⟨it.go i F' H' lf at'.sub hlt, fun σ2 H2 => ∃ F2 s2, Le F1 F2 ∧ At X.K F2 O σ2 H2 (gS s2) ∧ forC (L := L') (fun x s => (mt x).bind fun a => mb a s) (xs.drop (i + 1)) s2 = some c, fun σ2 H2 ⟨F2, s2, a1, a2, a3⟩ => ⟨xs.length - (i + 1), by omega, rfl, hlt, F2, s2, a1, a2, a3⟩, fun v H2 hy => ?_⟩
    have hx : xs[i]? = some xs[i] := List.getElem?_eq_getElem hlt
    obtain ⟨F2, g2, r2⟩ := it.yld i F' H' v H2 lf at'.sub hy _ hx
    rw [List.drop_eq_getElem_cons hlt] at ec
    unfold forC at ec
    cases hm : mt xs[i] with
    | none => rw [hm] at ec; cases ec
    | some a =>
      rw [hm] at ec
      simp only [Option.bind_some] at ec
      refine ⟨s, F2, O, xs[i], a, at'.grow g2, r2, hm, fun σ3 at3 => ⟨(s, a), F2, O, ?_⟩⟩
      cases hbm : mb a s with
      | none => rw [hbm] at ec; cases ec
      | some d =>
        rw [hbm] at ec
        refine ⟨d, at3, rfl, ?_⟩
        cases d with
        | nx t => exact fun σ4 F4 H4 f4 a4 => ⟨F4, t, lf.trans (g2.f.trans f4), a4, ec⟩
        | ct t => exact fun σ4 F4 H4 f4 a4 => ⟨F4, t, lf.trans (g2.f.trans f4), a4, ec⟩
        | bk t => cases ec; exact fun σ4 F4 H4 f4 a4 => q σ4 F4 H4 (f1.trans (lf.trans (g2.f.trans f4))) a4
        | rt r => cases ec; exact fun v5 σ4 F4 H4 f4 a4 => q v5 σ4 F4 H4 (f1.trans (lf.trans (g2.f.trans f4))) a4
  · have ei : i = xs.length := by omega
    subst ei
    refine .inl ⟨it.stop F' H' lf at'.sub, ?_⟩
    rw [List.drop_length] at ec
    cases ec
    exact q σ' F' H' (f1.trans lf) at'
theorem ss_for1E (L : LX X E kk N W G Sl sc) (i j : Nat) {n : Str} {p' : Pos} {S' : Type} {gS : S' → List Ent} {mb : D → S' → Option (Ctl S' S' R')} {s0 : T → S'} (hN : N[i]? = some n) (hT : Sl[j]? = some n) (w : ∀ t, Weak (S t) (gS (s0 t))) (hi : XIe X S t (.Name n p') e mi) (hb : ∀ s x, BS X ((gS s).set i (.fz x)) body (mb x s) gS gS gR vR)
    (hs : ∀ x, foldedSetIterable e X.env x = pure x := by intro _; rfl) : SS X (S t) (.For (.Name n p') e body [] pos) (mi.bind fun r => forC mb r.1 (s0 r.2)) gS gL gR vR :=
  ss_forE (mt := some) (gt := fun s x => (gS s).set i (.fz x)) (mb := mb) L w hi (fun s => gx_name L i j hN hT) hb hs
end
end Z
namespace Z
open PySem PySem.Spec L2
section
variable {X : Cx} {E : ME} {kk k : Nat} {N W G Sl : List Str} {sc scope : Scope} {Γ : List Ent} {a b c e tg elt : Expr} {es : List Expr} {x y : D} {pos p p1 p2 : Pos} {rest ss body : List Stmt} {ma mb me : Option D} {q r : Bool}
variable {Nt Nt' L' R' : Type} {gN : Nt → List Ent} {gN' : Nt' → List Ent} {gL : L' → List Ent} {gR : R' → List Ent} {vR : R' → D}
theorem ex_negc {i : Int} {j pos'} : EX X Γ (.UnaryOp .USub (.Constant (.int i) j pos') pos) (some (.int (-i))) := ex_neg_a ex_int
theorem tx_bool (ha : EX X Γ a (some (.bool q))) (he : ∀ whole, isTrue a X.env whole = (do let v ← whole; standAt a.pos; holding [v] (truthy v))) : TX X Γ a (some q) := tx_val ha he
theorem tx_not_a (ha : TX X Γ a (some q)) : TX X Γ (.UnaryOp .Not a pos) (some (!q)) := tx_not ha
theorem ex_not_b (ha : EX X Γ a (some (.bool q))) : EX X Γ (.UnaryOp .Not a pos) (some (.bool (!q))) := ex_not ha
theorem wx_and_a {tb : Option Bool} {rest : List Expr} (ha : TX X Γ a (some q)) (hb : WX X Γ (.BoolOp .And (b :: rest) pos) tb) : WX X Γ (.BoolOp .And (a :: b :: rest) pos) (if q = true then tb else some false) := wx_and ha hb
theorem wx_or_a {tb : Option Bool} {rest : List Expr} (ha : TX X Γ a (some q)) (hb : WX X Γ (.BoolOp .Or (b :: rest) pos) tb) : WX X Γ (.BoolOp .Or (a :: b :: rest) pos) (if q = true then some true else tb) := wx_or ha hb
theorem ex_if_a (hc : TX X Γ c (some q)) (ha : EX X Γ a ma) (hb : EX X Γ b mb) : EX X Γ (.IfExp c a b pos) (if q = true then ma else mb) := ex_if hc ha hb
theorem ss_if_a {a b : List Stmt} {m1 m2 : Option (Ctl Nt L' R')} (hc : TX X Γ c (some q)) (ha : BS X Γ a m1 gN gL gR vR) (hb : BS X Γ b m2 gN gL gR vR) : SS X Γ (.If c a b pos) (if q = true then m1 else m2) gN gL gR vR := ss_if hc ha hb
theorem bs_ifx_a {a : List Stmt} {m1 : Option (Ctl Nt' L' R')} {m2 : Option (Ctl Nt L' R')} (hc : TX X Γ c (some q)) (ha : BS X Γ a m1 gN' gL gR vR) (hr : BS X Γ rest m2 gN gL gR vR) :
    BS X Γ (.If c a [] pos :: rest) (if q = true then Ctl.ex m1 else m2) gN gL gR vR := bs_ifx hc ha hr
/-- a value that is a truth value, by its data -/
theorem ex_and_a {rest : List Expr} (ha : EX X Γ a (some (.bool q))) (hb : EX X Γ (.BoolOp .And (b :: rest) pos) mb) : EX X Γ (.BoolOp .And (a :: b :: rest) pos) (if q = true then mb else some (.bool q)) := ex_and ha hb
theorem ex_or_a {rest : List Expr} (ha : EX X Γ a (some (.bool q))) (hb : EX X Γ (.BoolOp .Or (b :: rest) pos) mb) : EX X Γ (.BoolOp .Or (a :: b :: rest) pos) (if q = true then some (.bool q) else mb) := ex_or ha hb
/-- scalars, for what is read off an owned list -/
theorem scal_len : ∀ y, pLen x = some y → scal y = true := by
  intro y h
  cases x <;> simp only [pLen, reduceCtorEq, Option.some.injEq] at h
  · split at h
    · cases h; rfl
    · cases h
  · subst h; rfl
  · subst h; rfl
end

/-- a def of the module, where it stands -/
def DefAt (E : ME) (n qual : Str) (st : Stmt) (ps : List Str) : Prop := ∃ f fd, Fun E.K n qual st f fd ∧ E.mg n = some (.ref f) ∧ Binds E.K fd ps []
theorem DefAt.fn {E : ME} {k : Nat} {n qual : Str} {st : Stmt} {N W G Sl ps : List Str} {C : Con} (h : DefAt E n qual st ps) (S : FnScope N ps (defScope st)) (hst : stOk N W G (defScope st) = true)
    (hsl : locC (defScope st) Sl = true) (hlen : ∀ Γ0 r Γ1, C Γ0 r Γ1 → Γ0.length = ps.length)
    (body : ∀ X, LX X E k N W G Sl (defScope st) → ∀ Γ0 r Γ1, C Γ0 r Γ1 → BodyOk X Γ0 (Γ0 ++ List.replicate (N.length - ps.length) .no) (defBody st) r Γ1) : FnM E (k + 1) n C :=
  let ⟨_, _, F, hm, hb⟩ := h; fn_mk F hb hm S hst hsl hlen body
theorem DefAt.zero {E : ME} {n qual : Str} {st : Stmt} {ps : List Str} {C : Con} (h : DefAt E n qual st ps) (hno : ∀ Γ0 r Γ1, ¬ C Γ0 r Γ1) : FnM E 0 n C :=
  let ⟨_, _, F, hm, hb⟩ := h; fn_zero hm F.kp hb hno
theorem cp_none {m : List D → Option D} (h : ∀ xs, m xs = none) : ∀ Γ0 r Γ1, ¬ CP m Γ0 r Γ1 := fun Γ0 r Γ1 ⟨xs, _, h2, _⟩ => by rw [h] at h2; cases h2
theorem co_none {s : Sh} {m : D → List D → Option (D × D)} (h : ∀ x xs, m x xs = none) : ∀ Γ0 r Γ1, ¬ CO1 s m Γ0 r Γ1 := fun Γ0 r Γ1 ⟨v, x, xs, y, _, h2, _⟩ => by rw [h] at h2; cases h2
end Z
namespace Z
open PySem PySem.Spec L2
/-! ## the law's own tape -/
def spTape (K : PySem.W.Frag) : Sp := fun vs H Q _ => ∃ (a : Addr) (ns : List Int) (b : Int), vs = [.ref a, .int b] ∧ SqL K H a (ns.map V.int) ∧ ∀ l p, H l = none → upd H l (.lst (ns.map V.int)) p = none → Q (.ref p) (upd (upd H l (.lst (ns.map V.int))) p (.lst [.ref l, .int 0, .int 0, .int 1, .int b]))
def FnT (E : ME) (k : Nat) (n : Str) : Prop := ∃ f fd ps, FnOk E.prog E.w E.K E.mg E.base CX0 k f fd ps (spTape E.K) ∧ E.mg n = some (.ref f) ∧ PySem.W.keepIn E.K (.ref f) = true ∧ Binds E.K fd ps []
/-- the tape at the start -/
def tape0 (ns : List Int) (b : Int) : D := .list [.list (ns.map .int), .int 0, .int 0, .int 1, .int b]
theorem reps_ints {K : PySem.W.Frag} {F : Hp} : ∀ ns : List Int, Reps K F (ns.map V.int) (ns.map .int)
  | [] => .nil
  | i :: r => .cons (.int i) (reps_ints r)
section
variable {X : Cx} {E : ME} {kk k : Nat} {N W G Sl : List Str} {sc : Scope} {Γ : List Ent} {rest : List Stmt} {pos : Pos}
variable {Nt L' R' : Type} {gN : Nt → List Ent} {gL : L' → List Ent} {gR : R' → List Ent} {vR : R' → D}
theorem bs_tape (L : LX X E kk N W G Sl sc) (i j g iv jv : Nat) {n nv nf : Str} {ns : List Int} {b : Int} {jj} {m : Option (Ctl Nt L' R')} {p' p p1 p2 p3 : Pos} (hN : N[i]? = some n) (hT : Sl[j]? = some n) (hG : G[g]? = some nf) (hNv : N[iv]? = some nv) (hW : W[jv]? = some nv) (hΓ : Γ[iv]? = some (.sc ns)) (hl : ns.length ≤ 63) (h : FnT E k nf) (hk : k ≤ kk)
    (hr : BS X (Γ.set i (.ow .l none (tape0 ns b))) rest m gN gL gR vR)
    (he : starEach [.Name nv p1, .Constant (.int b) jj p2] X.env = (false, eval (.Name nv p1) X.env) :: starEach [.Constant (.int b) jj p2] X.env := by rfl) (he2 : starEach [.Constant (.int b) jj p2] X.env = (false, eval (.Constant (.int b) jj p2) X.env) :: starEach [] X.env := by rfl) (hpl : (backTo p3 (starEach [.Constant (.int b) jj p2] X.env)).any (·.1) = false := by rfl)
    (hs : swapsWith (.Call (.Name nf p) [.Name nv p1, .Constant (.int b) jj p2] [] p3) (some (.Name n p')) pos.line X.env = pure false := by rfl) :
    BS X Γ (.Assign [.Name n p'] (.Call (.Name nf p) [.Name nv p1, .Constant (.int b) jj p2] [] p3) pos :: rest) m gN gL gR vR := by
  obtain ⟨h1, h2, h3⟩ := L.slot hN hT
  obtain ⟨h4, h5⟩ := L.gl (List.mem_of_getElem? hG)
  obtain ⟨d1, d2, d3⟩ := dund1 h5
  have hv := own_var (pos := p1) L iv jv hNv hW
  obtain ⟨E1, E2, E3, E4, E5⟩ := E
  obtain ⟨f, fd, ps, ok, hm, hki, hb⟩ := h
  have q1 := L.mx.prog; have q2 := L.mx.w; have q3 := L.mx.K; have q4 := L.mx.mg; have q5 := L.mx.base
  simp only at q1 q2 q3 q4 q5 ok hm hki hb
  subst q1 q2 q3 q4 q5
  refine (pss_cons (ps_set L.nd h1 h2 (pe_call ok (L.rm.mono hk) h4 hm hki hb .nil pass0 (pa_cons hv (pa_cons pe_int pa_nil he2) he) d1 he hpl) hs h3) hr).weak fun Dd σ H ⟨F, O, c, at_, e, q⟩ => ?_
  obtain ⟨fp, d, qe⟩ := at_.ents
  obtain ⟨a, ha, hS⟩ := qe iv _ hΓ
  have hz : (ns.map V.int).length ≤ sizeLine := by rw [List.length_map]; exact Nat.le_of_lt (small1000 (by omega))
  refine ⟨_, ha, a, ns, b, rfl, le_l at_.sub hS, fun l p hl hp => ?_⟩
  obtain ⟨g1, r1⟩ := grow_lst at_.sub hl hz (reps_ints ns)
  exact le_rest g1.f ((at_.grow g1).newOwn hp (.cons r1 (.cons (.int 0) (.cons (.int 0) (.cons (.int 1) (.cons (.int b) .nil))))) (by show 5 ≤ sizeLine; decide)) e q
end
/-- what a law promises by its mirror -/
def CLw (m : List Int → Option D) : Con := fun Γ0 r Γ1 => ∃ ns : List Int, Γ0 = [.sc ns] ∧ ns.length ≤ 63 ∧ m ns = some r ∧ Γ1 = [.no]
/-- the law's def, as the end asks it -/
def spLaw (K : PySem.W.Frag) : Sp := fun vs H Q _ => ∃ (a : Addr) (ns : List Int), vs = [.ref a] ∧ SqL K H a (ns.map V.int) ∧ ns.length ≤ 63 ∧ (∀ z ∈ ns, Builtin.Int.intBits z ≤ 1048576) ∧ Only H ∧ ∀ H', Q (.bl true) H'
theorem law_end {E : ME} {k : Nat} {f : Addr} {fd : FuncData} {ps : List Str} {m : List Int → Option D} (ok : FnOk E.prog E.w E.K E.mg E.base CX0 k f fd ps (spC E.K (CLw m))) (hm : ∀ ns : List Int, ns.length ≤ 63 → (∀ z ∈ ns, Builtin.Int.intBits z ≤ 1048576) → m ns = some (.bool true)) :
    FnOk E.prog E.w E.K E.mg E.base CX0 k f fd ps (spLaw E.K) := by
  refine ok.imp fun vs H Q _ ⟨a, ns, e1, hS, hl, hbits, ho, q⟩ => ?_
  subst e1
  refine ⟨H, fun _ => none, [.sc ns], .bool true, [.no], ⟨fun _ _ h => h, fun _ _ h => (nomatch h), fun _ _ => rfl, rfl, fun _ => [], ⟨fun _ => List.nodup_nil, fun _ _ h => (nomatch h), fun _ _ _ h => (nomatch h)⟩, fun i e h => ?_⟩, ⟨ns, rfl, hl, hm ns hl hbits, rfl⟩, fun v F' H' _ _ r => by cases r; exact q H'⟩
  match i, h with
  | 0, h => cases h; exact ⟨a, rfl, hS⟩
  | i + 1, h => simp at h
end Z
namespace Z
open PySem PySem.Spec L2
theorem def_at {E : ME} {h : Heap} (X : E.K.In h) (G : h.Ns mainGlobals E.mg) {n qual : Str} {st : Stmt} {f : Addr} {oc kV dc pm cd ct : Value} {od an : Option Addr} {sl : Array (Option Value)} {ps : List Str}
    (hb : ∀ (kV doc pm : Value) (an : Option Addr) (cdv ct : Value) (us : List Value), us.length = ps.length → bindArgs (PySem.W.fnOf n qual (defArgs st) (defBody st) (defScope st) .none kV doc pm an cdv ct) ⟨us, []⟩ = pure (ps.zip us))
    (a : PySem.W.nsIn E.K mainGlobals n = some (some (.ref f))) (l : E.K.lookup f = some ⟨oc, od, .func (PySem.W.fnOf n qual (defArgs st) (defBody st) (defScope st) .none kV dc pm an cd ct), sl⟩) (c : PySem.W.codeIn E.K cd qual = true) (k : PySem.W.keepIn E.K (.ref f) = true) : DefAt E n qual st ps :=
  let F := fun_mk l c k
  ⟨f, _, F, PySem.W.mg_of X G a, F.binds hb⟩
theorem free_at {E : ME} {h : Heap} (X : E.K.In h) (G : h.Ns mainGlobals E.mg) {n : Str} (z : PySem.W.nsIn E.K mainGlobals n = some none) : Free E n := PySem.W.mg_none_of X G z
theorem gc_int {E : ME} {h : Heap} (X : E.K.In h) (G : h.Ns mainGlobals E.mg) {n : Str} {i : Int} {t} (z : PySem.W.nsIn E.K mainGlobals n = some (some (.int i t))) : GConst E n (.int i) := ⟨.int i, .int i t, PySem.W.mg_of X G z, ⟨_, rfl⟩, fun _ => .int i⟩
theorem gc_str {E : ME} {h : Heap} (X : E.K.In h) (G : h.Ns mainGlobals E.mg) {n s : Str} {t} (z : PySem.W.nsIn E.K mainGlobals n = some (some (.str s t))) : GConst E n (.str s) := ⟨.str s, .str s t, PySem.W.mg_of X G z, ⟨_, rfl⟩, fun _ => .str s⟩
end Z
namespace Z
open PySem PySem.Spec L2
/-! ## the mirrors' primitives at typed data -/
theorem dEqv_int (i j : Int) : PyData.eqv (.int i) (.int j) = decide (i = j) := by simp only [PyData.eqv]; by_cases h : i = j <;> simp [h]
theorem dEqv_bool (i j : Bool) : PyData.eqv (.bool i) (.bool j) = decide (i = j) := by cases i <;> cases j <;> simp [PyData.eqv]
theorem dEqv_str (i j : Str) : PyData.eqv (.str i) (.str j) = decide (i = j) := by simp only [PyData.eqv]; by_cases h : i = j <;> simp [h]
theorem dOk_of {x y : D} (h : x.depth ≤ 100) : dOk x y = true := decide_eq_true (by omega)
theorem dOk_of' {x y : D} (h : y.depth ≤ 100) : dOk x y = true := decide_eq_true (by omega)
theorem dep_int (i : Int) : (PyData.int i).depth ≤ 100 := by simp [PyData.depth]
theorem dep_bool (i : Bool) : (PyData.bool i).depth ≤ 100 := by simp [PyData.depth]
theorem dep_str (i : Str) : (PyData.str i).depth ≤ 100 := by simp [PyData.depth]
@[simp] theorem pEq_int (i j : Int) : pEq (.int i) (.int j) = some (.bool (decide (i = j))) := by rw [pEq, if_pos (dOk_of (dep_int i)), dEqv_int]
@[simp] theorem pEq_bool (i j : Bool) : pEq (.bool i) (.bool j) = some (.bool (decide (i = j))) := by rw [pEq, if_pos (dOk_of (dep_bool i)), dEqv_bool]
@[simp] theorem pEq_str (i j : Str) : pEq (.str i) (.str j) = some (.bool (decide (i = j))) := by rw [pEq, if_pos (dOk_of (dep_str i)), dEqv_str]
@[simp] theorem pNe_int (i j : Int) : pNe (.int i) (.int j) = some (.bool (!decide (i = j))) := by rw [pNe, if_pos (dOk_of (dep_int i)), dEqv_int]
@[simp] theorem pNe_bool (i j : Bool) : pNe (.bool i) (.bool j) = some (.bool (!decide (i = j))) := by rw [pNe, if_pos (dOk_of (dep_bool i)), dEqv_bool]
@[simp] theorem pNe_str (i j : Str) : pNe (.str i) (.str j) = some (.bool (!decide (i = j))) := by rw [pNe, if_pos (dOk_of (dep_str i)), dEqv_str]
theorem dLt_int (i j : Int) : PySem.W.dataLt (.int i) (.int j) = decide (i < j) := by
  unfold PySem.W.dataLt
  simp only [PySem.W.keyToks]
  by_cases h : i < j
  · simp [PyProof.Rows.lexLt, PyProof.Rows.itemLt, PyProof.Rows.itemOrd, h]
  · simp [PyProof.Rows.lexLt, PyProof.Rows.itemLt, PyProof.Rows.itemOrd, h]
theorem ltOk_int (i j : Int) : ltOk (.int i) (.int j) = true := by simp [ltOk, PySem.W.alike, notNone, dOk_of (dep_int i)]
@[simp] theorem pLt_int (i j : Int) : pLt (.int i) (.int j) = some (.bool (decide (i < j))) := by rw [pLt, if_pos (ltOk_int i j), dLt_int]
@[simp] theorem pGt_int (i j : Int) : pGt (.int i) (.int j) = some (.bool (decide (j < i))) := by rw [pGt, if_pos (ltOk_int i j), dLt_int]
@[simp] theorem pLe_int (i j : Int) : pLe (.int i) (.int j) = some (.bool (!decide (j < i))) := by rw [pLe, if_pos (ltOk_int i j), dLt_int]
@[simp] theorem pGe_int (i j : Int) : pGe (.int i) (.int j) = some (.bool (!decide (i < j))) := by rw [pGe, if_pos (ltOk_int i j), dLt_int]
@[simp] theorem dBool_bool (b : Bool) : dBool (.bool b) = some b := rfl
@[simp] theorem pTru_bool (b : Bool) : pTru (.bool b) = some b := rfl
@[simp] theorem pAdd_int (i j : Int) : pAdd (.int i) (.int j) = some (.int (i + j)) := rfl
@[simp] theorem pSub_int (i j : Int) : pSub (.int i) (.int j) = some (.int (i - j)) := rfl
@[simp] theorem pInt_int (i : Int) : pInt (.int i) = some (.int i) := rfl
@[simp] theorem pIsNot_b (x c : Bool) : pIsNot (.bool x) (.bool c) = some (.bool (!(c == x))) := rfl
@[simp] theorem pIs_b (x c : Bool) : pIs (.bool x) (.bool c) = some (.bool (c == x)) := rfl
@[simp] theorem pNot_b (x : Bool) : pNot (.bool x) = some (.bool (!x)) := rfl
@[simp] theorem pLen_t (xs : List D) : pLen (.tuple xs) = some (.int xs.length) := rfl
@[simp] theorem pLen_l (xs : List D) : pLen (.list xs) = some (.int xs.length) := rfl
theorem atI_nn {A : Type} {xs : List A} {i : Int} {x : A} (h0 : 0 ≤ i) (h : xs[i.toNat]? = some x) : atI xs i = some x := by
  have := (List.getElem?_eq_some_iff.mp h).1
  unfold atI ixN
  rw [if_pos h0, if_pos (by omega)]
  exact h
theorem pIdx_l {xs : List D} {i : Int} {x : D} (h0 : 0 ≤ i) (h : xs[i.toNat]? = some x) : pIdx (.list xs) (.int i) = some x := atI_nn h0 h
theorem pIdx_t {xs : List D} {i : Int} {x : D} (h0 : 0 ≤ i) (h : xs[i.toNat]? = some x) : pIdx (.tuple xs) (.int i) = some x := atI_nn h0 h
theorem pMul_ok {i j : Int} {a b : Nat} (ha : i.natAbs < 2 ^ a) (hb : j.natAbs < 2 ^ b) (h : a + b ≤ 134217728) : pMul (.int i) (.int j) = some (.int (i * j)) := by rw [pMul, if_pos (mulx_ok ha hb h)]
theorem pFdiv_ok {i j : Int} (h : 0 < j) (hb : j.natAbs.log2 < 9000) : pFdiv (.int i) (.int j) = some (.int (i / j)) := by rw [pFdiv, if_pos ⟨h, hb⟩]
theorem pMod_ok {i j : Int} (h : 0 < j) : pMod (.int i) (.int j) = some (.int (i % j)) := by rw [pMod, if_pos h]
theorem bits_lt {z : Int} {b : Nat} (h : Builtin.Int.intBits z ≤ b) : z.natAbs < 2 ^ b := by
  unfold Builtin.Int.intBits at h
  split at h
  · rename_i hz
    have : z.natAbs = 0 := by simpa using hz
    rw [this]; exact Nat.two_pow_pos b
  · exact Nat.lt_of_lt_of_le (Nat.lt_log2_self) (Nat.pow_le_pow_right (by decide) h)
end Z
namespace Z
open PySem PySem.Spec L2
/-! ## slices at places that are there -/
theorem pSl_take {xs : List D} {k : Nat} (h : k ≤ xs.length) : pSl (.list xs) none (some (k : Int)) = some (.list (xs.take k)) := by
  simp only [pSl, cutD, HT.sIx_none, HT.sIx_nat, Nat.sub_zero, List.drop_zero, Nat.min_eq_left h]
theorem pSl_drop {xs : List D} {k : Nat} (h : k ≤ xs.length) : pSl (.list xs) (some (k : Int)) none = some (.list (xs.drop k)) := by
  simp only [pSl, cutD, HT.sIx_none, HT.sIx_nat, Nat.min_eq_left h]
  rw [List.take_of_length_le (by simp)]
/-! ## diagrams -/
inductive Dg where
  | leaf (b : Bool)
  | node (i : Nat) (l h : Dg)
  deriving DecidableEq
namespace Dg
def d : Dg → D
  | leaf b => .bool b
  | node i l h => .tuple [.int i, l.d, h.d]
def ht : Dg → Nat
  | leaf _ => 0
  | node _ l h => max l.ht h.ht + 1
theorem eqv : ∀ x y : Dg, PyData.eqv x.d y.d = decide (x = y)
  | leaf a, leaf b => by
    rw [d, d, dEqv_bool]
    by_cases h : a = b
    · subst h; simp
    · rw [decide_eq_false h, decide_eq_false (by simpa using h)]
  | leaf a, node i l h => by simp [d, PyData.eqv]
  | node i l h, leaf a => by simp [d, PyData.eqv]
  | node i l h, node j m k => by
    simp only [d, PyData.eqv, PyData.eqvAll, eqv l m, eqv h k, Bool.and_true]
    by_cases e1 : i = j
    · subst e1
      by_cases e2 : l = m
      · subst e2
        by_cases e3 : h = k
        · subst e3; simp
        · simp [e3]
      · simp [e2]
    · simp only [node.injEq, e1, false_and, decide_false, Bool.and_eq_false_iff]
      left
      simp only [beq_eq_false_iff_ne, ne_eq]
      omega
theorem depth : ∀ x : Dg, x.d.depth ≤ x.ht + 2
  | leaf a => by simp [d, PyData.depth]
  | node i l h => by
    have a := depth l
    have b := depth h
    simp only [d, PyData.depth, PyData.depthAll, ht]
    omega
theorem dok {x y : Dg} (h : x.ht ≤ 90) : dOk x.d y.d = true := dOk_of (by have := x.depth; omega)
theorem isT : ∀ x : Dg, x.d.isTuple = (match x with | leaf _ => false | node _ _ _ => true)
  | leaf _ => rfl
  | node _ _ _ => rfl
theorem isB : ∀ x : Dg, x.d.isBool = (match x with | leaf _ => true | node _ _ _ => false)
  | leaf _ => rfl
  | node _ _ _ => rfl
/-- a node, unless both sides are alike -/
def mk (i : Nat) (l h : Dg) : Dg := if l = h then l else node i l h
/-- the diagram of 2 ^ c truths, from switch i on -/
def dia : Nat → List Bool → Nat → Dg
  | 0, bs, _ => leaf (bs.headD false)
  | c + 1, bs, i => mk i (dia c (bs.take (2 ^ c)) (i + 1)) (dia c (bs.drop (2 ^ c)) (i + 1))
theorem dia_ht : ∀ c bs i, (dia c bs i).ht ≤ c
  | 0, _, _ => by simp [dia, ht]
  | c + 1, bs, i => by
    have a := dia_ht c (bs.take (2 ^ c)) (i + 1)
    have b := dia_ht c (bs.drop (2 ^ c)) (i + 1)
    unfold dia mk
    split
    · omega
    · simp only [ht]; omega
/-- of the form: switches ascend, from lo, below n; no node with both sides alike -/
def wf (lo n : Int) : Dg → Bool
  | leaf _ => true
  | node i l h => decide (lo ≤ i) && decide ((i : Int) < n) && wf (i + 1) n l && wf (i + 1) n h && !decide (l = h)
theorem wf_lo {n : Int} : ∀ {x : Dg} {lo lo' : Int}, lo' ≤ lo → wf lo n x = true → wf lo' n x = true
  | leaf _, _, _, _, _ => rfl
  | node i l h, lo, lo', hl, e => by
    simp only [wf, Bool.and_eq_true, decide_eq_true_eq] at e ⊢
    exact ⟨⟨⟨⟨by omega, e.1.1.1.2⟩, e.1.1.2⟩, e.1.2⟩, e.2⟩
theorem wf_hi {n m : Int} (hn : n ≤ m) : ∀ {x : Dg} {lo : Int}, wf lo n x = true → wf lo m x = true
  | leaf _, _, _ => rfl
  | node i l h, lo, e => by
    simp only [wf, Bool.and_eq_true, decide_eq_true_eq] at e ⊢
    exact ⟨⟨⟨⟨e.1.1.1.1, by omega⟩, wf_hi hn e.1.1.2⟩, wf_hi hn e.1.2⟩, e.2⟩
theorem dia_wf : ∀ c bs (i : Nat), wf i ((i + c : Nat) : Int) (dia c bs i) = true
  | 0, _, _ => rfl
  | c + 1, bs, i => by
    have a := dia_wf c (bs.take (2 ^ c)) (i + 1)
    have b := dia_wf c (bs.drop (2 ^ c)) (i + 1)
    have e : i + 1 + c = i + (c + 1) := by omega
    rw [e] at a b
    unfold dia mk
    split
    · exact wf_lo (by omega) a
    · rename_i hne
      simp only [wf, Bool.and_eq_true, decide_eq_true_eq]
      refine ⟨⟨⟨⟨Int.le_refl _, by omega⟩, ?_⟩, ?_⟩, by simp [hne]⟩
      · exact_mod_cast a
      · exact_mod_cast b
end Dg
end Z
namespace Z
open PySem PySem.Spec L2
/-! ## comprehensions over a tape that is kept well -/
theorem pickE {T : Type} {I : T → Prop} {f : D → T → Option (Bool × T)} (hf : ∀ x t, I t → ∃ b t', f x t = some (b, t') ∧ I t') : ∀ (xs : List D) (t : T), I t → ∃ ys t', lcIE f (fun x t => some (x, t)) xs t = some (ys, t') ∧ ys.Sublist xs ∧ I t'
  | [], t, h => ⟨[], t, rfl, List.Sublist.slnil, h⟩
  | x :: r, t, h => by
    obtain ⟨b, t1, e, h1⟩ := hf x t h
    obtain ⟨ys, t2, e2, s2, h2⟩ := pickE hf r t1 h1
    unfold lcIE
    rw [e]
    cases b with
    | true => exact ⟨x :: ys, t2, by simp [e2], s2.cons₂ x, h2⟩
    | false => exact ⟨ys, t2, by simp [e2], s2.cons x, h2⟩
theorem mapE {T A : Type} {I : T → Prop} {P : A → Prop} {g : A → D} {f : D → T → Option (D × T)} (hf : ∀ x t, I t → ∃ a t', f x t = some (g a, t') ∧ P a ∧ I t') : ∀ (xs : List D) (t : T), I t → ∃ (ys : List A) (t' : T), lcME f xs t = some (ys.map g, t') ∧ ys.length = xs.length ∧ (∀ a ∈ ys, P a) ∧ I t'
  | [], t, h => ⟨[], t, rfl, rfl, by simp, h⟩
  | x :: r, t, h => by
    obtain ⟨a, t1, e, p1, h1⟩ := hf x t h
    obtain ⟨ys, t2, e2, s2, p2, h2⟩ := mapE hf r t1 h1
    unfold lcME
    rw [e]
    exact ⟨a :: ys, t2, by simp [e2], by simp [s2], by simpa using ⟨p1, p2⟩, h2⟩
end Z
namespace Z
open PySem PySem.Spec L2
/-! ## methods of data -/
def tyW (K : PySem.W.Frag) (T : String) (x : V) (H : Hp) : Prop := tyV K T x H ∨ (T = "tuple" ∧ ∃ p xs o, x = .ref p ∧ o.dict = none ∧ H p = some (.frz o (.tup xs)))
theorem tyW_is {X : Cx} {pns : List (Addr × Obj)} {σ : L2.St} {H : Hp} {s : Shared} {T : String} {x : V} {v : Value} (I : Inv X pns σ H s) (r : RelV x v) (ty : tyW X.K T x H) : s.TypeIs v T ∧ ∀ a, v = .ref a → ∃ ob, s.heap.get? a = some ob ∧ ob.dict = none := by
  rcases ty with ty | ⟨rfl, p, xs, o, rfl, hd, hp⟩
  · exact tyV_is I r ty
  · cases r
    obtain ⟨h1, h2, tv, h3, o', h4, h5, h6⟩ := I.hok p _ hp
    exact ⟨⟨o', h4, h5⟩, fun a e => by cases e; exact ⟨o, h1, hd⟩⟩
def tMt (K : PySem.W.Frag) (T : String) (r : V → List V → Hp → VK → Prop) (to : TE) (t : TA) : TE := fun σ H Q => to σ H fun x H1 => tyW K T x H1 ∧ t σ H1 fun xs H2 => r x xs H2 Q
section
variable {X : Cx} {E : ME} {kk : Nat} {N W G Sl : List Str} {sc : Scope} {Γ : List Ent} {o a e : Expr} {es : List Expr} {to : TE} {t : TA} {name : Str} {apos cpos : Pos} {T id : String} {r : V → List V → Hp → VK → Prop} {mo m : Option D} {x : D}
theorem pe_mt (pa : PlainAttrs T) (slot : Slot T name id) (hty : typeOf (.builtin id) = pure (.type "method_descriptor")) (hm : MtR X id r) (ho : PE X o to) (ha : PA X (e :: es) t)
    (hb : attributeBase o name X.env (eval o X.env) = eval o X.env)
    (hf : ((backTo cpos (starEach (e :: es) X.env)).all (fun x => !x.1) && (backToKw cpos (keywordEach [] X.env)).all (fun x => x.1.isSome) && decide ((e :: es).length + ([] : List Keyword).length + (if ([] : List Keyword).isEmpty then 0 else 1) < 30)) = true)
    (hl : (apos.endLine == cpos.line) = true) (hst : starEach (e :: es) X.env = (false, eval e X.env) :: starEach es X.env) (hpn : (backTo cpos (starEach es X.env)).any (·.1) = false) :
    PE X (.Call (.Attribute o name apos) (e :: es) [] cpos) (tMt X.K T r to t) := by
  refine ⟨fun pns s σ H Qv I h => ?_⟩
  refine wpAny_Call_method_late hb hf hl rfl (thn (ho.run pns s σ H _ I h) fun v s1 ⟨y, H1, I1, r1, ty, q1⟩ => ?_)
  obtain ⟨t1, t2⟩ := tyW_is I1 r1 ty
  refine ⟨T, id, pa, slot, hty, t1, t2, ?_⟩
  have hArg := ha.run cpos pns s1 σ H1 _ I1 q1
  rw [hst] at hArg ⊢
  refine Calls.callWith_builtin (by show (false || (backTo cpos (starEach es X.env)).any (·.1)) = false; rw [hpn]; rfl) (Calls.evalArgs_plain ?_)
  exact thn hArg fun uv s2 ⟨vs, H2, I2, r2, q2⟩ => hm pns s2 σ H2 y vs v uv Qv I2 r1 r2 q2
/-- a method's reading serves g -/
def RSm (K : PySem.W.Frag) (r : V → List V → Hp → VK → Prop) (g : D → List D → Option D) : Prop := ∀ (F H F0 : Hp) (v : V) (vs : List V) (x : D) (xs : List D) (z : D) (Q : VK), Le F H → Rep K F v x → Reps K F vs xs → g x xs = some z →
  (∀ w F' H', Grow F H F' H' → Rep K F' w z → Q w H') → r v vs H Q
/-- what the object must be, whatever the arguments are -/
def Knd (K : PySem.W.Frag) (T : String) (P : D → Bool) : Prop := ∀ (F H : Hp) (v : V) (x : D), Le F H → Rep K F v x → P x = true → tyW K T v H
theorem ex_mt {g : D → List D → Option D} {P : D → Bool} {mr : D → Option D} (pa : PlainAttrs T) (slot : Slot T name id) (hty : typeOf (.builtin id) = pure (.type "method_descriptor")) (hm : MtR X id r) (hr : RSm X.K r g) (hP : Knd X.K T P) (ho : EX X Γ o mo) (ha : ∀ x, AX X Γ (e :: es) (g x) (mr x))
    (hb : attributeBase o name X.env (eval o X.env) = eval o X.env := by rfl)
    (hf : ((backTo cpos (starEach (e :: es) X.env)).all (fun x => !x.1) && (backToKw cpos (keywordEach [] X.env)).all (fun x => x.1.isSome) && decide ((e :: es).length + ([] : List Keyword).length + (if ([] : List Keyword).isEmpty then 0 else 1) < 30)) = true := by rfl)
    (hl : (apos.endLine == cpos.line) = true := by rfl) (hst : starEach (e :: es) X.env = (false, eval e X.env) :: starEach es X.env := by rfl) (hpn : (backTo cpos (starEach es X.env)).any (·.1) = false := by rfl) :
    EX X Γ (.Call (.Attribute o name apos) (e :: es) [] cpos) (mo.bind fun x => if P x = true then mr x else none) := by
  have hB : PA X (e :: es) (fun σ H Q => ∃ x, tAX X.K Γ (e :: es).length (g x) (mr x) σ H Q) := ⟨fun ps p s σ H Q I ⟨y, q⟩ => (ha y).run ps p s σ H Q I q⟩
  refine (pe_mt pa slot hty hm ho hB hb hf hl hst hpn).weak fun σ H Q ⟨F, O, z, at_, e, q⟩ => ?_
  obtain ⟨x, e1, e2⟩ := bind_some' e
  split at e2
  · rename_i hx
    refine ⟨F, O, x, at_, e1, fun v F1 H1 g1 r1 => ⟨hP F1 H1 v x g1.s r1 hx, x, F1, O, z, at_.grow g1, e2, fun vs xs F2 H2 g2 r2 _ ek => ?_⟩⟩
    exact hr F2 H2 F v vs x xs z Q g2.s (r1.mono g2.f) r2 ek fun w F' H' g3 r3 => q w F' H' ((g1.trans g2).trans g3) r3
  · cases e2
theorem ex_mt_a {g : D → List D → Option D} {P : D → Bool} {mr : Option D} (pa : PlainAttrs T) (slot : Slot T name id) (hty : typeOf (.builtin id) = pure (.type "method_descriptor")) (hm : MtR X id r) (hr : RSm X.K r g) (hP : Knd X.K T P) (ho : EX X Γ o (some x)) (ha : AX X Γ (e :: es) (g x) mr)
    (hb : attributeBase o name X.env (eval o X.env) = eval o X.env := by rfl)
    (hf : ((backTo cpos (starEach (e :: es) X.env)).all (fun x => !x.1) && (backToKw cpos (keywordEach [] X.env)).all (fun x => x.1.isSome) && decide ((e :: es).length + ([] : List Keyword).length + (if ([] : List Keyword).isEmpty then 0 else 1) < 30)) = true := by rfl)
    (hl : (apos.endLine == cpos.line) = true := by rfl) (hst : starEach (e :: es) X.env = (false, eval e X.env) :: starEach es X.env := by rfl) (hpn : (backTo cpos (starEach es X.env)).any (·.1) = false := by rfl) :
    EX X Γ (.Call (.Attribute o name apos) (e :: es) [] cpos) (if P x = true then mr else none) := by
  refine (pe_mt pa slot hty hm ho ha hb hf hl hst hpn).weak fun σ H Q ⟨F, O, z, at_, e, q⟩ => ?_
  split at e
  · rename_i hx
    refine ⟨F, O, x, at_, rfl, fun v F1 H1 g1 r1 => ⟨hP F1 H1 v x g1.s r1 hx, F1, O, z, at_.grow g1, e, fun vs xs F2 H2 g2 r2 _ ek => ?_⟩⟩
    exact hr F2 H2 F v vs x xs z Q g2.s (r1.mono g2.f) r2 ek fun w F' H' g3 r3 => q w F' H' ((g1.trans g2).trans g3) r3
  · cases e
end
/-! ### index of a text in a tuple of texts -/
def strsOf : List D → Option (List Str)
  | [] => some []
  | .str y :: r => (strsOf r).map (y :: ·)
  | _ :: _ => none
def idxS : List Str → Str → Option Nat
  | [], _ => none
  | y :: r, z => if y = z then some 0 else (idxS r z).map (· + 1)
theorem idxS_ok : ∀ {ys : List Str} {z : Str} {j : Nat}, idxS ys z = some j → ys[j]? = some z ∧ ∀ m, m < j → ys[m]? ≠ some z
  | [], _, _, h => by cases h
  | y :: r, z, j, h => by
    unfold idxS at h
    split at h
    · rename_i e
      cases h
      subst e
      exact ⟨rfl, fun m hm => absurd hm (Nat.not_lt_zero _)⟩
    · rename_i e
      obtain ⟨k, h1, h2⟩ := Option.map_eq_some_iff.mp h
      subst h2
      obtain ⟨h3, h4⟩ := idxS_ok h1
      refine ⟨by simpa using h3, fun m hm => ?_⟩
      match m with
      | 0 => simp [e]
      | m + 1 => simpa using h4 m (by omega)
def strT : D → Bool
  | .tuple xs => (strsOf xs).isSome
  | _ => false
def pIndexT : D → List D → Option D
  | .tuple xs, [.str z] => (strsOf xs).bind fun ys => (idxS ys z).map fun j => .int (j : Nat)
  | _, _ => none
theorem strs_reps {K : PySem.W.Frag} {F : Hp} : ∀ {vs : List V} {xs : List D} {ys : List Str}, Reps K F vs xs → strsOf xs = some ys → vs = ys.map V.str
  | _, _, _, .nil, h => by cases h; rfl
  | _, _, _, .cons r t, h => by
    cases r with
    | str y =>
      obtain ⟨zs, h1, h2⟩ := Option.map_eq_some_iff.mp (show (strsOf _).map (y :: ·) = _ from h)
      subst h2
      rw [strs_reps t h1]
      rfl
    | _ => cases h
theorem knd_strT {K : PySem.W.Frag} : Knd K "tuple" strT := fun F H v x s r h => by
  cases r with
  | @tup a vs xs ht r =>
    obtain ⟨ys, hy⟩ := Option.isSome_iff_exists.mp (show (strsOf xs).isSome = true from h)
    have e := strs_reps r hy
    rcases ht.1 with ⟨o, h1, h2⟩ | ⟨h1, h2⟩ | ⟨o, tv, n, h1, h2, h3, h4, h5, h6⟩
    · exact .inr ⟨rfl, a, vs, o, rfl, h1, s _ _ h2⟩
    · rw [e] at h2
      unfold tupMix at h2
      rw [List.any_map] at h2
      simp at h2
    · exact .inl (.inr (.inl ⟨rfl, o, h1, h2, h3⟩))
  | _ => cases h
theorem rs_indexT {K : PySem.W.Frag} : RSm K (fun x xs H Q => ∃ p, ∃ ys : List Str, ∃ z j, x = .ref p ∧ xs = [.str z] ∧ SqT K H p (ys.map V.str) ∧ ys[j]? = some z ∧ (∀ m, m < j → ys[m]? ≠ some z) ∧ Q (.int (j : Nat)) H) pIndexT := by
  intro F H F0 v vs x xs z Q s r rs e q
  cases r with
  | @tup a ws ds ht r =>
    cases rs with
    | nil => cases e
    | cons r1 r2 =>
      cases r2 with
      | cons _ _ => cases r1 <;> cases e
      | nil =>
        cases r1 with
        | str y =>
          obtain ⟨ys, e1, e2⟩ := bind_some' (show (strsOf ds).bind _ = _ from e)
          obtain ⟨j, e3, e4⟩ := Option.map_eq_some_iff.mp e2
          subst e4
          obtain ⟨h1, h2⟩ := idxS_ok e3
          have hv := strs_reps r e1
          subst hv
          exact ⟨a, ys, y, j, rfl, rfl, le_t s ht.1.sq, h1, h2, q _ F H (Grow.refl s) (.int _)⟩
        | _ => cases e
  | _ => cases rs <;> cases e
end Z
namespace Z
open PySem PySem.Spec L2
/-! ## comprehensions whose target is a tuple -/
def lcTM {A : Type} (mt : D → Option A) (mf : A → Option D) : List D → Option (List D) := lcM fun x => (mt x).bind mf
def lcTI {A : Type} (mt : D → Option A) (cc : A → Option Bool) (mf : A → Option D) : List D → Option (List D) := lcI (fun x => (mt x).bind cc) (fun x => (mt x).bind mf)
section
variable {X : Cx} {E : ME} {kk : Nat} {N W G Sl : List Str} {sc scope : Scope} {Γ : List Ent} {tg e c elt : Expr} {pos : Pos} {mi : Option (List D)} {A : Type}
theorem ex_lcT (L : LX X E kk N W G Sl sc) {Wb Gb Sb : List Str} (own : List (Str × Nat)) (ok : lcOk N Wb Gb Sb sc scope own = true) {mt : D → Option A} {gt : A → List Ent} {mf : A → Option D}
    (hi : XI X Γ tg e mi)
    (hg : ∀ X', LX X' E kk N Wb Gb Sb (relS scope sc) → GY X' (wipeE Γ (own.map (·.2))) (own.map (·.2)) tg mt gt)
    (he : ∀ X', LX X' E kk N Wb Gb Sb (relS scope sc) → ∀ a, EX X' (gt a) elt (mf a)) (hs : ∀ x, foldedSetIterable e X.env x = pure x := by intro _; rfl) :
    CE X (.ListComp elt [⟨tg, e, [], 0⟩] scope pos) (tX X.K Γ (mi.bind fun xs => (lcTM mt mf xs).map .list) id) := by
  have h := ex_lcG (mt := mt) (gt := gt) (cc := fun _ => some true) (mf := mf) (pos := pos) L own ok hi hg (fun X' L' a => pts_yes) he hs
  have e1 : lcTM mt mf = lcG (fun x => (mt x).bind fun a => (some true).bind fun b => if b = true then (mf a).map some else some none) := by
    funext xs
    unfold lcTM
    rw [lcM_G]
    congr 1
    funext x
    cases mt x <;> rfl
  rw [e1]
  exact h
theorem ex_lcTI (L : LX X E kk N W G Sl sc) {Wb Gb Sb : List Str} (own : List (Str × Nat)) (ok : lcOk N Wb Gb Sb sc scope own = true) {mt : D → Option A} {gt : A → List Ent} {cc : A → Option Bool} {mf : A → Option D}
    (hi : XI X Γ tg e mi)
    (hg : ∀ X', LX X' E kk N Wb Gb Sb (relS scope sc) → GY X' (wipeE Γ (own.map (·.2))) (own.map (·.2)) tg mt gt)
    (ht : ∀ X', LX X' E kk N Wb Gb Sb (relS scope sc) → ∀ a, TX X' (gt a) c (cc a))
    (he : ∀ X', LX X' E kk N Wb Gb Sb (relS scope sc) → ∀ a, EX X' (gt a) elt (mf a)) (hs : ∀ x, foldedSetIterable e X.env x = pure x := by intro _; rfl) :
    CE X (.ListComp elt [⟨tg, e, [c], 0⟩] scope pos) (tX X.K Γ (mi.bind fun xs => (lcTI mt cc mf xs).map .list) id) := by
  have h := ex_lcG (mt := mt) (gt := gt) (cc := cc) (mf := mf) (pos := pos) L own ok hi hg (fun X' L' a => pts_ifs (ht X' L' a)) he hs
  have e1 : lcTI mt cc mf = lcG (fun x => (mt x).bind fun a => (cc a).bind fun b => if b = true then (mf a).map some else some none) := by
    funext xs
    unfold lcTI
    rw [lcI_G]
    congr 1
    funext x
    cases mt x <;> rfl
  rw [e1]
  exact h
end
end Z
namespace Z
open PySem PySem.Spec L2
namespace Dg
/-! ## what a diagram says -/
def ev (g : Nat → Bool) : Dg → Bool
  | leaf b => b
  | node i l h => if g i = true then ev g h else ev g l
/-- the configuration r, from switch i on -/
def pt (i : Nat) (r : List Bool) : Nat → Bool := fun j => r.getD (j - i) false
theorem ev_congr {g g' : Nat → Bool} {n : Int} : ∀ {x : Dg} {lo : Int}, wf lo n x = true → (∀ j : Nat, lo ≤ j → g j = g' j) → ev g x = ev g' x
  | leaf _, _, _, _ => rfl
  | node i l h, lo, e, hg => by
    simp only [wf, Bool.and_eq_true, decide_eq_true_eq] at e
    have h1 := ev_congr (g := g) (g' := g') e.1.1.2 (fun j hj => hg j (by omega))
    have h2 := ev_congr (g := g) (g' := g') e.1.2 (fun j hj => hg j (by omega))
    simp only [ev, h1, h2, hg i e.1.1.1.1]
/-- all configurations of c switches, ascending -/
def allc : Nat → List (List Bool)
  | 0 => [[]]
  | c + 1 => (allc c).map (false :: ·) ++ (allc c).map (true :: ·)
theorem allc_len : ∀ c, (allc c).length = 2 ^ c
  | 0 => rfl
  | c + 1 => by simp only [allc, List.length_append, List.length_map, allc_len c, Nat.pow_succ]; omega
theorem allc_mem : ∀ {c : Nat} {r : List Bool}, r ∈ allc c → r.length = c
  | 0, r, h => by simp [allc] at h; simp [h]
  | c + 1, r, h => by
    simp only [allc, List.mem_append, List.mem_map] at h
    rcases h with ⟨q, hq, rfl⟩ | ⟨q, hq, rfl⟩ <;> simp [allc_mem hq]
/-- longer by one at the end: the same rows -/
def grow1 (rs : List (List Bool)) : List (List Bool) := rs.flatMap fun r => [r ++ [false], r ++ [true]]
theorem grow1_cons (b : Bool) (rs : List (List Bool)) : grow1 (rs.map (b :: ·)) = (grow1 rs).map (b :: ·) := by
  induction rs with
  | nil => rfl
  | cons r rs ih => simp only [grow1, List.map_cons, List.flatMap_cons, List.map_append] at ih ⊢; rw [ih]; rfl
theorem grow1_append (rs qs : List (List Bool)) : grow1 (rs ++ qs) = grow1 rs ++ grow1 qs := by simp [grow1]
theorem allc_grow : ∀ c, grow1 (allc c) = allc (c + 1)
  | 0 => rfl
  | c + 1 => by
    have ih := allc_grow c
    show grow1 ((allc c).map (false :: ·) ++ (allc c).map (true :: ·)) = (allc (c + 1)).map (false :: ·) ++ (allc (c + 1)).map (true :: ·)
    rw [grow1_append, grow1_cons, grow1_cons, ih]
/-- by a function of the configuration -/
def diaF : Nat → Nat → (List Bool → Bool) → Dg
  | 0, _, f => leaf (f [])
  | c + 1, i, f => mk i (diaF c (i + 1) fun r => f (false :: r)) (diaF c (i + 1) fun r => f (true :: r))
theorem dia_F : ∀ (c i : Nat) (f : List Bool → Bool), dia c ((allc c).map f) i = diaF c i f
  | 0, _, _ => rfl
  | c + 1, i, f => by
    have h1 := dia_F c (i + 1) fun r => f (false :: r)
    have h2 := dia_F c (i + 1) fun r => f (true :: r)
    have hl := allc_len c
    unfold dia diaF
    rw [← h1, ← h2]
    simp only [allc, List.map_append, List.map_map]
    have e1 : ((allc c).map (f ∘ (false :: ·))).length = 2 ^ c := by simp [hl]
    rw [List.take_left' e1, List.drop_left' e1]
    rfl
/-- THE ONE DIAGRAM of a set of configurations -/
theorem canon : ∀ (c i : Nat) (x : Dg), wf i ((i + c : Nat) : Int) x = true → diaF c i (fun r => ev (pt i r) x) = x
  | 0, i, leaf b, _ => rfl
  | 0, i, node j l h, e => by
    simp only [wf, Bool.and_eq_true, decide_eq_true_eq] at e
    omega
  | c + 1, i, leaf b, _ => by
    have h := canon c (i + 1) (leaf b) rfl
    simp only [diaF, ev] at h ⊢
    rw [h]
    simp [mk]
  | c + 1, i, node j l h, e => by
    have e0 := e
    simp only [wf, Bool.and_eq_true, decide_eq_true_eq] at e
    have ec : i + 1 + c = i + (c + 1) := by omega
    by_cases hj : j = i
    · subst hj
      have h1 := canon c (j + 1) l (by rw [ec]; exact_mod_cast e.1.1.2)
      have h2 := canon c (j + 1) h (by rw [ec]; exact_mod_cast e.1.2)
      have g1 : ∀ b r, ∀ k : Nat, ((j : Int) + 1) ≤ k → pt j (b :: r) k = pt (j + 1) r k := fun b r k hk => by
        unfold pt
        have : k - j = (k - (j + 1)) + 1 := by omega
        rw [this]
        simp
      have f1 : (fun r => ev (pt j (false :: r)) (node j l h)) = fun r => ev (pt (j + 1) r) l := by
        funext r
        have : pt j (false :: r) j = false := by simp [pt]
        simp only [ev, this, Bool.false_eq_true, if_false]
        exact ev_congr e.1.1.2 (g1 false r)
      have f2 : (fun r => ev (pt j (true :: r)) (node j l h)) = fun r => ev (pt (j + 1) r) h := by
        funext r
        have : pt j (true :: r) j = true := by simp [pt]
        simp only [ev, this, if_true]
        exact ev_congr e.1.2 (g1 true r)
      unfold diaF
      rw [f1, f2, h1, h2, mk, if_neg (by simpa using e.2)]
    · have hw : wf ((i + 1 : Nat) : Int) ((i + 1 + c : Nat) : Int) (node j l h) = true := by
        rw [ec]
        simp only [wf, Bool.and_eq_true, decide_eq_true_eq]
        exact ⟨⟨⟨⟨by omega, e.1.1.1.2⟩, e.1.1.2⟩, e.1.2⟩, e.2⟩
      have h1 := canon c (i + 1) (node j l h) hw
      have f1 : ∀ b, (fun r => ev (pt i (b :: r)) (node j l h)) = fun r => ev (pt (i + 1) r) (node j l h) := fun b => by
        funext r
        refine ev_congr hw fun k hk => ?_
        unfold pt
        have : k - i = (k - (i + 1)) + 1 := by omega
        rw [this]
        simp
      unfold diaF
      rw [f1, f1, h1]
      simp [mk]
/-- equal truths, equal diagrams -/
theorem one {n : Nat} {x : Dg} (h : wf 0 n x = true) : dia n ((allc n).map fun r => ev (pt 0 r) x) 0 = x := by
  rw [dia_F]
  exact canon n 0 x (by simpa using h)
theorem wf_ht {n : Int} : ∀ {x : Dg} {lo : Int}, wf lo n x = true → lo ≤ n → (x.ht : Int) ≤ n - lo
  | leaf _, _, _, h => by simp only [ht]; omega
  | node i l h, lo, e, _ => by
    simp only [wf, Bool.and_eq_true, decide_eq_true_eq] at e
    have h1 := wf_ht e.1.1.2 (by omega)
    have h2 := wf_ht e.1.2 (by omega)
    simp only [ht]
    omega
/-! ## operations -/
def neg : Dg → Dg
  | leaf b => leaf (!b)
  | node i l h => node i (neg l) (neg h)
theorem neg_neg : ∀ x, neg (neg x) = x
  | leaf b => by simp [neg]
  | node i l h => by simp [neg, neg_neg l, neg_neg h]
theorem neg_inj {x y : Dg} (h : neg x = neg y) : x = y := by rw [← neg_neg x, h, neg_neg]
theorem neg_wf {n : Int} : ∀ {x : Dg} {lo : Int}, wf lo n x = true → wf lo n (neg x) = true
  | leaf _, _, _ => rfl
  | node i l h, lo, e => by
    simp only [wf, neg, Bool.and_eq_true, decide_eq_true_eq] at e ⊢
    refine ⟨⟨⟨e.1.1.1, neg_wf e.1.1.2⟩, neg_wf e.1.2⟩, ?_⟩
    by_cases hh : neg l = neg h
    · have := neg_inj hh
      simp [this] at e
    · simp [hh]
theorem neg_ev (g : Nat → Bool) : ∀ x, ev g (neg x) = !ev g x
  | leaf b => rfl
  | node i l h => by
    simp only [neg, ev, neg_ev g l, neg_ev g h]
    split <;> rfl
theorem neg_ht : ∀ x, (neg x).ht = x.ht
  | leaf b => rfl
  | node i l h => by simp [neg, ht, neg_ht l, neg_ht h]
theorem mk_ev (g : Nat → Bool) (i : Nat) (l h : Dg) : ev g (mk i l h) = if g i = true then ev g h else ev g l := by
  unfold mk
  split
  · rename_i e; subst e; split <;> rfl
  · rfl
theorem mk_wf {n lo : Int} {i : Nat} {l h : Dg} (h1 : lo ≤ i) (h2 : (i : Int) < n) (wl : wf (i + 1) n l = true) (wh : wf (i + 1) n h = true) : wf lo n (mk i l h) = true := by
  unfold mk
  split
  · exact wf_lo (by omega) wl
  · rename_i e
    simp [wf, h1, h2, wl, wh, e]
def both : Nat → Dg → Dg → Dg
  | 0, _, _ => leaf false
  | _ + 1, leaf a, y => if a = true then y else leaf false
  | _ + 1, node i l h, leaf b => if b = true then node i l h else leaf false
  | n + 1, node i l h, node j m k => if i < j then mk i (both n l (node j m k)) (both n h (node j m k)) else if j < i then mk j (both n (node i l h) m) (both n (node i l h) k) else mk i (both n l m) (both n h k)
theorem both_ev (g : Nat → Bool) : ∀ (n : Nat) (x y : Dg), x.ht + y.ht < n → ev g (both n x y) = (ev g x && ev g y)
  | 0, _, _, h => by omega
  | n + 1, leaf a, y, _ => by cases a <;> simp [both, ev]
  | n + 1, node i l h, leaf b, _ => by cases b <;> simp [both, ev]
  | n + 1, node i l h, node j m k, hh => by
    simp only [ht] at hh
    unfold both
    split
    · rw [mk_ev, both_ev g n l _ (by simp only [ht]; omega), both_ev g n h _ (by simp only [ht]; omega)]
      simp only [ev]
      cases g i <;> simp
    · split
      · rw [mk_ev, both_ev g n _ m (by simp only [ht]; omega), both_ev g n _ k (by simp only [ht]; omega)]
        simp only [ev]
        cases g j <;> simp
      · have e : i = j := by omega
        subst e
        rw [mk_ev, both_ev g n l m (by omega), both_ev g n h k (by omega)]
        simp only [ev]
        cases g i <;> simp
theorem mk_ht {i : Nat} {l h : Dg} : (mk i l h).ht ≤ max l.ht h.ht + 1 := by
  unfold mk
  split
  · omega
  · simp [ht]
/-! ## configurations chosen, step by step -/
def step (i : Nat) (b : Bool) : Dg → Dg
  | leaf c => leaf c
  | node j l h => if j = i then (if b = true then h else l) else node j l h
theorem step_wf {i : Nat} {n : Int} {b : Bool} : ∀ {x : Dg}, wf i n x = true → wf ((i + 1 : Nat) : Int) n (step i b x) = true
  | leaf _, _ => rfl
  | node j l h, e => by
    have e0 := e
    simp only [wf, Bool.and_eq_true, decide_eq_true_eq] at e
    simp only [step]
    split
    · rename_i q
      subst q
      split
      · exact_mod_cast e.1.2
      · exact_mod_cast e.1.1.2
    · simp only [wf, Bool.and_eq_true, decide_eq_true_eq]
      exact ⟨⟨⟨⟨by omega, e.1.1.1.2⟩, e.1.1.2⟩, e.1.2⟩, e.2⟩
theorem step_ev {i : Nat} {n : Int} {b : Bool} {r : List Bool} : ∀ {x : Dg}, wf i n x = true → ev (pt i (b :: r)) x = ev (pt (i + 1) r) (step i b x)
  | leaf _, _ => rfl
  | node j l h, e => by
    have e0 := e
    simp only [wf, Bool.and_eq_true, decide_eq_true_eq] at e
    have g1 : ∀ k : Nat, ((i : Int) + 1) ≤ k → pt i (b :: r) k = pt (i + 1) r k := fun k hk => by
      unfold pt
      have : k - i = (k - (i + 1)) + 1 := by omega
      rw [this]
      simp
    simp only [step]
    split
    · rename_i q
      subst q
      have h0 : pt j (b :: r) j = b := by simp [pt]
      simp only [ev, h0]
      split
      · exact ev_congr e.1.2 g1
      · exact ev_congr e.1.1.2 g1
    · have w : wf ((i : Int) + 1) n (node j l h) = true := by
        simp only [wf, Bool.and_eq_true, decide_eq_true_eq]
        exact ⟨⟨⟨⟨by omega, e.1.1.1.2⟩, e.1.1.2⟩, e.1.2⟩, e.2⟩
      exact ev_congr w g1
/-- one switch more -/
def longer (i : Nat) (fs : List (List Bool × Dg)) : List (List Bool × Dg) := fs.flatMap fun p => [false, true].filterMap fun b => if step i b p.2 = leaf false then none else some (p.1 ++ [b], step i b p.2)
def found : Nat → Nat → List (List Bool × Dg) → List (List Bool × Dg)
  | 0, _, fs => fs
  | k + 1, i, fs => found k (i + 1) (longer i fs)
theorem fm_congr {A B : Type} {f g : A → List B} : ∀ (xs : List A), (∀ x ∈ xs, f x = g x) → xs.flatMap f = xs.flatMap g
  | [], _ => rfl
  | x :: xs, h => by rw [List.flatMap_cons, List.flatMap_cons, h x List.mem_cons_self, fm_congr xs fun y hy => h y (List.mem_cons_of_mem _ hy)]
theorem found_ok : ∀ (k i : Nat) (fs : List (List Bool × Dg)), (∀ p ∈ fs, wf i ((i + k : Nat) : Int) p.2 = true) →
    ((found k i fs).filter fun p => decide (p.2 = leaf true)).map (·.1) = fs.flatMap fun p => ((allc k).filter fun r => ev (pt i r) p.2).map (p.1 ++ ·)
  | 0, i, fs, hw => by
    simp only [found]
    induction fs with
    | nil => rfl
    | cons p fs ih =>
      have ih := ih fun q hq => hw q (List.mem_cons_of_mem _ hq)
      have hp := hw p List.mem_cons_self
      obtain ⟨c, x⟩ := p
      cases x with
      | node j l h => simp only [wf, Bool.and_eq_true, decide_eq_true_eq] at hp; omega
      | leaf b =>
        rw [List.flatMap_cons, ← ih]
        cases b <;> simp [allc, ev]
  | k + 1, i, fs, hw => by
    have ec : i + 1 + k = i + (k + 1) := by omega
    have hw1 : ∀ p ∈ longer i fs, wf ((i + 1 : Nat) : Int) ((i + 1 + k : Nat) : Int) p.2 = true := fun p hp => by
      simp only [longer, List.mem_flatMap, List.mem_filterMap] at hp
      obtain ⟨q, hq, b, _, hb⟩ := hp
      split at hb
      · cases hb
      · cases hb
        rw [ec]
        exact step_wf (hw q hq)
    simp only [found]
    rw [found_ok k (i + 1) (longer i fs) hw1]
    unfold longer
    rw [List.flatMap_assoc]
    refine fm_congr fs fun p hp => ?_
    have hp := hw p hp
    have one : ∀ b, (if step i b p.2 = leaf false then [] else ((allc k).filter fun r => ev (pt (i + 1) r) (step i b p.2)).map ((p.1 ++ [b]) ++ ·)) = (((allc k).map (b :: ·)).filter fun r => ev (pt i r) p.2).map (p.1 ++ ·) := fun b => by
      rw [List.filter_map, List.map_map]
      have e1 : ((fun r => ev (pt i r) p.2) ∘ (b :: ·)) = fun r => ev (pt (i + 1) r) (step i b p.2) := by
        funext r
        exact step_ev hp
      rw [e1]
      split
      · rename_i e
        rw [e]
        simp [ev]
      · refine List.map_congr_left fun r _ => ?_
        simp
    simp only [allc, List.filter_append, List.map_append, ← one]
    by_cases e1 : step i false p.2 = leaf false <;> by_cases e2 : step i true p.2 = leaf false <;> simp [e1, e2]
theorem both_wf {c : Int} : ∀ (n : Nat) (x y : Dg) (lo : Int), wf lo c x = true → wf lo c y = true → wf lo c (both n x y) = true
  | 0, _, _, _, _, _ => rfl
  | n + 1, leaf a, y, lo, _, hy => by cases a <;> simp [both, hy, wf]
  | n + 1, node i l h, leaf b, lo, hx, _ => by cases b <;> simp [both, hx, wf]
  | n + 1, node i l h, node j m k, lo, hx, hy => by
    have hx0 := hx
    have hy0 := hy
    simp only [wf, Bool.and_eq_true, decide_eq_true_eq] at hx hy
    unfold both
    split
    · have hy1 : wf ((i : Int) + 1) c (node j m k) = true := by
        simp only [wf, Bool.and_eq_true, decide_eq_true_eq]
        exact ⟨⟨⟨⟨by omega, hy.1.1.1.2⟩, hy.1.1.2⟩, hy.1.2⟩, hy.2⟩
      exact mk_wf hx.1.1.1.1 hx.1.1.1.2 (both_wf n _ _ _ hx.1.1.2 hy1) (both_wf n _ _ _ hx.1.2 hy1)
    · split
      · have hx1 : wf ((j : Int) + 1) c (node i l h) = true := by
          simp only [wf, Bool.and_eq_true, decide_eq_true_eq]
          exact ⟨⟨⟨⟨by omega, hx.1.1.1.2⟩, hx.1.1.2⟩, hx.1.2⟩, hx.2⟩
        exact mk_wf hy.1.1.1.1 hy.1.1.1.2 (both_wf n _ _ _ hx1 hy.1.1.2) (both_wf n _ _ _ hx1 hy.1.2)
      · have e : i = j := by omega
        subst e
        exact mk_wf hx.1.1.1.1 hx.1.1.1.2 (both_wf n _ _ _ hx.1.1.2 hy.1.1.2) (both_wf n _ _ _ hx.1.2 hy.1.2)
end Dg
end Z
namespace Z
open PySem PySem.Spec L2
/-! ## loops over known lists -/
section
variable {S L R : Type} {F : D → S → Option (Ctl S S R)}
/-- item by item -/
theorem forC_go {A : Type} {enc : A → D} {st : List A → S} {P : A → Prop} : ∀ (xs done : List A), (∀ a ∈ xs, P a) → (∀ a done, P a → F (enc a) (st done) = some (.nx (st (done ++ [a])))) → (forC F (xs.map enc) (st done) : Option (Ctl S L R)) = some (.nx (st (done ++ xs)))
  | [], done, _, _ => by simp [forC]
  | a :: xs, done, hP, h => by
    have ih := forC_go xs (done ++ [a]) (fun b hb => hP b (List.mem_cons_of_mem _ hb)) h
    simp only [List.map_cons, forC, h a done (hP a List.mem_cons_self)]
    rw [ih]
    simp
/-- the same, where the list of what is done is known to be a start of all -/
theorem forC_pre {A : Type} {enc : A → D} {st : List A → S} : ∀ (xs done : List A), (∀ d1 a d2, done ++ xs = d1 ++ a :: d2 → F (enc a) (st d1) = some (.nx (st (d1 ++ [a])))) → (forC F (xs.map enc) (st done) : Option (Ctl S L R)) = some (.nx (st (done ++ xs)))
  | [], done, _ => by simp [forC]
  | a :: xs, done, h => by
    have ih := forC_pre xs (done ++ [a]) (fun d1 b d2 e => h d1 b d2 (by rw [← e]; simp))
    simp only [List.map_cons, forC, h done a xs rfl]
    rw [ih]
    simp
theorem forC_range {lo : Int} {n : Nat} {st : Nat → S} (h : ∀ i, i < n → F (.int (lo + (i : Nat))) (st i) = some (.nx (st (i + 1)))) : (forC F (rgU lo n) (st 0) : Option (Ctl S L R)) = some (.nx (st n)) := by
  have h2 := forC_pre (F := F) (L := L) (enc := fun i : Nat => .int (lo + (i : Nat))) (st := fun d => st d.length) (List.range n) [] (fun d1 a d2 e => by
    simp only [List.nil_append] at e
    have hl : d1.length < n := by
      have := congrArg List.length e
      simp at this
      omega
    have ha : a = d1.length := by
      have h3 : (List.range n)[d1.length]? = some a := by rw [e]; simp
      rw [List.getElem?_range hl] at h3
      exact (Option.some.inj h3).symm
    subst ha
    simpa using h d1.length hl)
  simpa [rgU] using h2
end
theorem lcM_map {A : Type} {enc : A → D} {f : D → Option D} {g : A → D} : ∀ {xs : List A}, (∀ a ∈ xs, f (enc a) = some (g a)) → lcM f (xs.map enc) = some (xs.map g)
  | [], _ => rfl
  | a :: xs, h => by
    simp only [List.map_cons, lcM, h a List.mem_cons_self, Option.bind_some, lcM_map fun b hb => h b (List.mem_cons_of_mem _ hb), Option.map_some]
theorem lcI_map {A : Type} {enc : A → D} {c : D → Option Bool} {f : D → Option D} {p : A → Bool} {g : A → D} : ∀ {xs : List A}, (∀ a ∈ xs, c (enc a) = some (p a)) → (∀ a ∈ xs, f (enc a) = some (g a)) → lcI c f (xs.map enc) = some ((xs.filter p).map g)
  | [], _, _ => rfl
  | a :: xs, h, k => by
    have ih := lcI_map (fun b hb => h b (List.mem_cons_of_mem _ hb)) (fun b hb => k b (List.mem_cons_of_mem _ hb))
    simp only [List.map_cons, lcI, h a List.mem_cons_self, Option.bind_some]
    cases hp : p a
    · simp [ih, hp]
    · simp [ih, hp, k a List.mem_cons_self]
theorem rgU_map {n : Nat} : rgU 0 n = (List.range n).map fun i : Nat => (PyData.int (i : Int)) := by unfold rgU; simp
theorem pEq_refl {x : D} (h : x.depth ≤ 100) (p : x.plain = true) : pEq x x = some (.bool true) := by rw [pEq, if_pos (dOk_of h), PySem.SeqAt.eqv_refl_plain x p]
theorem pNe_refl {x : D} (h : x.depth ≤ 100) (p : x.plain = true) : pNe x x = some (.bool false) := by rw [pNe, if_pos (dOk_of h), PySem.SeqAt.eqv_refl_plain x p]; rfl
theorem pRg1_ok {n : Nat} (h : n ≤ 100000) : pRg1 (.int (n : Int)) = some (rgU 0 n) := by
  show (if rgOk (n : Int) = true ∧ rgLe (n : Int).toNat = true then some (rgU 0 (n : Int).toNat) else none) = _
  rw [if_pos ?_]
  · simp
  · have b : 100000 ≤ sizeLine := by decide
    exact ⟨decide_eq_true (by omega), decide_eq_true (by rw [Int.toNat_natCast]; omega)⟩
end Z
namespace Z
open PySem PySem.Spec L2
theorem forC_rangeE {S L R : Type} {F : D → S → Option (Ctl S S R)} {enc : Nat → D} {n : Nat} {st : Nat → S} (h : ∀ i, i < n → F (enc i) (st i) = some (.nx (st (i + 1)))) : (forC F ((List.range n).map enc) (st 0) : Option (Ctl S L R)) = some (.nx (st n)) := by
  have h2 := forC_pre (F := F) (L := L) (enc := enc) (st := fun d => st d.length) (List.range n) [] (fun d1 a d2 e => by
    simp only [List.nil_append] at e
    have hl : d1.length < n := by
      have := congrArg List.length e
      simp at this
      omega
    have ha : a = d1.length := by
      have h3 : (List.range n)[d1.length]? = some a := by rw [e]; simp
      rw [List.getElem?_range hl] at h3
      exact (Option.some.inj h3).symm
    subst ha
    simpa using h d1.length hl)
  simpa using h2
/-- with what is known of the state alone -/
theorem forC_inv {S L R : Type} {F : D → S → Option (Ctl S S R)} {A : Type} {enc : A → D} {I : List A → S → Prop} : ∀ (xs done : List A) (s : S), I done s → (∀ d1 a d2 s, done ++ xs = d1 ++ a :: d2 → I d1 s → ∃ s', F (enc a) s = some (.nx s') ∧ I (d1 ++ [a]) s') → ∃ s', (forC F (xs.map enc) s : Option (Ctl S L R)) = some (.nx s') ∧ I (done ++ xs) s'
  | [], done, s, hi, _ => ⟨s, rfl, by simpa using hi⟩
  | a :: xs, done, s, hi, h => by
    obtain ⟨s1, e1, h1⟩ := h done a xs s rfl hi
    obtain ⟨s2, e2, h2⟩ := forC_inv xs (done ++ [a]) s1 h1 (fun d1 b d2 s e => h d1 b d2 s (by rw [← e]; simp))
    refine ⟨s2, ?_, by simpa using h2⟩
    simp only [List.map_cons, forC, e1]
    exact e2
theorem forC_rinv {S L R : Type} {F : D → S → Option (Ctl S S R)} {enc : Nat → D} {n : Nat} {I : Nat → S → Prop} {s : S} (h0 : I 0 s) (h : ∀ i s, i < n → I i s → ∃ s', F (enc i) s = some (.nx s') ∧ I (i + 1) s') : ∃ s', (forC F ((List.range n).map enc) s : Option (Ctl S L R)) = some (.nx s') ∧ I n s' := by
  obtain ⟨s', e, hi⟩ := forC_inv (F := F) (L := L) (enc := enc) (I := fun d => I d.length) (List.range n) [] s h0 (fun d1 a d2 s e hi => by
    simp only [List.nil_append] at e
    have hl : d1.length < n := by
      have := congrArg List.length e
      simp at this
      omega
    have ha : a = d1.length := by
      have h3 : (List.range n)[d1.length]? = some a := by rw [e]; simp
      rw [List.getElem?_range hl] at h3
      exact (Option.some.inj h3).symm
    subst ha
    simpa using h d1.length s hl hi)
  exact ⟨s', e, by simpa using hi⟩
end Z
namespace P
open PySem PySem.Spec L2 Z
def top (i : Nat) : Stmt := PySem.Challenge.pw_oncefolded_k01_whole_diagrams.main.body.getD i (.Pass ⟨0, 0, 0, 0⟩)
abbrev s__law_tape : Stmt := top 17

theorem f__law_tape {E : ME} {kk : Nat} (hd : DefAt E "_law_tape" "_law_tape" s__law_tape ["_law_script", "_law_budget"]) (z_list : Free E "list") : FnT E (kk + 1) "_law_tape" := by
  obtain ⟨f, fd, F, hm, hb⟩ := hd
  refine ⟨f, fd, _, F.ok (N := ["_law_script", "_law_budget"]) (ps := ["_law_script", "_law_budget"]) ⟨rfl, rfl, rfl, by decide +kernel, rfl, by decide +kernel, by decide +kernel⟩ (fun vs H Q E h => by obtain ⟨a, ns, b, rfl, _⟩ := h; rfl) (fun cdv A outer s H vs Q Ex hr h => ?_), hm, F.kp, hb⟩
  obtain ⟨a, ns, b, rfl, hS, q⟩ := h
  refine ⟨_, pss_one (ps_ret (pe_lst (pa_cons (pe_callTy call_list_of rfl z_list PyProof.Rows.boot_list (pa_cons (pv 0) pa_nil)) (pa_cons pe_int (pa_cons pe_int (pa_cons pe_int (pa_cons (pv 1) pa_nil))))))), ?_⟩
  exact ⟨_, rfl, a, _, rfl, .inl hS, fun l hl => ⟨_, rfl, by show 5 ≤ sizeLine; decide, fun p hp => q l p hl hp⟩⟩

abbrev s__law_mix : Stmt := top 16

def m__law_mix_b (a0 : D) : Option (Ctl Empty Empty D) :=
  ((((pMul a0 (.int 6364136223846793005)).bind fun x1 => pAdd x1 (.int 1442695040888963407)).bind fun x2 => pInt x2).bind fun x3 => pMod x3 (.int 18446744073709551616)).bind fun x4 => (((((pMul x4 x4).bind fun x5 => pFdiv x5 (.int 4294967296)).bind fun x6 => (pMul x4 (.int 69621)).bind fun y7 => pAdd x6 y7).bind fun x8 => pInt x8).bind fun x9 => pMod x9 (.int 18446744073709551557)).bind fun x10 => some (.rt x10)
def m__law_mix (a0 : D) : Option D := Ctl.fin Empty.elim (m__law_mix_b a0)

theorem b__law_mix {X : Cx} {E : ME} {kk : Nat} (L : LX X E kk ["_law_number"] ["_law_number"] ["int"] ["_law_number"] (defScope s__law_mix)) (z_int : Free E "int") (a0 : D) :
    BS X [.fz a0] (defBody s__law_mix) (m__law_mix_b a0) Empty.elim Empty.elim (fun (_ : D) => [.no]) (fun x => x) := by
  unfold m__law_mix_b
  refine bs_set L 0 0 rfl rfl (ex_op_xa op_mod rs_mod (ex_callT L 0 rfl z_int PyProof.Rows.boot_int call_int rs_int (ax_cons (ex_op_xa op_addD rs_add (ex_op_aa op_mulX rs_mul (ex_var L 0 0 rfl rfl rfl) ex_int) ex_int) (fun x2 => ax_nil))) ex_int) (fun x4 => ?_)
  exact bs_ret (mk := fun x10 => x10) (ex_op_xa op_mod rs_mod (ex_callT L 0 rfl z_int PyProof.Rows.boot_int call_int rs_int (ax_cons (ex_op op_addD rs_add (ex_op_xa op_fdivW rs_fdiv (ex_op_aa op_mulX rs_mul (ex_var L 0 0 rfl rfl rfl) (ex_var L 0 0 rfl rfl rfl)) ex_int) (ex_op_aa op_mulX rs_mul (ex_var L 0 0 rfl rfl rfl) ex_int)) (fun x8 => ax_nil))) ex_int) (fun _ => rfl) (fun _ => (.no .nil))

theorem f__law_mix {E : ME} {kk : Nat} (hd : DefAt E "_law_mix" "_law_mix" s__law_mix ["_law_number"]) (z_int : Free E "int") : FnM E (kk + 1) "_law_mix" (CP (g1 m__law_mix)) :=
  hd.fn (N := ["_law_number"]) (W := ["_law_number"]) (G := ["int"]) (Sl := ["_law_number"]) ⟨rfl, rfl, rfl, by decide +kernel, rfl, by decide +kernel, by decide +kernel⟩ (by decide +kernel) (by decide +kernel)
    (fun Γ0 r Γ1 ⟨xs, h1, h2, h3⟩ => match xs, h2 with | [_], _ => by subst h1; rfl)
    fun X L Γ0 r Γ1 ⟨xs, h1, h2, h3⟩ => match xs, h2 with
      | [a0], h2 => by
        subst h1 h3
        exact body_of (d := Empty.elim) (b__law_mix L z_int a0) h2 (.no .nil) (fun n => n.elim)

abbrev s__law_take : Stmt := top 18

def m__law_take_b (a0 : D) (a1 : D) : Option (Ctl Empty Empty (D × D)) :=
  Ctl.seq (((pIdx a0 (.int 2)).bind fun x1 => (pLt x1 a1).bind dBool).bind fun k44 => if k44 = true then ((pIdx a0 (.int 1)).bind fun x4 => ((pIdx a0 (.int 0)).bind fun x3 => pLen x3).bind fun y5 => (pLt x4 y5).bind dBool).bind fun k35 => if k35 = true then ((pIdx a0 (.int 0)).bind fun x6 => (pIdx a0 (.int 1)).bind fun y7 => pIdx x6 y7).bind fun x8 => (((pGe x8 (.int 0)).bind dBool).bind fun k10 => if k10 = true then pMul (.int 2) x8 else (pMul (.int (-2)) x8).bind fun x9 => pSub x9 (.int 1)).bind fun x11 => ((pIdx a0 (.int 1)).bind fun x12 => pAdd x12 (.int 1)).bind fun y13 => (some (.int 1)).bind fun z14 => (pSetI a0 z14 y13).bind fun w15 => (((pIdx w15 (.int 3)).bind fun x16 => pAdd x16 x11).bind fun x17 => m__law_mix x17).bind fun y18 => (some (.int 3)).bind fun z19 => (pSetI w15 z19 y18).bind fun w20 => (((pPow (.int 10) (.int 18)).bind fun y21 => (pGe x11 y21).bind dBool).bind fun k23 => if k23 = true then some x11 else (m__law_mix x11).bind fun x22 => m__law_mix x22).bind fun y24 => (some (.int 2)).bind fun z25 => (pSetI w20 z25 y24).bind fun w26 => some (.nx w26) else (((pIdx a0 (.int 3)).bind fun x27 => pAdd x27 (.int 1)).bind fun x28 => m__law_mix x28).bind fun y29 => (some (.int 3)).bind fun z30 => (pSetI a0 z30 y29).bind fun w31 => (pIdx w31 (.int 3)).bind fun y32 => (some (.int 2)).bind fun z33 => (pSetI w31 z33 y32).bind fun w34 => some (.nx w34) else some (.nx a0) : Option (Ctl D Empty (D × D))) fun (n2 : D) => (((pIdx n2 (.int 2)).bind fun x36 => pInt x36).bind fun x37 => pMod x37 a1).bind fun x38 => ((pIdx n2 (.int 2)).bind fun x39 => pFdiv x39 a1).bind fun y40 => (some (.int 2)).bind fun z41 => (pSetI n2 z41 y40).bind fun w42 => some (.rt (x38, w42))
def m__law_take (a0 : D) (a1 : D) : Option (D × D) := Ctl.fin Empty.elim (m__law_take_b a0 a1)

theorem b__law_take {X : Cx} {E : ME} {kk : Nat} (L : LX X E kk ["_law_tape_here", "_law_many", "_law_cell", "_law_digit"] ["_law_tape_here", "_law_many", "_law_cell", "_law_digit"] ["len", "_law_mix", "int"] ["_law_tape_here", "_law_many", "_law_cell", "_law_digit"] (defScope s__law_take)) (z_int : Free E "int") (z_len : Free E "len") (h__law_mix : FnM E kk "_law_mix" (CP (g1 m__law_mix))) (v0 : V) (a0 : D) (a1 : D) :
    BS X [.ow .l (some v0) a0, .fz a1, .no, .no] (defBody s__law_take) (m__law_take_b a0 a1) Empty.elim Empty.elim (fun (r : (D × D)) => [.ow .l (some v0) r.2, .no, .no, .no]) (fun r => r.1) := by
  unfold m__law_take_b
  refine bs_seq (gN' := (fun (n2 : D) => [.ow .l (some v0) n2, .fz a1, .no, .no])) (ss_if (tx_borrow 0 rfl (tx_cmp_xa (op_ltZ L.un) rs_lt (ex_ix_aa (ex_var L 0 0 rfl rfl rfl) ex_int (fun _ _ => rfl)) (ex_var L 1 1 rfl rfl rfl) (nomark _))) ?_ ?_) ?_
  · 
      refine bs_one (ss_if (tx_borrow 0 rfl (tx_cmp (op_ltZ L.un) rs_lt (ex_ix_aa (ex_var L 0 0 rfl rfl rfl) ex_int (fun _ _ => rfl)) (ex_callB L 0 rfl z_len PySem.boot_len call_len rs_len (ax_cons (ex_ix_aa (ex_var L 0 0 rfl rfl rfl) ex_int (fun _ _ => rfl)) (fun x3 => ax_nil))) (nomark _))) ?_ ?_)
      · 
        refine bs_set L 2 2 rfl rfl (ex_ix (ex_ixO_a L 0 0 rfl rfl rfl ex_int (fun _ _ => rfl)) (ex_ixO_a L 0 0 rfl rfl rfl ex_int (fun _ _ => rfl)) (fun _ _ => rfl)) (fun x8 => ?_)
        refine bs_set L 2 2 rfl rfl (ex_if (tx_cmp_aa (op_geZ L.un) rs_ge (ex_var L 2 2 rfl rfl rfl) ex_int (nomark _)) (ex_op_aa op_mulX rs_mul ex_int (ex_var L 2 2 rfl rfl rfl)) (ex_op_xa op_sub rs_sub (ex_op_aa op_mulX rs_mul ex_negc (ex_var L 2 2 rfl rfl rfl)) ex_int)) (fun x11 => ?_)
        refine bs_seti L 0 0 rfl rfl rfl (ex_op_xa op_addD rs_add (ex_ixO_a L 0 0 rfl rfl rfl ex_int (fun _ _ => rfl)) ex_int) ex_int (fun w15 => ?_)
        refine bs_seti L 0 0 rfl rfl rfl (ex_call L 1 rfl h__law_mix (Nat.le_refl _) (ax_cons (ex_op_xa op_addD rs_add (ex_ixO_a L 0 0 rfl rfl rfl ex_int (fun _ _ => rfl)) (ex_var L 2 2 rfl rfl rfl)) (fun x17 => ax_nil))) ex_int (fun w20 => ?_)
        refine bs_seti L 0 0 rfl rfl rfl (ex_if (tx_cmp_ax (op_geZ L.un) rs_ge (ex_var L 2 2 rfl rfl rfl) (ex_op_aa op_pow rs_pow ex_int ex_int) (nomark _)) (ex_var L 2 2 rfl rfl rfl) (ex_call L 1 rfl h__law_mix (Nat.le_refl _) (ax_cons (ex_call L 1 rfl h__law_mix (Nat.le_refl _) (ax_consA (ex_var L 2 2 rfl rfl rfl) ax_nil)) (fun x22 => ax_nil)))) ex_int (fun w26 => ?_)
        exact bs_nil (.same (.same (.no (.no .nil))))
      · 
        refine bs_seti L 0 0 rfl rfl rfl (ex_call L 1 rfl h__law_mix (Nat.le_refl _) (ax_cons (ex_op_xa op_addD rs_add (ex_ixO_a L 0 0 rfl rfl rfl ex_int (fun _ _ => rfl)) ex_int) (fun x28 => ax_nil))) ex_int (fun w31 => ?_)
        refine bs_seti L 0 0 rfl rfl rfl (ex_ixO_a L 0 0 rfl rfl rfl ex_int (fun _ _ => rfl)) ex_int (fun w34 => ?_)
        exact bs_nil (.same (.same (.no (.no .nil))))
  · 
      exact bs_nil (.same (.same (.no (.no .nil))))
  intro n2
  refine bs_set L 3 3 rfl rfl (ex_op_xa op_mod rs_mod (ex_callT L 2 rfl z_int PyProof.Rows.boot_int call_int rs_int (ax_cons (ex_ixO_a L 0 0 rfl rfl rfl ex_int (fun _ _ => rfl)) (fun x36 => ax_nil))) (ex_var L 1 1 rfl rfl rfl)) (fun x38 => ?_)
  refine bs_seti L 0 0 rfl rfl rfl (ex_op_xa op_fdivW rs_fdiv (ex_ixO_a L 0 0 rfl rfl rfl ex_int (fun _ _ => rfl)) (ex_var L 1 1 rfl rfl rfl)) ex_int (fun w42 => ?_)
  exact bs_ret_a (mk := fun x43 => (x43, w42)) (ex_var L 3 3 rfl rfl rfl) (fun _ => rfl) (fun _ => (.same (.no (.no (.no .nil)))))

theorem f__law_take {E : ME} {kk : Nat} (hd : DefAt E "_law_take" "_law_take" s__law_take ["_law_tape_here", "_law_many"]) (z_int : Free E "int") (z_len : Free E "len") (h__law_mix : FnM E kk "_law_mix" (CP (g1 m__law_mix))) : FnM E (kk + 1) "_law_take" (CO1 .l (fun t => g1 (m__law_take t))) :=
  hd.fn (N := ["_law_tape_here", "_law_many", "_law_cell", "_law_digit"]) (W := ["_law_tape_here", "_law_many", "_law_cell", "_law_digit"]) (G := ["len", "_law_mix", "int"]) (Sl := ["_law_tape_here", "_law_many", "_law_cell", "_law_digit"]) ⟨rfl, rfl, rfl, by decide +kernel, rfl, by decide +kernel, by decide +kernel⟩ (by decide +kernel) (by decide +kernel)
    (fun Γ0 r Γ1 ⟨v, x, xs, y, h1, h2, h3⟩ => match xs, h2 with | [_], _ => by subst h1; rfl)
    fun X L Γ0 r Γ1 ⟨v0, a0, xs, y, h1, h2, h3⟩ => match xs, h2 with
      | [a1], h2 => by
        subst h1 h3
        exact body_of (d := Empty.elim) (rr := (r, y)) (b__law_take L z_int z_len h__law_mix v0 a0 a1) h2 (.ow (.no .nil)) (fun n => n.elim)

abbrev s__law_switches : Stmt := top 19

def m__law_switches_b (a0 : D) : Option (Ctl Empty Empty (D × D)) :=
  ((some ((.list [(.list [(S "a"), (S "b"), (S "c"), (S "d"), (S "e")]), (.list [(S "aa"), (S "ab"), (S "b"), (S "ba"), (S "zz")]), (.list [(S "big"), (S "debug"), (S "posix"), (S "win"), (S "x")])]), a0)).bind fun r1 => (m__law_take r1.2 (.int 3)).bind fun r2 => (pIdx r1.1 r2.1).map fun z3 => (z3, r2.2)).bind fun r4 => (((pIter r4.1).map fun x5 => (x5, r4.2)).bind fun r9 => (lcIE (fun x7 t8 => (m__law_take t8 (.int 2)).bind fun r11 => (some ((.int 0), r11.2)).bind fun r12 => ((pEq r11.1 r12.1).bind dBool).map fun z13 => (z13, r12.2)) (fun x7 t8 => some (x7, t8)) r9.1 r9.2).map fun z10 => (.list z10.1, z10.2)).bind fun r14 => (((pLen r14.1).bind fun x15 => (pGt x15 (.int 0)).bind dBool).bind fun k17 => if k17 = true then pTuple r14.1 else (pIdx r4.1 (.int 0)).bind fun x16 => some (.tuple [x16])).bind fun x18 => some (.rt (x18, r14.2))
def m__law_switches (a0 : D) : Option (D × D) := Ctl.fin Empty.elim (m__law_switches_b a0)

theorem b__law_switches {X : Cx} {E : ME} {kk : Nat} (L : LX X E kk ["_law_tape_here", "_law_pool", "_law_kept", "_law_name"] ["_law_tape_here", "_law_pool", "_law_kept"] ["_law_take", "len", "tuple"] ["_law_tape_here", "_law_pool", "_law_kept"] (defScope s__law_switches)) (z_len : Free E "len") (z_tuple : Free E "tuple") (h__law_take : FnM E kk "_law_take" (CO1 .l (fun t => g1 (m__law_take t)))) (v0 : V) (a0 : D) :
    BS X [.ow .l (some v0) a0, .no, .no, .no] (defBody s__law_switches) (m__law_switches_b a0) Empty.elim Empty.elim (fun (r : (D × D)) => [.ow .l (some v0) r.2, .no, .no, .no]) (fun r => r.1) := by
  unfold m__law_switches_b
  refine bs_setE (S := (fun (t20 : D) => [.ow .l (some v0) t20, .no, .no, .no])) L 1 1 rfl rfl (exe_ix (exe_atom (ex_lst (by decide) (ax_consA (ex_lst (by decide) (ax_consA ex_str (ax_consA ex_str (ax_consA ex_str (ax_consA ex_str (ax_consA ex_str ax_nil)))))) (ax_consA (ex_lst (by decide) (ax_consA ex_str (ax_consA ex_str (ax_consA ex_str (ax_consA ex_str (ax_consA ex_str ax_nil)))))) (ax_consA (ex_lst (by decide) (ax_consA ex_str (ax_consA ex_str (ax_consA ex_str (ax_consA ex_str (ax_consA ex_str ax_nil)))))) ax_nil))))) (fun r1 => (exe_callO1 L 0 0 0 rfl rfl rfl h__law_take (Nat.le_refl _) (fun _ => rfl) (fun _ _ => rfl) (axe_consA ex_int axe_nil))) (fun _ _ => rfl)) (fun r4 => ?_)
  refine bs_setCE (S := (fun (t19 : D) => [.ow .l (some v0) t19, .fz r4.1, .no, .no])) L 2 rfl (by decide +kernel) (exe_lcI1 (Wb := ["_law_name", "_law_tape_here"]) (Gb := ["_law_take"]) (Sb := ["_law_name"]) L 3 0 rfl rfl (by decide +kernel) (fun _ => rfl) (xie_pure (xi_val_a (ex_var L 1 1 rfl rfl rfl))) (fun _ L6 x7 t8 => (txe_cmp (op_eqZ L6.un) rs_eq (exe_callO1 L6 0 0 1 rfl rfl rfl h__law_take (Nat.le_refl _) (fun _ => rfl) (fun _ _ => rfl) (axe_consA ex_int axe_nil)) (fun r11 => (exe_atom ex_int)) (nomark _))) (fun _ L6 x7 t8 => (exe_atom (ex_var L6 3 0 rfl rfl rfl)))) (fun r14 => ?_) (swT L (by decide +kernel) (by rfl)).1
  exact bs_ret (mk := fun x18 => (x18, r14.2)) (ex_if (tx_cmp_xa (op_gtZ L.un) rs_gt (ex_callB L 1 rfl z_len PySem.boot_len call_len rs_len (ax_consA (ex_var L 2 2 rfl rfl rfl) ax_nil)) ex_int (nomark _)) (ex_callT L 2 rfl z_tuple PyProof.Rows.boot_tuple call_tupleF rs_tuple (ax_consA (ex_var L 2 2 rfl rfl rfl) ax_nil)) (ex_tup (by decide) (ax_cons (ex_ix_aa (ex_var L 1 1 rfl rfl rfl) ex_int (fun _ _ => rfl)) (fun x16 => ax_nil)))) (fun _ => rfl) (fun _ => (.same (.no (.no (.no .nil)))))

theorem f__law_switches {E : ME} {kk : Nat} (hd : DefAt E "_law_switches" "_law_switches" s__law_switches ["_law_tape_here"]) (z_len : Free E "len") (z_tuple : Free E "tuple") (h__law_take : FnM E kk "_law_take" (CO1 .l (fun t => g1 (m__law_take t)))) : FnM E (kk + 1) "_law_switches" (CO1 .l (fun t => g0 (m__law_switches t))) :=
  hd.fn (N := ["_law_tape_here", "_law_pool", "_law_kept", "_law_name"]) (W := ["_law_tape_here", "_law_pool", "_law_kept"]) (G := ["_law_take", "len", "tuple"]) (Sl := ["_law_tape_here", "_law_pool", "_law_kept"]) ⟨rfl, rfl, rfl, by decide +kernel, rfl, by decide +kernel, by decide +kernel⟩ (by decide +kernel) (by decide +kernel)
    (fun Γ0 r Γ1 ⟨v, x, xs, y, h1, h2, h3⟩ => match xs, h2 with | [], _ => by subst h1; rfl)
    fun X L Γ0 r Γ1 ⟨v0, a0, xs, y, h1, h2, h3⟩ => match xs, h2 with
      | [], h2 => by
        subst h1 h3
        exact body_of (d := Empty.elim) (rr := (r, y)) (b__law_switches L z_len z_tuple h__law_take v0 a0) h2 (.ow .nil) (fun n => n.elim)

abbrev s__law_all : Stmt := top 25

def m__law_all_b (a0 : D) : Option (Ctl Empty Empty D) :=
  Ctl.seq ((pRg1 a0).bind fun xs11 => forC (fun x2 s1 => (Ctl.seq ((pIter s1).bind fun xs9 => forC (fun x4 s3 => (((pAdd x4 (.tuple [(.int 0)])).bind fun x6 => (pAdd x4 (.tuple [(.int 1)])).bind fun x7 => some (.list [x6, x7])).bind fun y8 => (pExt s3 y8).bind fun z5 => some (.nx z5) : Option (Ctl D D D))) xs9 (.list []) : Option (Ctl D D D)) fun (s10 : D) => some (.nx s10) : Option (Ctl D D D))) xs11 (.list [(.tuple [])]) : Option (Ctl D Empty D)) fun (s12 : D) => some (.rt s12)
def m__law_all (a0 : D) : Option D := Ctl.fin Empty.elim (m__law_all_b a0)

theorem b__law_all {X : Cx} {E : ME} {kk : Nat} (L : LX X E kk ["_law_count", "_law_found", "_law_k", "_law_longer", "_law_row"] ["_law_count", "_law_found", "_law_k", "_law_longer", "_law_row"] ["range"] ["_law_count", "_law_found", "_law_k", "_law_longer", "_law_row"] (defScope s__law_all)) (z_range : Free E "range") (a0 : D) :
    BS X [.fz a0, .no, .no, .no, .no] (defBody s__law_all) (m__law_all_b a0) Empty.elim Empty.elim (fun (_ : D) => [.no, .no, .no, .no, .no]) (fun x => x) := by
  unfold m__law_all_b
  refine bs_set_a L 1 1 rfl rfl (ex_lst (by decide) (ax_consA (ex_tup (by decide) ax_nil) ax_nil)) ?_
  refine bs_seq (gN' := (fun (s1 : D) => [.fz a0, .fz s1, .no, .no, .no])) (ss_for1 (gS := (fun (s1 : D) => [.fz a0, .fz s1, .no, .no, .no])) L 2 2 rfl rfl (.same (.same (.no (.no (.no .nil))))) (xi_rg1_a L 0 rfl z_range (ex_var L 0 0 rfl rfl rfl)) (fun s1 x2 => ?_)) ?_
  · 
    refine bs_newl_a L 3 3 rfl rfl (by decide) ax_nil ?_
    refine bs_seq (gN' := (fun (s3 : D) => [.fz a0, .fz s1, .fz x2, .ow .l none s3, .no])) (ss_for1 (gS := (fun (s3 : D) => [.fz a0, .fz s1, .fz x2, .ow .l none s3, .no])) L 4 4 rfl rfl (.same (.same (.same (.same (.no .nil))))) (xi_val_a (ex_var L 1 1 rfl rfl rfl)) (fun s3 x4 => ?_)) ?_
    · 
      refine bs_ext L 3 3 rfl rfl rfl (ex_lst (by decide) (ax_cons (ex_op_aa op_addD rs_add (ex_var L 4 4 rfl rfl rfl) (ex_tup (by decide) (ax_consA ex_int ax_nil))) (fun x6 => (ax_cons (ex_op_aa op_addD rs_add (ex_var L 4 4 rfl rfl rfl) (ex_tup (by decide) (ax_consA ex_int ax_nil))) (fun x7 => ax_nil))))) (fun z5 => ?_)
      exact bs_nil (.same (.same (.same (.same (.no .nil)))))
    intro s10
    refine bs_freeze 3 rfl ?_
    refine bs_set_a L 1 1 rfl rfl (ex_var L 3 3 rfl rfl rfl) ?_
    exact bs_nil (.same (.same (.no (.no (.no .nil)))))
  intro s12
  exact bs_ret_a (mk := fun x13 => x13) (ex_var L 1 1 rfl rfl rfl) (fun _ => rfl) (fun _ => (.no (.no (.no (.no (.no .nil))))))

theorem f__law_all {E : ME} {kk : Nat} (hd : DefAt E "_law_all" "_law_all" s__law_all ["_law_count"]) (z_range : Free E "range") : FnM E (kk + 1) "_law_all" (CP (g1 m__law_all)) :=
  hd.fn (N := ["_law_count", "_law_found", "_law_k", "_law_longer", "_law_row"]) (W := ["_law_count", "_law_found", "_law_k", "_law_longer", "_law_row"]) (G := ["range"]) (Sl := ["_law_count", "_law_found", "_law_k", "_law_longer", "_law_row"]) ⟨rfl, rfl, rfl, by decide +kernel, rfl, by decide +kernel, by decide +kernel⟩ (by decide +kernel) (by decide +kernel)
    (fun Γ0 r Γ1 ⟨xs, h1, h2, h3⟩ => match xs, h2 with | [_], _ => by subst h1; rfl)
    fun X L Γ0 r Γ1 ⟨xs, h1, h2, h3⟩ => match xs, h2 with
      | [a0], h2 => by
        subst h1 h3
        exact body_of (d := Empty.elim) (b__law_all L z_range a0) h2 (.no .nil) (fun n => n.elim)

abbrev s_switch : Stmt := top 1

def m_switch_b (a0 : D) : Option (Ctl Empty Empty D) :=
  some (.rt (.tuple [a0, (.bool false), (.bool true)]))
def m_switch (a0 : D) : Option D := Ctl.fin Empty.elim (m_switch_b a0)

theorem b_switch {X : Cx} {E : ME} {kk : Nat} (L : LX X E kk ["i"] ["i"] [] ["i"] (defScope s_switch)) (a0 : D) :
    BS X [.fz a0] (defBody s_switch) (m_switch_b a0) Empty.elim Empty.elim (fun (_ : D) => [.no]) (fun x => x) := by
  unfold m_switch_b
  exact bs_ret_a (mk := fun x1 => x1) (ex_tup (by decide) (ax_consA (ex_var L 0 0 rfl rfl rfl) (ax_consA ex_bool (ax_consA ex_bool ax_nil)))) (fun _ => rfl) (fun _ => (.no .nil))

theorem f_switch {E : ME} {kk : Nat} (hd : DefAt E "switch" "switch" s_switch ["i"]) : FnM E (kk + 1) "switch" (CP (g1 m_switch)) :=
  hd.fn (N := ["i"]) (W := ["i"]) (G := []) (Sl := ["i"]) ⟨rfl, rfl, rfl, by decide +kernel, rfl, by decide +kernel, by decide +kernel⟩ (by decide +kernel) (by decide +kernel)
    (fun Γ0 r Γ1 ⟨xs, h1, h2, h3⟩ => match xs, h2 with | [_], _ => by subst h1; rfl)
    fun X L Γ0 r Γ1 ⟨xs, h1, h2, h3⟩ => match xs, h2 with
      | [a0], h2 => by
        subst h1 h3
        exact body_of (d := Empty.elim) (b_switch L a0) h2 (.no .nil) (fun n => n.elim)

abbrev s_negated : Stmt := top 4

def m_negated_b (m_negated : D → Option D) (a0 : D) : Option (Ctl Empty Empty D) :=
  if (!(PyData.isTuple a0)) = true then Ctl.ex ((pNot a0).bind fun x1 => some (.rt x1) : Option (Ctl Unit Empty D)) else ((pIdx a0 (.int 0)).bind fun x2 => ((pIdx a0 (.int 1)).bind fun x3 => m_negated x3).bind fun x4 => ((pIdx a0 (.int 2)).bind fun x5 => m_negated x5).bind fun x6 => some (.tuple [x2, x4, x6])).bind fun x7 => some (.rt x7)

def m_negated : Nat → D → Option D
  | 0 => fun _ => none
  | n + 1 => fun a0 => Ctl.fin Empty.elim (m_negated_b (m_negated n) a0)

theorem b_negated {X : Cx} {E : ME} {kk : Nat} {m_negated : D → Option D} (L : LX X E kk ["d"] ["d"] ["isinstance", "tuple", "negated"] ["d"] (defScope s_negated)) (z_isinstance : Free E "isinstance") (z_tuple : Free E "tuple") (h_negated : FnM E kk "negated" (CP (g1 m_negated))) (a0 : D) :
    BS X [.fz a0] (defBody s_negated) (m_negated_b m_negated a0) Empty.elim Empty.elim (fun (_ : D) => [.no]) (fun x => x) := by
  unfold m_negated_b
  refine bs_ifx_a (gN' := fun (_ : Unit) => []) (tx_not_a (tx_bool (ex_isa_a isa_tuple L 0 1 rfl z_isinstance rfl z_tuple PyProof.Rows.boot_tuple (ex_var L 0 0 rfl rfl rfl)) (fun _ => rfl))) ?_ ?_
  · 
    exact bs_ret (mk := fun x1 => x1) (ex_not_a (ex_var L 0 0 rfl rfl rfl)) (fun _ => rfl) (fun _ => (.no .nil))
  exact bs_ret (mk := fun x7 => x7) (ex_tup (by decide) (ax_cons (ex_ix_aa (ex_var L 0 0 rfl rfl rfl) ex_int (fun _ _ => rfl)) (fun x2 => (ax_cons (ex_call L 2 rfl h_negated (Nat.le_refl _) (ax_cons (ex_ix_aa (ex_var L 0 0 rfl rfl rfl) ex_int (fun _ _ => rfl)) (fun x3 => ax_nil))) (fun x4 => (ax_cons (ex_call L 2 rfl h_negated (Nat.le_refl _) (ax_cons (ex_ix_aa (ex_var L 0 0 rfl rfl rfl) ex_int (fun _ _ => rfl)) (fun x5 => ax_nil))) (fun x6 => ax_nil))))))) (fun _ => rfl) (fun _ => (.no .nil))

theorem f_negated {E : ME} {kk : Nat} {n : Nat} (hd : DefAt E "negated" "negated" s_negated ["d"]) (z_isinstance : Free E "isinstance") (z_tuple : Free E "tuple") (h_negated : FnM E kk "negated" (CP (g1 (m_negated n)))) : FnM E (kk + 1) "negated" (CP (g1 (m_negated (n + 1)))) :=
  hd.fn (N := ["d"]) (W := ["d"]) (G := ["isinstance", "tuple", "negated"]) (Sl := ["d"]) ⟨rfl, rfl, rfl, by decide +kernel, rfl, by decide +kernel, by decide +kernel⟩ (by decide +kernel) (by decide +kernel)
    (fun Γ0 r Γ1 ⟨xs, h1, h2, h3⟩ => match xs, h2 with | [_], _ => by subst h1; rfl)
    fun X L Γ0 r Γ1 ⟨xs, h1, h2, h3⟩ => match xs, h2 with
      | [a0], h2 => by
        subst h1 h3
        exact body_of (d := Empty.elim) (b_negated L z_isinstance z_tuple h_negated a0) h2 (.no .nil) (fun n => n.elim)

theorem r_negated {E : ME} {kk : Nat} (hd_negated : DefAt E "negated" "negated" s_negated ["d"]) (z_isinstance : Free E "isinstance") (z_tuple : Free E "tuple") : ∀ n : Nat, FnM E (kk + n) "negated" (CP (g1 (m_negated n)))
  | 0 => (hd_negated.zero (cp_none (fun xs => match xs with | [_] => rfl | [] => rfl | _ :: _ :: _ => rfl))).mono (Nat.zero_le _)
  | n + 1 => by
    have ih := r_negated (E := E) (kk := kk) hd_negated z_isinstance z_tuple n
    exact f_negated hd_negated z_isinstance z_tuple ih

abbrev s_same : Stmt := top 3

def m_same_b (a0 : D) (a1 : D) : Option (Ctl Empty Empty D) :=
  ((pEq a0 a1).bind fun x1 => (pTru x1).bind fun k2 => if k2 = true then pEq (.bool (PyData.isTuple a0)) (.bool (PyData.isTuple a1)) else some x1).bind fun x3 => some (.rt x3)
def m_same (a0 : D) (a1 : D) : Option D := Ctl.fin Empty.elim (m_same_b a0 a1)

theorem b_same {X : Cx} {E : ME} {kk : Nat} (L : LX X E kk ["d", "e"] ["d", "e"] ["isinstance", "tuple"] ["d", "e"] (defScope s_same)) (z_isinstance : Free E "isinstance") (z_tuple : Free E "tuple") (a0 : D) (a1 : D) :
    BS X [.fz a0, .fz a1] (defBody s_same) (m_same_b a0 a1) Empty.elim Empty.elim (fun (_ : D) => [.no, .no]) (fun x => x) := by
  unfold m_same_b
  exact bs_ret (mk := fun x3 => x3) (ex_and (ex_cmp_aa (op_eqZ L.un) rs_eq (ex_var L 0 0 rfl rfl rfl) (ex_var L 1 1 rfl rfl rfl) (nomark _)) (ex_one (ex_cmp_aa (op_eqZ L.un) rs_eq (ex_isa_a isa_tuple L 0 1 rfl z_isinstance rfl z_tuple PyProof.Rows.boot_tuple (ex_var L 0 0 rfl rfl rfl)) (ex_isa_a isa_tuple L 0 1 rfl z_isinstance rfl z_tuple PyProof.Rows.boot_tuple (ex_var L 1 1 rfl rfl rfl)) (nomark _)))) (fun _ => rfl) (fun _ => (.no (.no .nil)))

theorem f_same {E : ME} {kk : Nat} (hd : DefAt E "same" "same" s_same ["d", "e"]) (z_isinstance : Free E "isinstance") (z_tuple : Free E "tuple") : FnM E (kk + 1) "same" (CP (g2 m_same)) :=
  hd.fn (N := ["d", "e"]) (W := ["d", "e"]) (G := ["isinstance", "tuple"]) (Sl := ["d", "e"]) ⟨rfl, rfl, rfl, by decide +kernel, rfl, by decide +kernel, by decide +kernel⟩ (by decide +kernel) (by decide +kernel)
    (fun Γ0 r Γ1 ⟨xs, h1, h2, h3⟩ => match xs, h2 with | [_, _], _ => by subst h1; rfl)
    fun X L Γ0 r Γ1 ⟨xs, h1, h2, h3⟩ => match xs, h2 with
      | [a0, a1], h2 => by
        subst h1 h3
        exact body_of (d := Empty.elim) (b_same L z_isinstance z_tuple a0 a1) h2 (.no (.no .nil)) (fun n => n.elim)

abbrev s_node : Stmt := top 2

def m_node_b (a0 : D) (a1 : D) (a2 : D) : Option (Ctl Empty Empty D) :=
  (((m_same a1 a2).bind pTru).bind fun k1 => if k1 = true then some a1 else some (.tuple [a0, a1, a2])).bind fun x2 => some (.rt x2)
def m_node (a0 : D) (a1 : D) (a2 : D) : Option D := Ctl.fin Empty.elim (m_node_b a0 a1 a2)

theorem b_node {X : Cx} {E : ME} {kk : Nat} (L : LX X E kk ["i", "low", "high"] ["i", "low", "high"] ["same"] ["i", "low", "high"] (defScope s_node)) (h_same : FnM E kk "same" (CP (g2 m_same))) (a0 : D) (a1 : D) (a2 : D) :
    BS X [.fz a0, .fz a1, .fz a2] (defBody s_node) (m_node_b a0 a1 a2) Empty.elim Empty.elim (fun (_ : D) => [.no, .no, .no]) (fun x => x) := by
  unfold m_node_b
  exact bs_ret (mk := fun x2 => x2) (ex_if (tx_val (ex_call L 0 rfl h_same (Nat.le_refl _) (ax_consA (ex_var L 1 1 rfl rfl rfl) (ax_consA (ex_var L 2 2 rfl rfl rfl) ax_nil))) (fun _ => rfl)) (ex_var L 1 1 rfl rfl rfl) (ex_tup (by decide) (ax_consA (ex_var L 0 0 rfl rfl rfl) (ax_consA (ex_var L 1 1 rfl rfl rfl) (ax_consA (ex_var L 2 2 rfl rfl rfl) ax_nil))))) (fun _ => rfl) (fun _ => (.no (.no (.no .nil))))

theorem f_node {E : ME} {kk : Nat} (hd : DefAt E "node" "node" s_node ["i", "low", "high"]) (h_same : FnM E kk "same" (CP (g2 m_same))) : FnM E (kk + 1) "node" (CP (g3 m_node)) :=
  hd.fn (N := ["i", "low", "high"]) (W := ["i", "low", "high"]) (G := ["same"]) (Sl := ["i", "low", "high"]) ⟨rfl, rfl, rfl, by decide +kernel, rfl, by decide +kernel, by decide +kernel⟩ (by decide +kernel) (by decide +kernel)
    (fun Γ0 r Γ1 ⟨xs, h1, h2, h3⟩ => match xs, h2 with | [_, _, _], _ => by subst h1; rfl)
    fun X L Γ0 r Γ1 ⟨xs, h1, h2, h3⟩ => match xs, h2 with
      | [a0, a1, a2], h2 => by
        subst h1 h3
        exact body_of (d := Empty.elim) (b_node L h_same a0 a1 a2) h2 (.no (.no (.no .nil))) (fun n => n.elim)

abbrev s_both : Stmt := top 5

def m_both_b (m_both : D → D → Option D) (a0 : D) (a1 : D) : Option (Ctl Empty Empty D) :=
  if (!(PyData.isTuple a0)) = true then Ctl.ex (((pTru a0).bind fun k1 => if k1 = true then some a1 else some (.bool false)).bind fun x2 => some (.rt x2) : Option (Ctl Unit Empty D)) else if (!(PyData.isTuple a1)) = true then Ctl.ex (((pTru a1).bind fun k3 => if k3 = true then some a0 else some (.bool false)).bind fun x4 => some (.rt x4) : Option (Ctl Unit Empty D)) else ((pIdx a0 (.int 0)).bind fun x5 => (pIdx a1 (.int 0)).bind fun y6 => (pLt x5 y6).bind dBool).bind fun k30 => if k30 = true then Ctl.ex (((pIdx a0 (.int 0)).bind fun x7 => ((pIdx a0 (.int 1)).bind fun x8 => m_both x8 a1).bind fun x9 => ((pIdx a0 (.int 2)).bind fun x10 => m_both x10 a1).bind fun x11 => m_node x7 x9 x11).bind fun x12 => some (.rt x12) : Option (Ctl Unit Empty D)) else ((pIdx a0 (.int 0)).bind fun x13 => (pIdx a1 (.int 0)).bind fun y14 => (pGt x13 y14).bind dBool).bind fun k29 => if k29 = true then Ctl.ex (((pIdx a1 (.int 0)).bind fun x15 => ((pIdx a1 (.int 1)).bind fun x16 => m_both a0 x16).bind fun x17 => ((pIdx a1 (.int 2)).bind fun x18 => m_both a0 x18).bind fun x19 => m_node x15 x17 x19).bind fun x20 => some (.rt x20) : Option (Ctl Unit Empty D)) else ((pIdx a0 (.int 0)).bind fun x21 => ((pIdx a0 (.int 1)).bind fun x22 => (pIdx a1 (.int 1)).bind fun x23 => m_both x22 x23).bind fun x24 => ((pIdx a0 (.int 2)).bind fun x25 => (pIdx a1 (.int 2)).bind fun x26 => m_both x25 x26).bind fun x27 => m_node x21 x24 x27).bind fun x28 => some (.rt x28)

def m_both : Nat → D → D → Option D
  | 0 => fun _ _ => none
  | n + 1 => fun a0 a1 => Ctl.fin Empty.elim (m_both_b (m_both n) a0 a1)

theorem b_both {X : Cx} {E : ME} {kk : Nat} {m_both : D → D → Option D} (L : LX X E kk ["d", "e"] ["d", "e"] ["isinstance", "tuple", "node", "both"] ["d", "e"] (defScope s_both)) (z_isinstance : Free E "isinstance") (z_tuple : Free E "tuple") (h_node : FnM E kk "node" (CP (g3 m_node))) (h_both : FnM E kk "both" (CP (g2 m_both))) (a0 : D) (a1 : D) :
    BS X [.fz a0, .fz a1] (defBody s_both) (m_both_b m_both a0 a1) Empty.elim Empty.elim (fun (_ : D) => [.no, .no]) (fun x => x) := by
  unfold m_both_b
  refine bs_ifx_a (gN' := fun (_ : Unit) => []) (tx_not_a (tx_bool (ex_isa_a isa_tuple L 0 1 rfl z_isinstance rfl z_tuple PyProof.Rows.boot_tuple (ex_var L 0 0 rfl rfl rfl)) (fun _ => rfl))) ?_ ?_
  · 
    exact bs_ret (mk := fun x2 => x2) (ex_if (tx_val_a (ex_var L 0 0 rfl rfl rfl) (fun _ => rfl)) (ex_var L 1 1 rfl rfl rfl) ex_bool) (fun _ => rfl) (fun _ => (.no (.no .nil)))
  refine bs_ifx_a (gN' := fun (_ : Unit) => []) (tx_not_a (tx_bool (ex_isa_a isa_tuple L 0 1 rfl z_isinstance rfl z_tuple PyProof.Rows.boot_tuple (ex_var L 1 1 rfl rfl rfl)) (fun _ => rfl))) ?_ ?_
  · 
    exact bs_ret (mk := fun x4 => x4) (ex_if (tx_val_a (ex_var L 1 1 rfl rfl rfl) (fun _ => rfl)) (ex_var L 0 0 rfl rfl rfl) ex_bool) (fun _ => rfl) (fun _ => (.no (.no .nil)))
  refine bs_ifx (gN' := fun (_ : Unit) => []) (tx_cmp (op_ltZ L.un) rs_lt (ex_ix_aa (ex_var L 0 0 rfl rfl rfl) ex_int (fun _ _ => rfl)) (ex_ix_aa (ex_var L 1 1 rfl rfl rfl) ex_int (fun _ _ => rfl)) (nomark _)) ?_ ?_
  · 
    exact bs_ret (mk := fun x12 => x12) (ex_call L 2 rfl h_node (Nat.le_refl _) (ax_cons (ex_ix_aa (ex_var L 0 0 rfl rfl rfl) ex_int (fun _ _ => rfl)) (fun x7 => (ax_cons (ex_call L 3 rfl h_both (Nat.le_refl _) (ax_cons (ex_ix_aa (ex_var L 0 0 rfl rfl rfl) ex_int (fun _ _ => rfl)) (fun x8 => (ax_consA (ex_var L 1 1 rfl rfl rfl) ax_nil)))) (fun x9 => (ax_cons (ex_call L 3 rfl h_both (Nat.le_refl _) (ax_cons (ex_ix_aa (ex_var L 0 0 rfl rfl rfl) ex_int (fun _ _ => rfl)) (fun x10 => (ax_consA (ex_var L 1 1 rfl rfl rfl) ax_nil)))) (fun x11 => ax_nil))))))) (fun _ => rfl) (fun _ => (.no (.no .nil)))
  refine bs_ifx (gN' := fun (_ : Unit) => []) (tx_cmp (op_gtZ L.un) rs_gt (ex_ix_aa (ex_var L 0 0 rfl rfl rfl) ex_int (fun _ _ => rfl)) (ex_ix_aa (ex_var L 1 1 rfl rfl rfl) ex_int (fun _ _ => rfl)) (nomark _)) ?_ ?_
  · 
    exact bs_ret (mk := fun x20 => x20) (ex_call L 2 rfl h_node (Nat.le_refl _) (ax_cons (ex_ix_aa (ex_var L 1 1 rfl rfl rfl) ex_int (fun _ _ => rfl)) (fun x15 => (ax_cons (ex_call L 3 rfl h_both (Nat.le_refl _) (ax_consA (ex_var L 0 0 rfl rfl rfl) (ax_cons (ex_ix_aa (ex_var L 1 1 rfl rfl rfl) ex_int (fun _ _ => rfl)) (fun x16 => ax_nil)))) (fun x17 => (ax_cons (ex_call L 3 rfl h_both (Nat.le_refl _) (ax_consA (ex_var L 0 0 rfl rfl rfl) (ax_cons (ex_ix_aa (ex_var L 1 1 rfl rfl rfl) ex_int (fun _ _ => rfl)) (fun x18 => ax_nil)))) (fun x19 => ax_nil))))))) (fun _ => rfl) (fun _ => (.no (.no .nil)))
  exact bs_ret (mk := fun x28 => x28) (ex_call L 2 rfl h_node (Nat.le_refl _) (ax_cons (ex_ix_aa (ex_var L 0 0 rfl rfl rfl) ex_int (fun _ _ => rfl)) (fun x21 => (ax_cons (ex_call L 3 rfl h_both (Nat.le_refl _) (ax_cons (ex_ix_aa (ex_var L 0 0 rfl rfl rfl) ex_int (fun _ _ => rfl)) (fun x22 => (ax_cons (ex_ix_aa (ex_var L 1 1 rfl rfl rfl) ex_int (fun _ _ => rfl)) (fun x23 => ax_nil))))) (fun x24 => (ax_cons (ex_call L 3 rfl h_both (Nat.le_refl _) (ax_cons (ex_ix_aa (ex_var L 0 0 rfl rfl rfl) ex_int (fun _ _ => rfl)) (fun x25 => (ax_cons (ex_ix_aa (ex_var L 1 1 rfl rfl rfl) ex_int (fun _ _ => rfl)) (fun x26 => ax_nil))))) (fun x27 => ax_nil))))))) (fun _ => rfl) (fun _ => (.no (.no .nil)))

theorem f_both {E : ME} {kk : Nat} {n : Nat} (hd : DefAt E "both" "both" s_both ["d", "e"]) (z_isinstance : Free E "isinstance") (z_tuple : Free E "tuple") (h_node : FnM E kk "node" (CP (g3 m_node))) (h_both : FnM E kk "both" (CP (g2 (m_both n)))) : FnM E (kk + 1) "both" (CP (g2 (m_both (n + 1)))) :=
  hd.fn (N := ["d", "e"]) (W := ["d", "e"]) (G := ["isinstance", "tuple", "node", "both"]) (Sl := ["d", "e"]) ⟨rfl, rfl, rfl, by decide +kernel, rfl, by decide +kernel, by decide +kernel⟩ (by decide +kernel) (by decide +kernel)
    (fun Γ0 r Γ1 ⟨xs, h1, h2, h3⟩ => match xs, h2 with | [_, _], _ => by subst h1; rfl)
    fun X L Γ0 r Γ1 ⟨xs, h1, h2, h3⟩ => match xs, h2 with
      | [a0, a1], h2 => by
        subst h1 h3
        exact body_of (d := Empty.elim) (b_both L z_isinstance z_tuple h_node h_both a0 a1) h2 (.no (.no .nil)) (fun n => n.elim)

theorem r_both {E : ME} {kk : Nat} (hd_both : DefAt E "both" "both" s_both ["d", "e"]) (z_isinstance : Free E "isinstance") (z_tuple : Free E "tuple") (h_node : FnM E kk "node" (CP (g3 m_node))) : ∀ n : Nat, FnM E (kk + n) "both" (CP (g2 (m_both n)))
  | 0 => (hd_both.zero (cp_none (fun xs => match xs with | [_, _] => rfl | [] => rfl | [_] => rfl | _ :: _ :: _ :: _ => rfl))).mono (Nat.zero_le _)
  | n + 1 => by
    have ih := r_both (E := E) (kk := kk) hd_both z_isinstance z_tuple h_node n
    exact f_both hd_both z_isinstance z_tuple (h_node.mono (Nat.le_add_right _ _)) ih

abbrev s_either : Stmt := top 6

def m_either_b (a0 : D) (a1 : D) : Option (Ctl Empty Empty D) :=
  (((m_negated 12 a0).bind fun x1 => (m_negated 12 a1).bind fun x2 => m_both 12 x1 x2).bind fun x3 => m_negated 12 x3).bind fun x4 => some (.rt x4)
def m_either (a0 : D) (a1 : D) : Option D := Ctl.fin Empty.elim (m_either_b a0 a1)

theorem b_either {X : Cx} {E : ME} {kk : Nat} (L : LX X E kk ["d", "e"] ["d", "e"] ["negated", "both"] ["d", "e"] (defScope s_either)) (h_both : FnM E kk "both" (CP (g2 (m_both 12)))) (h_negated : FnM E kk "negated" (CP (g1 (m_negated 12)))) (a0 : D) (a1 : D) :
    BS X [.fz a0, .fz a1] (defBody s_either) (m_either_b a0 a1) Empty.elim Empty.elim (fun (_ : D) => [.no, .no]) (fun x => x) := by
  unfold m_either_b
  exact bs_ret (mk := fun x4 => x4) (ex_call L 0 rfl h_negated (Nat.le_refl _) (ax_cons (ex_call L 1 rfl h_both (Nat.le_refl _) (ax_cons (ex_call L 0 rfl h_negated (Nat.le_refl _) (ax_consA (ex_var L 0 0 rfl rfl rfl) ax_nil)) (fun x1 => (ax_cons (ex_call L 0 rfl h_negated (Nat.le_refl _) (ax_consA (ex_var L 1 1 rfl rfl rfl) ax_nil)) (fun x2 => ax_nil))))) (fun x3 => ax_nil))) (fun _ => rfl) (fun _ => (.no (.no .nil)))

theorem f_either {E : ME} {kk : Nat} (hd : DefAt E "either" "either" s_either ["d", "e"]) (h_both : FnM E kk "both" (CP (g2 (m_both 12)))) (h_negated : FnM E kk "negated" (CP (g1 (m_negated 12)))) : FnM E (kk + 1) "either" (CP (g2 m_either)) :=
  hd.fn (N := ["d", "e"]) (W := ["d", "e"]) (G := ["negated", "both"]) (Sl := ["d", "e"]) ⟨rfl, rfl, rfl, by decide +kernel, rfl, by decide +kernel, by decide +kernel⟩ (by decide +kernel) (by decide +kernel)
    (fun Γ0 r Γ1 ⟨xs, h1, h2, h3⟩ => match xs, h2 with | [_, _], _ => by subst h1; rfl)
    fun X L Γ0 r Γ1 ⟨xs, h1, h2, h3⟩ => match xs, h2 with
      | [a0, a1], h2 => by
        subst h1 h3
        exact body_of (d := Empty.elim) (b_either L h_both h_negated a0 a1) h2 (.no (.no .nil)) (fun n => n.elim)

abbrev s_diagram_of : Stmt := top 7

def m_diagram_of_b (m_diagram_of : D → D → Option D) (a0 : D) (a1 : D) : Option (Ctl Empty Empty D) :=
  (pIdx a1 (.int 0)).bind fun x1 => (((pEq x1 (S "yes")).bind dBool).bind fun k2 => if k2 = true then some true else (pEq x1 (S "no")).bind dBool).bind fun k17 => if k17 = true then Ctl.ex ((pEq x1 (S "yes")).bind fun x3 => some (.rt x3) : Option (Ctl Unit Empty D)) else ((pEq x1 (S "switch")).bind dBool).bind fun k16 => if k16 = true then Ctl.ex (((if strT a0 = true then (pIdx a1 (.int 1)).bind fun x5 => pIndexT a0 [x5] else none).bind fun x6 => m_switch x6).bind fun x7 => some (.rt x7) : Option (Ctl Unit Empty D)) else ((pIdx a1 (.int 1)).bind fun x8 => m_diagram_of a0 x8).bind fun x9 => ((pEq x1 (S "not")).bind dBool).bind fun k15 => if k15 = true then Ctl.ex ((m_negated 12 x9).bind fun x10 => some (.rt x10) : Option (Ctl Unit Empty D)) else ((pIdx a1 (.int 2)).bind fun x11 => m_diagram_of a0 x11).bind fun x12 => (((pEq x1 (S "and")).bind dBool).bind fun k13 => if k13 = true then m_both 12 x9 x12 else m_either x9 x12).bind fun x14 => some (.rt x14)

def m_diagram_of : Nat → D → D → Option D
  | 0 => fun _ _ => none
  | n + 1 => fun a0 a1 => Ctl.fin Empty.elim (m_diagram_of_b (m_diagram_of n) a0 a1)

theorem b_diagram_of {X : Cx} {E : ME} {kk : Nat} {m_diagram_of : D → D → Option D} (L : LX X E kk ["switches", "formula", "tag", "first", "second"] ["switches", "formula", "tag", "first", "second"] ["switch", "diagram_of", "negated", "both", "either"] ["switches", "formula", "tag", "first", "second"] (defScope s_diagram_of)) (h_both : FnM E kk "both" (CP (g2 (m_both 12)))) (h_either : FnM E kk "either" (CP (g2 m_either))) (h_negated : FnM E kk "negated" (CP (g1 (m_negated 12)))) (h_switch : FnM E kk "switch" (CP (g1 m_switch))) (h_diagram_of : FnM E kk "diagram_of" (CP (g2 m_diagram_of))) (a0 : D) (a1 : D) :
    BS X [.fz a0, .fz a1, .no, .no, .no] (defBody s_diagram_of) (m_diagram_of_b m_diagram_of a0 a1) Empty.elim Empty.elim (fun (_ : D) => [.no, .no, .no, .no, .no]) (fun x => x) := by
  unfold m_diagram_of_b
  refine bs_set L 2 2 rfl rfl (ex_ix_aa (ex_var L 1 1 rfl rfl rfl) ex_int (fun _ _ => rfl)) (fun x1 => ?_)
  refine bs_ifx (gN' := fun (_ : Unit) => []) (tx_w (wx_or (tx_cmp_aa (op_eqZ L.un) rs_eq (ex_var L 2 2 rfl rfl rfl) ex_str (nomark _)) (wx_or1 (tx_cmp_aa (op_eqZ L.un) rs_eq (ex_var L 2 2 rfl rfl rfl) ex_str (nomark _))))) ?_ ?_
  · 
    exact bs_ret (mk := fun x3 => x3) (ex_cmp_aa (op_eqZ L.un) rs_eq (ex_var L 2 2 rfl rfl rfl) ex_str (nomark _)) (fun _ => rfl) (fun _ => (.no (.no (.no (.no (.no .nil))))))
  refine bs_ifx (gN' := fun (_ : Unit) => []) (tx_cmp_aa (op_eqZ L.un) rs_eq (ex_var L 2 2 rfl rfl rfl) ex_str (nomark _)) ?_ ?_
  · 
    exact bs_ret (mk := fun x7 => x7) (ex_call L 0 rfl h_switch (Nat.le_refl _) (ax_cons (ex_mt_a (g := pIndexT) PySem.F.plainAttrs_tuple PySem.F.slot_tuple_index PySem.F.type_tuple_index mt_tup_index rs_indexT knd_strT (ex_var L 0 0 rfl rfl rfl) (ax_cons (ex_ix_aa (ex_var L 1 1 rfl rfl rfl) ex_int (fun _ _ => rfl)) (fun x5 => ax_nil))) (fun x6 => ax_nil))) (fun _ => rfl) (fun _ => (.no (.no (.no (.no (.no .nil))))))
  refine bs_set L 3 3 rfl rfl (ex_call L 1 rfl h_diagram_of (Nat.le_refl _) (ax_consA (ex_var L 0 0 rfl rfl rfl) (ax_cons (ex_ix_aa (ex_var L 1 1 rfl rfl rfl) ex_int (fun _ _ => rfl)) (fun x8 => ax_nil)))) (fun x9 => ?_)
  refine bs_ifx (gN' := fun (_ : Unit) => []) (tx_cmp_aa (op_eqZ L.un) rs_eq (ex_var L 2 2 rfl rfl rfl) ex_str (nomark _)) ?_ ?_
  · 
    exact bs_ret (mk := fun x10 => x10) (ex_call L 2 rfl h_negated (Nat.le_refl _) (ax_consA (ex_var L 3 3 rfl rfl rfl) ax_nil)) (fun _ => rfl) (fun _ => (.no (.no (.no (.no (.no .nil))))))
  refine bs_set L 4 4 rfl rfl (ex_call L 1 rfl h_diagram_of (Nat.le_refl _) (ax_consA (ex_var L 0 0 rfl rfl rfl) (ax_cons (ex_ix_aa (ex_var L 1 1 rfl rfl rfl) ex_int (fun _ _ => rfl)) (fun x11 => ax_nil)))) (fun x12 => ?_)
  exact bs_ret (mk := fun x14 => x14) (ex_if (tx_cmp_aa (op_eqZ L.un) rs_eq (ex_var L 2 2 rfl rfl rfl) ex_str (nomark _)) (ex_call L 3 rfl h_both (Nat.le_refl _) (ax_consA (ex_var L 3 3 rfl rfl rfl) (ax_consA (ex_var L 4 4 rfl rfl rfl) ax_nil))) (ex_call L 4 rfl h_either (Nat.le_refl _) (ax_consA (ex_var L 3 3 rfl rfl rfl) (ax_consA (ex_var L 4 4 rfl rfl rfl) ax_nil)))) (fun _ => rfl) (fun _ => (.no (.no (.no (.no (.no .nil))))))

theorem f_diagram_of {E : ME} {kk : Nat} {n : Nat} (hd : DefAt E "diagram_of" "diagram_of" s_diagram_of ["switches", "formula"]) (h_both : FnM E kk "both" (CP (g2 (m_both 12)))) (h_either : FnM E kk "either" (CP (g2 m_either))) (h_negated : FnM E kk "negated" (CP (g1 (m_negated 12)))) (h_switch : FnM E kk "switch" (CP (g1 m_switch))) (h_diagram_of : FnM E kk "diagram_of" (CP (g2 (m_diagram_of n)))) : FnM E (kk + 1) "diagram_of" (CP (g2 (m_diagram_of (n + 1)))) :=
  hd.fn (N := ["switches", "formula", "tag", "first", "second"]) (W := ["switches", "formula", "tag", "first", "second"]) (G := ["switch", "diagram_of", "negated", "both", "either"]) (Sl := ["switches", "formula", "tag", "first", "second"]) ⟨rfl, rfl, rfl, by decide +kernel, rfl, by decide +kernel, by decide +kernel⟩ (by decide +kernel) (by decide +kernel)
    (fun Γ0 r Γ1 ⟨xs, h1, h2, h3⟩ => match xs, h2 with | [_, _], _ => by subst h1; rfl)
    fun X L Γ0 r Γ1 ⟨xs, h1, h2, h3⟩ => match xs, h2 with
      | [a0, a1], h2 => by
        subst h1 h3
        exact body_of (d := Empty.elim) (b_diagram_of L h_both h_either h_negated h_switch h_diagram_of a0 a1) h2 (.no (.no .nil)) (fun n => n.elim)

theorem r_diagram_of {E : ME} {kk : Nat} (hd_diagram_of : DefAt E "diagram_of" "diagram_of" s_diagram_of ["switches", "formula"]) (h_both : FnM E kk "both" (CP (g2 (m_both 12)))) (h_either : FnM E kk "either" (CP (g2 m_either))) (h_negated : FnM E kk "negated" (CP (g1 (m_negated 12)))) (h_switch : FnM E kk "switch" (CP (g1 m_switch))) : ∀ n : Nat, FnM E (kk + n) "diagram_of" (CP (g2 (m_diagram_of n)))
  | 0 => (hd_diagram_of.zero (cp_none (fun xs => match xs with | [_, _] => rfl | [] => rfl | [_] => rfl | _ :: _ :: _ :: _ => rfl))).mono (Nat.zero_le _)
  | n + 1 => by
    have ih := r_diagram_of (E := E) (kk := kk) hd_diagram_of h_both h_either h_negated h_switch n
    exact f_diagram_of hd_diagram_of (h_both.mono (Nat.le_add_right _ _)) (h_either.mono (Nat.le_add_right _ _)) (h_negated.mono (Nat.le_add_right _ _)) (h_switch.mono (Nat.le_add_right _ _)) ih

abbrev s_holds : Stmt := top 8

def m_holds_b (a0 : D) (a1 : D) : Option (Ctl Empty Empty D) :=
  Ctl.seq (whileC (fun s1 => some (PyData.isTuple s1)) (fun s1 => (((((pIdx s1 (.int 0)).bind fun y2 => pIdx a1 y2).bind fun y3 => pAdd (.int 1) y3).bind fun y4 => pIdx s1 y4).bind fun x5 => some (.nx x5) : Option (Ctl D D D))) 100000 a0 : Option (Ctl D Empty D)) fun (s6 : D) => some (.rt s6)
def m_holds (a0 : D) (a1 : D) : Option D := Ctl.fin Empty.elim (m_holds_b a0 a1)

theorem b_holds {X : Cx} {E : ME} {kk : Nat} (L : LX X E kk ["d", "configuration"] ["d", "configuration"] ["isinstance", "tuple"] ["d", "configuration"] (defScope s_holds)) (z_isinstance : Free E "isinstance") (z_tuple : Free E "tuple") (a0 : D) (a1 : D) :
    BS X [.fz a0, .fz a1] (defBody s_holds) (m_holds_b a0 a1) Empty.elim Empty.elim (fun (_ : D) => [.no, .no]) (fun x => x) := by
  unfold m_holds_b
  refine bs_seq (gN' := (fun (s1 : D) => [.fz s1, .fz a1])) (ss_while (gS := (fun (s1 : D) => [.fz s1, .fz a1])) L 100000 (.same (.same .nil)) (fun s1 => (tx_bool (ex_isa_a isa_tuple L 0 1 rfl z_isinstance rfl z_tuple PyProof.Rows.boot_tuple (ex_var L 0 0 rfl rfl rfl)) (fun _ => rfl))) (fun s1 => ?_)) ?_
  · 
    refine bs_set L 0 0 rfl rfl (ex_ix_ax (ex_var L 0 0 rfl rfl rfl) (ex_op_ax op_addD rs_add ex_int (ex_ix_ax (ex_var L 1 1 rfl rfl rfl) (ex_ix_aa (ex_var L 0 0 rfl rfl rfl) ex_int (fun _ _ => rfl)) (fun _ _ => rfl))) (fun _ _ => rfl)) (fun x5 => ?_)
    exact bs_nil (.same (.same .nil))
  intro s6
  exact bs_ret_a (mk := fun x7 => x7) (ex_var L 0 0 rfl rfl rfl) (fun _ => rfl) (fun _ => (.no (.no .nil)))

theorem f_holds {E : ME} {kk : Nat} (hd : DefAt E "holds" "holds" s_holds ["d", "configuration"]) (z_isinstance : Free E "isinstance") (z_tuple : Free E "tuple") : FnM E (kk + 1) "holds" (CP (g2 m_holds)) :=
  hd.fn (N := ["d", "configuration"]) (W := ["d", "configuration"]) (G := ["isinstance", "tuple"]) (Sl := ["d", "configuration"]) ⟨rfl, rfl, rfl, by decide +kernel, rfl, by decide +kernel, by decide +kernel⟩ (by decide +kernel) (by decide +kernel)
    (fun Γ0 r Γ1 ⟨xs, h1, h2, h3⟩ => match xs, h2 with | [_, _], _ => by subst h1; rfl)
    fun X L Γ0 r Γ1 ⟨xs, h1, h2, h3⟩ => match xs, h2 with
      | [a0, a1], h2 => by
        subst h1 h3
        exact body_of (d := Empty.elim) (b_holds L z_isinstance z_tuple a0 a1) h2 (.no (.no .nil)) (fun n => n.elim)

abbrev s_chosen : Stmt := top 9

def m_chosen_b (a0 : D) (a1 : D) : Option (Ctl Empty Empty D) :=
  Ctl.seq ((pRg1 a1).bind fun xs20 => forC (fun x2 s1 => (Ctl.seq ((pIter s1).bind fun xs17 => forC (fun y18 s3 => (pUn2 y18).bind fun x4 => (Ctl.seq ((pIter (.tuple [(.int 0), (.int 1)])).bind fun xs15 => forC (fun x6 s5 => (((if (PyData.isTuple x4.2) = true then (pIdx x4.2 (.int 0)).bind fun x7 => (pEq x7 x2).bind dBool else some false).bind fun k9 => if k9 = true then (pAdd (.int 1) x6).bind fun y8 => pIdx x4.2 y8 else some x4.2).bind fun x10 => ((pIsNot x10 (.bool false)).bind dBool).bind fun k14 => if k14 = true then ((pAdd x4.1 (.tuple [x6])).bind fun x12 => some (.tuple [x12, x10])).bind fun y13 => (pApp s5 y13).bind fun z11 => some (.nx z11) else some (.nx s5) : Option (Ctl D D D))) xs15 s3 : Option (Ctl D D D)) fun (s16 : D) => some (.nx s16) : Option (Ctl D D D))) xs17 (.list []) : Option (Ctl D D D)) fun (s19 : D) => some (.nx s19) : Option (Ctl D D D))) xs20 (.list [(.tuple [(.tuple []), a0])]) : Option (Ctl D Empty D)) fun (s21 : D) => ((pIter s21).bind fun xs23 => (lcTI pUn2 (fun x24 => (pIs x24.2 (.bool true)).bind dBool) (fun x24 => some x24.1) xs23).map .list).bind fun x25 => some (.rt x25)
def m_chosen (a0 : D) (a1 : D) : Option D := Ctl.fin Empty.elim (m_chosen_b a0 a1)

theorem b_chosen {X : Cx} {E : ME} {kk : Nat} (L : LX X E kk ["d", "count", "found", "i", "longer", "configuration", "rest", "bit", "inner"] ["d", "count", "found", "i", "longer", "configuration", "rest", "bit", "inner"] ["range", "isinstance", "tuple"] ["d", "count", "found", "i", "longer", "configuration", "rest", "bit", "inner"] (defScope s_chosen)) (z_isinstance : Free E "isinstance") (z_range : Free E "range") (z_tuple : Free E "tuple") (a0 : D) (a1 : D) :
    BS X [.fz a0, .fz a1, .no, .no, .no, .no, .no, .no, .no] (defBody s_chosen) (m_chosen_b a0 a1) Empty.elim Empty.elim (fun (_ : D) => [.no, .no, .no, .no, .no, .no, .no, .no, .no]) (fun x => x) := by
  unfold m_chosen_b
  refine bs_set_a L 2 2 rfl rfl (ex_lst (by decide) (ax_consA (ex_tup (by decide) (ax_consA (ex_tup (by decide) ax_nil) (ax_consA (ex_var L 0 0 rfl rfl rfl) ax_nil))) ax_nil)) ?_
  refine bs_seq (gN' := (fun (s1 : D) => [.fz a0, .fz a1, .fz s1, .no, .no, .no, .no, .no, .no])) (ss_for1 (gS := (fun (s1 : D) => [.fz a0, .fz a1, .fz s1, .no, .no, .no, .no, .no, .no])) L 3 3 rfl rfl (.same (.same (.same (.no (.no (.no (.no (.no (.no .nil))))))))) (xi_rg1_a L 0 rfl z_range (ex_var L 1 1 rfl rfl rfl)) (fun s1 x2 => ?_)) ?_
  · 
    refine bs_newl_a L 4 4 rfl rfl (by decide) ax_nil ?_
    refine bs_seq (gN' := (fun (s3 : D) => [.fz a0, .fz a1, .fz s1, .fz x2, .ow .l none s3, .no, .no, .no, .no])) (ss_for (gS := (fun (s3 : D) => [.fz a0, .fz a1, .fz s1, .fz x2, .ow .l none s3, .no, .no, .no, .no])) L (.same (.same (.same (.same (.same (.no (.no (.no (.no .nil))))))))) (xi_val_a (ex_var L 2 2 rfl rfl rfl)) (fun _ => (gx_tup2 L 5 5 6 6 rfl rfl rfl rfl)) (fun s3 x4 => ?_)) ?_
    · 
      refine bs_seq (gN' := (fun (s5 : D) => [.fz a0, .fz a1, .fz s1, .fz x2, .ow .l none s5, .fz x4.1, .fz x4.2, .no, .no])) (ss_for1 (gS := (fun (s5 : D) => [.fz a0, .fz a1, .fz s1, .fz x2, .ow .l none s5, .fz x4.1, .fz x4.2, .no, .no])) L 7 7 rfl rfl (.same (.same (.same (.same (.same (.same (.same (.no (.no .nil))))))))) (xi_val_a (ex_tup (by decide) (ax_consA ex_int (ax_consA ex_int ax_nil)))) (fun s5 x6 => ?_)) ?_
      · 
        refine bs_set L 8 8 rfl rfl (ex_if (tx_w (wx_and_a (tx_bool (ex_isa_a isa_tuple L 1 2 rfl z_isinstance rfl z_tuple PyProof.Rows.boot_tuple (ex_var L 6 6 rfl rfl rfl)) (fun _ => rfl)) (wx_and1 (tx_cmp_xa (op_eqZ L.un) rs_eq (ex_ix_aa (ex_var L 6 6 rfl rfl rfl) ex_int (fun _ _ => rfl)) (ex_var L 3 3 rfl rfl rfl) (nomark _))))) (ex_ix_ax (ex_var L 6 6 rfl rfl rfl) (ex_op_aa op_addD rs_add ex_int (ex_var L 7 7 rfl rfl rfl)) (fun _ _ => rfl)) (ex_var L 6 6 rfl rfl rfl)) (fun x10 => ?_)
        refine bs_one (ss_if (tx_cmp_aa op_isNotV rs_isNot (ex_var L 8 8 rfl rfl rfl) ex_bool (nomark _)) ?_ ?_)
        · 
          refine bs_app L 4 4 rfl rfl rfl (ex_tup (by decide) (ax_cons (ex_op_aa op_addD rs_add (ex_var L 5 5 rfl rfl rfl) (ex_tup (by decide) (ax_consA (ex_var L 7 7 rfl rfl rfl) ax_nil))) (fun x12 => (ax_consA (ex_var L 8 8 rfl rfl rfl) ax_nil)))) (fun z11 => ?_)
          exact bs_nil (.same (.same (.same (.same (.same (.same (.same (.no (.no .nil)))))))))
        · 
          exact bs_nil (.same (.same (.same (.same (.same (.same (.same (.no (.no .nil)))))))))
      intro s16
      exact bs_nil (.same (.same (.same (.same (.same (.no (.no (.no (.no .nil)))))))))
    intro s19
    refine bs_freeze 4 rfl ?_
    refine bs_set_a L 2 2 rfl rfl (ex_var L 4 4 rfl rfl rfl) ?_
    exact bs_nil (.same (.same (.same (.no (.no (.no (.no (.no (.no .nil)))))))))
  intro s21
  exact bs_ret (mk := fun x25 => x25) ((ex_lcTI (Wb := ["configuration", "rest"]) (Gb := []) (Sb := ["configuration", "rest"]) L [("configuration", 5), ("rest", 6)] (by decide +kernel) (xi_val_a (ex_var L 2 2 rfl rfl rfl)) (fun _ L22 => (gy_tup2 L22 5 0 6 1 rfl rfl rfl rfl)) (fun _ L22 x24 => (tx_cmp_aa op_isV rs_is (ex_var L22 6 1 rfl rfl rfl) ex_bool (nomark _))) (fun _ L22 x24 => (ex_var L22 5 0 rfl rfl rfl)))).pe (fun _ => rfl) (fun _ => (.no (.no (.no (.no (.no (.no (.no (.no (.no .nil))))))))))

theorem f_chosen {E : ME} {kk : Nat} (hd : DefAt E "chosen" "chosen" s_chosen ["d", "count"]) (z_isinstance : Free E "isinstance") (z_range : Free E "range") (z_tuple : Free E "tuple") : FnM E (kk + 1) "chosen" (CP (g2 m_chosen)) :=
  hd.fn (N := ["d", "count", "found", "i", "longer", "configuration", "rest", "bit", "inner"]) (W := ["d", "count", "found", "i", "longer", "configuration", "rest", "bit", "inner"]) (G := ["range", "isinstance", "tuple"]) (Sl := ["d", "count", "found", "i", "longer", "configuration", "rest", "bit", "inner"]) ⟨rfl, rfl, rfl, by decide +kernel, rfl, by decide +kernel, by decide +kernel⟩ (by decide +kernel) (by decide +kernel)
    (fun Γ0 r Γ1 ⟨xs, h1, h2, h3⟩ => match xs, h2 with | [_, _], _ => by subst h1; rfl)
    fun X L Γ0 r Γ1 ⟨xs, h1, h2, h3⟩ => match xs, h2 with
      | [a0, a1], h2 => by
        subst h1 h3
        exact body_of (d := Empty.elim) (b_chosen L z_isinstance z_range z_tuple a0 a1) h2 (.no (.no .nil)) (fun n => n.elim)

abbrev s_least : Stmt := top 10

def m_least_b (a0 : D) (a1 : D) : Option (Ctl Empty Empty D) :=
  (m_chosen a0 a1).bind fun x1 => ((pTru x1).bind fun k2 => if k2 = true then pIdx x1 (.int 0) else some (.none)).bind fun x3 => some (.rt x3)
def m_least (a0 : D) (a1 : D) : Option D := Ctl.fin Empty.elim (m_least_b a0 a1)

theorem b_least {X : Cx} {E : ME} {kk : Nat} (L : LX X E kk ["d", "count", "found"] ["d", "count", "found"] ["chosen"] ["d", "count", "found"] (defScope s_least)) (h_chosen : FnM E kk "chosen" (CP (g2 m_chosen))) (a0 : D) (a1 : D) :
    BS X [.fz a0, .fz a1, .no] (defBody s_least) (m_least_b a0 a1) Empty.elim Empty.elim (fun (_ : D) => [.no, .no, .no]) (fun x => x) := by
  unfold m_least_b
  refine bs_set L 2 2 rfl rfl (ex_call L 0 rfl h_chosen (Nat.le_refl _) (ax_consA (ex_var L 0 0 rfl rfl rfl) (ax_consA (ex_var L 1 1 rfl rfl rfl) ax_nil))) (fun x1 => ?_)
  exact bs_ret (mk := fun x3 => x3) (ex_if (tx_val_a (ex_var L 2 2 rfl rfl rfl) (fun _ => rfl)) (ex_ix_aa (ex_var L 2 2 rfl rfl rfl) ex_int (fun _ _ => rfl)) ex_none) (fun _ => rfl) (fun _ => (.no (.no (.no .nil))))

theorem f_least {E : ME} {kk : Nat} (hd : DefAt E "least" "least" s_least ["d", "count"]) (h_chosen : FnM E kk "chosen" (CP (g2 m_chosen))) : FnM E (kk + 1) "least" (CP (g2 m_least)) :=
  hd.fn (N := ["d", "count", "found"]) (W := ["d", "count", "found"]) (G := ["chosen"]) (Sl := ["d", "count", "found"]) ⟨rfl, rfl, rfl, by decide +kernel, rfl, by decide +kernel, by decide +kernel⟩ (by decide +kernel) (by decide +kernel)
    (fun Γ0 r Γ1 ⟨xs, h1, h2, h3⟩ => match xs, h2 with | [_, _], _ => by subst h1; rfl)
    fun X L Γ0 r Γ1 ⟨xs, h1, h2, h3⟩ => match xs, h2 with
      | [a0, a1], h2 => by
        subst h1 h3
        exact body_of (d := Empty.elim) (b_least L h_chosen a0 a1) h2 (.no (.no .nil)) (fun n => n.elim)

abbrev s__law_same : Stmt := top 28

def m__law_same_b (m__law_same : D → D → Option D) (a0 : D) (a1 : D) : Option (Ctl Empty Empty D) :=
  (if (PyData.isBool a1) = true then some true else some (PyData.isBool a0)).bind fun k15 => if k15 = true then Ctl.ex ((if (PyData.isBool a0) = true then if (PyData.isBool a1) = true then pEq a0 a1 else some (.bool (PyData.isBool a1)) else some (.bool (PyData.isBool a0))).bind fun x1 => some (.rt x1) : Option (Ctl Unit Empty D)) else (if (!(PyData.isTuple a0)) = true then some true else ((pLen a0).bind fun x2 => (pNe x2 (.int 3)).bind dBool).bind fun k5 => if k5 = true then some true else (pIdx a0 (.int 0)).bind fun x3 => (pIdx a1 (.int 0)).bind fun y4 => (pNe x3 y4).bind dBool).bind fun k14 => if k14 = true then Ctl.ex (some (.rt (.bool false)) : Option (Ctl Unit Empty D)) else (((pIdx a0 (.int 1)).bind fun x7 => (pIdx a1 (.int 1)).bind fun x8 => m__law_same x7 x8).bind fun x11 => (pTru x11).bind fun k12 => if k12 = true then (pIdx a0 (.int 2)).bind fun x9 => (pIdx a1 (.int 2)).bind fun x10 => m__law_same x9 x10 else some x11).bind fun x13 => some (.rt x13)

def m__law_same : Nat → D → D → Option D
  | 0 => fun _ _ => none
  | n + 1 => fun a0 a1 => Ctl.fin Empty.elim (m__law_same_b (m__law_same n) a0 a1)

theorem b__law_same {X : Cx} {E : ME} {kk : Nat} {m__law_same : D → D → Option D} (L : LX X E kk ["_law_told", "_law_due"] ["_law_told", "_law_due"] ["isinstance", "bool", "tuple", "len", "_law_same"] ["_law_told", "_law_due"] (defScope s__law_same)) (z_bool : Free E "bool") (z_isinstance : Free E "isinstance") (z_len : Free E "len") (z_tuple : Free E "tuple") (h__law_same : FnM E kk "_law_same" (CP (g2 m__law_same))) (a0 : D) (a1 : D) :
    BS X [.fz a0, .fz a1] (defBody s__law_same) (m__law_same_b m__law_same a0 a1) Empty.elim Empty.elim (fun (_ : D) => [.no, .no]) (fun x => x) := by
  unfold m__law_same_b
  refine bs_ifx (gN' := fun (_ : Unit) => []) (tx_w (wx_or_a (tx_bool (ex_isa_a isa_bool L 0 1 rfl z_isinstance rfl z_bool PyProof.Rows.boot_bool (ex_var L 1 1 rfl rfl rfl)) (fun _ => rfl)) (wx_or1 (tx_bool (ex_isa_a isa_bool L 0 1 rfl z_isinstance rfl z_bool PyProof.Rows.boot_bool (ex_var L 0 0 rfl rfl rfl)) (fun _ => rfl))))) ?_ ?_
  · 
    exact bs_ret (mk := fun x1 => x1) (ex_and_a (ex_isa_a isa_bool L 0 1 rfl z_isinstance rfl z_bool PyProof.Rows.boot_bool (ex_var L 0 0 rfl rfl rfl)) (ex_and_a (ex_isa_a isa_bool L 0 1 rfl z_isinstance rfl z_bool PyProof.Rows.boot_bool (ex_var L 1 1 rfl rfl rfl)) (ex_one (ex_cmp_aa (op_eqZ L.un) rs_eq (ex_var L 0 0 rfl rfl rfl) (ex_var L 1 1 rfl rfl rfl) (nomark _))))) (fun _ => rfl) (fun _ => (.no (.no .nil)))
  refine bs_ifx (gN' := fun (_ : Unit) => []) (tx_w (wx_or_a (tx_not_a (tx_bool (ex_isa_a isa_tuple L 0 2 rfl z_isinstance rfl z_tuple PyProof.Rows.boot_tuple (ex_var L 0 0 rfl rfl rfl)) (fun _ => rfl))) (wx_or (tx_cmp_xa (op_neZ L.un) rs_ne (ex_callB L 3 rfl z_len PySem.boot_len call_len rs_len (ax_consA (ex_var L 0 0 rfl rfl rfl) ax_nil)) ex_int (nomark _)) (wx_or1 (tx_cmp (op_neZ L.un) rs_ne (ex_ix_aa (ex_var L 0 0 rfl rfl rfl) ex_int (fun _ _ => rfl)) (ex_ix_aa (ex_var L 1 1 rfl rfl rfl) ex_int (fun _ _ => rfl)) (nomark _)))))) ?_ ?_
  · 
    exact bs_ret_a (mk := fun x6 => x6) ex_bool (fun _ => rfl) (fun _ => (.no (.no .nil)))
  exact bs_ret (mk := fun x13 => x13) (ex_and (ex_call L 4 rfl h__law_same (Nat.le_refl _) (ax_cons (ex_ix_aa (ex_var L 0 0 rfl rfl rfl) ex_int (fun _ _ => rfl)) (fun x7 => (ax_cons (ex_ix_aa (ex_var L 1 1 rfl rfl rfl) ex_int (fun _ _ => rfl)) (fun x8 => ax_nil))))) (ex_one (ex_call L 4 rfl h__law_same (Nat.le_refl _) (ax_cons (ex_ix_aa (ex_var L 0 0 rfl rfl rfl) ex_int (fun _ _ => rfl)) (fun x9 => (ax_cons (ex_ix_aa (ex_var L 1 1 rfl rfl rfl) ex_int (fun _ _ => rfl)) (fun x10 => ax_nil))))))) (fun _ => rfl) (fun _ => (.no (.no .nil)))

theorem f__law_same {E : ME} {kk : Nat} {n : Nat} (hd : DefAt E "_law_same" "_law_same" s__law_same ["_law_told", "_law_due"]) (z_bool : Free E "bool") (z_isinstance : Free E "isinstance") (z_len : Free E "len") (z_tuple : Free E "tuple") (h__law_same : FnM E kk "_law_same" (CP (g2 (m__law_same n)))) : FnM E (kk + 1) "_law_same" (CP (g2 (m__law_same (n + 1)))) :=
  hd.fn (N := ["_law_told", "_law_due"]) (W := ["_law_told", "_law_due"]) (G := ["isinstance", "bool", "tuple", "len", "_law_same"]) (Sl := ["_law_told", "_law_due"]) ⟨rfl, rfl, rfl, by decide +kernel, rfl, by decide +kernel, by decide +kernel⟩ (by decide +kernel) (by decide +kernel)
    (fun Γ0 r Γ1 ⟨xs, h1, h2, h3⟩ => match xs, h2 with | [_, _], _ => by subst h1; rfl)
    fun X L Γ0 r Γ1 ⟨xs, h1, h2, h3⟩ => match xs, h2 with
      | [a0, a1], h2 => by
        subst h1 h3
        exact body_of (d := Empty.elim) (b__law_same L z_bool z_isinstance z_len z_tuple h__law_same a0 a1) h2 (.no (.no .nil)) (fun n => n.elim)

theorem r__law_same {E : ME} {kk : Nat} (hd__law_same : DefAt E "_law_same" "_law_same" s__law_same ["_law_told", "_law_due"]) (z_bool : Free E "bool") (z_isinstance : Free E "isinstance") (z_len : Free E "len") (z_tuple : Free E "tuple") : ∀ n : Nat, FnM E (kk + n) "_law_same" (CP (g2 (m__law_same n)))
  | 0 => (hd__law_same.zero (cp_none (fun xs => match xs with | [_, _] => rfl | [] => rfl | [_] => rfl | _ :: _ :: _ :: _ => rfl))).mono (Nat.zero_le _)
  | n + 1 => by
    have ih := r__law_same (E := E) (kk := kk) hd__law_same z_bool z_isinstance z_len z_tuple n
    exact f__law_same hd__law_same z_bool z_isinstance z_len z_tuple ih

abbrev s_is_below : Stmt := top 13

def m_is_below_b (m_is_below : D → D → D → Option D) (a0 : D) (a1 : D) (a2 : D) : Option (Ctl Empty Empty D) :=
  if (PyData.isBool a0) = true then Ctl.ex (some (.rt (.bool true)) : Option (Ctl Unit Empty D)) else (if (!(PyData.isTuple a0)) = true then some true else ((pLen a0).bind fun x2 => (pNe x2 (.int 3)).bind dBool).bind fun k6 => if k6 = true then some true else ((((pIdx a0 (.int 0)).map fun x3 => .bool (PyData.isInt x3)).bind pTru).map (!·)).bind fun k5 => if k5 = true then some true else ((pIdx a0 (.int 0)).map fun x4 => .bool (PyData.isBool x4)).bind pTru).bind fun k26 => if k26 = true then Ctl.ex (some (.rt (.bool false)) : Option (Ctl Unit Empty D)) else (((some a1).bind fun x8 => (pIdx a0 (.int 0)).bind fun y9 => ((pLe x8 y9).bind dBool).bind fun k11 => if k11 = true then (some a2).bind fun z10 => (pLt y9 z10).bind dBool else some false).map (!·)).bind fun k25 => if k25 = true then Ctl.ex (some (.rt (.bool false)) : Option (Ctl Unit Empty D)) else (((((pIdx a0 (.int 1)).bind fun x13 => ((pIdx a0 (.int 0)).bind fun x14 => pAdd x14 (.int 1)).bind fun x15 => m_is_below x13 x15 a2).bind pTru).map (!·)).bind fun k19 => if k19 = true then some true else (((pIdx a0 (.int 2)).bind fun x16 => ((pIdx a0 (.int 0)).bind fun x17 => pAdd x17 (.int 1)).bind fun x18 => m_is_below x16 x18 a2).bind pTru).map (!·)).bind fun k24 => if k24 = true then Ctl.ex (some (.rt (.bool false)) : Option (Ctl Unit Empty D)) else (((pIdx a0 (.int 1)).bind fun x21 => (pIdx a0 (.int 2)).bind fun x22 => m_same x21 x22).bind pNot).bind fun x23 => some (.rt x23)

def m_is_below : Nat → D → D → D → Option D
  | 0 => fun _ _ _ => none
  | n + 1 => fun a0 a1 a2 => Ctl.fin Empty.elim (m_is_below_b (m_is_below n) a0 a1 a2)

theorem b_is_below {X : Cx} {E : ME} {kk : Nat} {m_is_below : D → D → D → Option D} (L : LX X E kk ["value", "first", "count"] ["value", "first", "count"] ["isinstance", "bool", "tuple", "len", "int", "is_below", "same"] ["value", "first", "count"] (defScope s_is_below)) (z_bool : Free E "bool") (z_int : Free E "int") (z_isinstance : Free E "isinstance") (z_len : Free E "len") (z_tuple : Free E "tuple") (h_same : FnM E kk "same" (CP (g2 m_same))) (h_is_below : FnM E kk "is_below" (CP (g3 m_is_below))) (a0 : D) (a1 : D) (a2 : D) :
    BS X [.fz a0, .fz a1, .fz a2] (defBody s_is_below) (m_is_below_b m_is_below a0 a1 a2) Empty.elim Empty.elim (fun (_ : D) => [.no, .no, .no]) (fun x => x) := by
  unfold m_is_below_b
  refine bs_ifx_a (gN' := fun (_ : Unit) => []) (tx_bool (ex_isa_a isa_bool L 0 1 rfl z_isinstance rfl z_bool PyProof.Rows.boot_bool (ex_var L 0 0 rfl rfl rfl)) (fun _ => rfl)) ?_ ?_
  · 
    exact bs_ret_a (mk := fun x1 => x1) ex_bool (fun _ => rfl) (fun _ => (.no (.no (.no .nil))))
  refine bs_ifx (gN' := fun (_ : Unit) => []) (tx_w (wx_or_a (tx_not_a (tx_bool (ex_isa_a isa_tuple L 0 2 rfl z_isinstance rfl z_tuple PyProof.Rows.boot_tuple (ex_var L 0 0 rfl rfl rfl)) (fun _ => rfl))) (wx_or (tx_cmp_xa (op_neZ L.un) rs_ne (ex_callB L 3 rfl z_len PySem.boot_len call_len rs_len (ax_consA (ex_var L 0 0 rfl rfl rfl) ax_nil)) ex_int (nomark _)) (wx_or (tx_not (tx_val (ex_isa isa_int L 0 4 rfl z_isinstance rfl z_int PyProof.Rows.boot_int (ex_ix_aa (ex_var L 0 0 rfl rfl rfl) ex_int (fun _ _ => rfl))) (fun _ => rfl))) (wx_or1 (tx_val (ex_isa isa_bool L 0 1 rfl z_isinstance rfl z_bool PyProof.Rows.boot_bool (ex_ix_aa (ex_var L 0 0 rfl rfl rfl) ex_int (fun _ _ => rfl))) (fun _ => rfl))))))) ?_ ?_
  · 
    exact bs_ret_a (mk := fun x7 => x7) ex_bool (fun _ => rfl) (fun _ => (.no (.no (.no .nil))))
  refine bs_ifx (gN' := fun (_ : Unit) => []) (tx_not (tx_chain (op_leZ L.un) rs_le (op_ltZ L.un) rs_lt (ex_var L 1 1 rfl rfl rfl) (ex_ix_aa (ex_var L 0 0 rfl rfl rfl) ex_int (fun _ _ => rfl)) (ex_var L 2 2 rfl rfl rfl))) ?_ ?_
  · 
    exact bs_ret_a (mk := fun x12 => x12) ex_bool (fun _ => rfl) (fun _ => (.no (.no (.no .nil))))
  refine bs_ifx (gN' := fun (_ : Unit) => []) (tx_w (wx_or (tx_not (tx_val (ex_call L 5 rfl h_is_below (Nat.le_refl _) (ax_cons (ex_ix_aa (ex_var L 0 0 rfl rfl rfl) ex_int (fun _ _ => rfl)) (fun x13 => (ax_cons (ex_op_xa op_addD rs_add (ex_ix_aa (ex_var L 0 0 rfl rfl rfl) ex_int (fun _ _ => rfl)) ex_int) (fun x15 => (ax_consA (ex_var L 2 2 rfl rfl rfl) ax_nil)))))) (fun _ => rfl))) (wx_or1 (tx_not (tx_val (ex_call L 5 rfl h_is_below (Nat.le_refl _) (ax_cons (ex_ix_aa (ex_var L 0 0 rfl rfl rfl) ex_int (fun _ _ => rfl)) (fun x16 => (ax_cons (ex_op_xa op_addD rs_add (ex_ix_aa (ex_var L 0 0 rfl rfl rfl) ex_int (fun _ _ => rfl)) ex_int) (fun x18 => (ax_consA (ex_var L 2 2 rfl rfl rfl) ax_nil)))))) (fun _ => rfl)))))) ?_ ?_
  · 
    exact bs_ret_a (mk := fun x20 => x20) ex_bool (fun _ => rfl) (fun _ => (.no (.no (.no .nil))))
  exact bs_ret (mk := fun x23 => x23) (ex_not (ex_call L 6 rfl h_same (Nat.le_refl _) (ax_cons (ex_ix_aa (ex_var L 0 0 rfl rfl rfl) ex_int (fun _ _ => rfl)) (fun x21 => (ax_cons (ex_ix_aa (ex_var L 0 0 rfl rfl rfl) ex_int (fun _ _ => rfl)) (fun x22 => ax_nil)))))) (fun _ => rfl) (fun _ => (.no (.no (.no .nil))))

theorem f_is_below {E : ME} {kk : Nat} {n : Nat} (hd : DefAt E "is_below" "is_below" s_is_below ["value", "first", "count"]) (z_bool : Free E "bool") (z_int : Free E "int") (z_isinstance : Free E "isinstance") (z_len : Free E "len") (z_tuple : Free E "tuple") (h_same : FnM E kk "same" (CP (g2 m_same))) (h_is_below : FnM E kk "is_below" (CP (g3 (m_is_below n)))) : FnM E (kk + 1) "is_below" (CP (g3 (m_is_below (n + 1)))) :=
  hd.fn (N := ["value", "first", "count"]) (W := ["value", "first", "count"]) (G := ["isinstance", "bool", "tuple", "len", "int", "is_below", "same"]) (Sl := ["value", "first", "count"]) ⟨rfl, rfl, rfl, by decide +kernel, rfl, by decide +kernel, by decide +kernel⟩ (by decide +kernel) (by decide +kernel)
    (fun Γ0 r Γ1 ⟨xs, h1, h2, h3⟩ => match xs, h2 with | [_, _, _], _ => by subst h1; rfl)
    fun X L Γ0 r Γ1 ⟨xs, h1, h2, h3⟩ => match xs, h2 with
      | [a0, a1, a2], h2 => by
        subst h1 h3
        exact body_of (d := Empty.elim) (b_is_below L z_bool z_int z_isinstance z_len z_tuple h_same h_is_below a0 a1 a2) h2 (.no (.no (.no .nil))) (fun n => n.elim)

theorem r_is_below {E : ME} {kk : Nat} (hd_is_below : DefAt E "is_below" "is_below" s_is_below ["value", "first", "count"]) (z_bool : Free E "bool") (z_int : Free E "int") (z_isinstance : Free E "isinstance") (z_len : Free E "len") (z_tuple : Free E "tuple") (h_same : FnM E kk "same" (CP (g2 m_same))) : ∀ n : Nat, FnM E (kk + n) "is_below" (CP (g3 (m_is_below n)))
  | 0 => (hd_is_below.zero (cp_none (fun xs => match xs with | [_, _, _] => rfl | [] => rfl | [_] => rfl | [_, _] => rfl | _ :: _ :: _ :: _ :: _ => rfl))).mono (Nat.zero_le _)
  | n + 1 => by
    have ih := r_is_below (E := E) (kk := kk) hd_is_below z_bool z_int z_isinstance z_len z_tuple h_same n
    exact f_is_below hd_is_below z_bool z_int z_isinstance z_len z_tuple (h_same.mono (Nat.le_add_right _ _)) ih

abbrev s_is_diagram : Stmt := top 14

def m_is_diagram_b (a0 : D) (a1 : D) : Option (Ctl Empty Empty D) :=
  (m_is_below 12 a0 (.int 0) a1).bind fun x1 => some (.rt x1)
def m_is_diagram (a0 : D) (a1 : D) : Option D := Ctl.fin Empty.elim (m_is_diagram_b a0 a1)

theorem b_is_diagram {X : Cx} {E : ME} {kk : Nat} (L : LX X E kk ["value", "count"] ["value", "count"] ["is_below"] ["value", "count"] (defScope s_is_diagram)) (h_is_below : FnM E kk "is_below" (CP (g3 (m_is_below 12)))) (a0 : D) (a1 : D) :
    BS X [.fz a0, .fz a1] (defBody s_is_diagram) (m_is_diagram_b a0 a1) Empty.elim Empty.elim (fun (_ : D) => [.no, .no]) (fun x => x) := by
  unfold m_is_diagram_b
  exact bs_ret (mk := fun x1 => x1) (ex_call L 0 rfl h_is_below (Nat.le_refl _) (ax_consA (ex_var L 0 0 rfl rfl rfl) (ax_consA ex_int (ax_consA (ex_var L 1 1 rfl rfl rfl) ax_nil)))) (fun _ => rfl) (fun _ => (.no (.no .nil)))

theorem f_is_diagram {E : ME} {kk : Nat} (hd : DefAt E "is_diagram" "is_diagram" s_is_diagram ["value", "count"]) (h_is_below : FnM E kk "is_below" (CP (g3 (m_is_below 12)))) : FnM E (kk + 1) "is_diagram" (CP (g2 m_is_diagram)) :=
  hd.fn (N := ["value", "count"]) (W := ["value", "count"]) (G := ["is_below"]) (Sl := ["value", "count"]) ⟨rfl, rfl, rfl, by decide +kernel, rfl, by decide +kernel, by decide +kernel⟩ (by decide +kernel) (by decide +kernel)
    (fun Γ0 r Γ1 ⟨xs, h1, h2, h3⟩ => match xs, h2 with | [_, _], _ => by subst h1; rfl)
    fun X L Γ0 r Γ1 ⟨xs, h1, h2, h3⟩ => match xs, h2 with
      | [a0, a1], h2 => by
        subst h1 h3
        exact body_of (d := Empty.elim) (b_is_diagram L h_is_below a0 a1) h2 (.no (.no .nil)) (fun n => n.elim)

abbrev s_how_many : Stmt := top 11

def m_how_many_b (a0 : D) (a1 : D) : Option (Ctl Empty Empty D) :=
  ((m_chosen a0 a1).bind fun x1 => pLen x1).bind fun x2 => some (.rt x2)
def m_how_many (a0 : D) (a1 : D) : Option D := Ctl.fin Empty.elim (m_how_many_b a0 a1)

theorem b_how_many {X : Cx} {E : ME} {kk : Nat} (L : LX X E kk ["d", "count"] ["d", "count"] ["len", "chosen"] ["d", "count"] (defScope s_how_many)) (z_len : Free E "len") (h_chosen : FnM E kk "chosen" (CP (g2 m_chosen))) (a0 : D) (a1 : D) :
    BS X [.fz a0, .fz a1] (defBody s_how_many) (m_how_many_b a0 a1) Empty.elim Empty.elim (fun (_ : D) => [.no, .no]) (fun x => x) := by
  unfold m_how_many_b
  exact bs_ret (mk := fun x2 => x2) (ex_callB L 0 rfl z_len PySem.boot_len call_len rs_len (ax_cons (ex_call L 1 rfl h_chosen (Nat.le_refl _) (ax_consA (ex_var L 0 0 rfl rfl rfl) (ax_consA (ex_var L 1 1 rfl rfl rfl) ax_nil))) (fun x1 => ax_nil))) (fun _ => rfl) (fun _ => (.no (.no .nil)))

theorem f_how_many {E : ME} {kk : Nat} (hd : DefAt E "how_many" "how_many" s_how_many ["d", "count"]) (z_len : Free E "len") (h_chosen : FnM E kk "chosen" (CP (g2 m_chosen))) : FnM E (kk + 1) "how_many" (CP (g2 m_how_many)) :=
  hd.fn (N := ["d", "count"]) (W := ["d", "count"]) (G := ["len", "chosen"]) (Sl := ["d", "count"]) ⟨rfl, rfl, rfl, by decide +kernel, rfl, by decide +kernel, by decide +kernel⟩ (by decide +kernel) (by decide +kernel)
    (fun Γ0 r Γ1 ⟨xs, h1, h2, h3⟩ => match xs, h2 with | [_, _], _ => by subst h1; rfl)
    fun X L Γ0 r Γ1 ⟨xs, h1, h2, h3⟩ => match xs, h2 with
      | [a0, a1], h2 => by
        subst h1 h3
        exact body_of (d := Empty.elim) (b_how_many L z_len h_chosen a0 a1) h2 (.no (.no .nil)) (fun n => n.elim)

abbrev s__law_diagram : Stmt := top 27

def m__law_diagram_b (m__law_diagram : D → D → Option D) (a0 : D) (a1 : D) : Option (Ctl Empty Empty D) :=
  ((pLen a0).bind fun x1 => (pEq x1 (.int 1)).bind dBool).bind fun k19 => if k19 = true then Ctl.ex ((pIdx a0 (.int 0)).bind fun x2 => some (.rt x2) : Option (Ctl Unit Empty D)) else ((pLen a0).bind fun x3 => pFdiv x3 (.int 2)).bind fun x4 => (((pOpt x4).bind fun h6 => pSl a0 none h6).bind fun x7 => (pAdd a1 (.int 1)).bind fun x8 => m__law_diagram x7 x8).bind fun x9 => (((pOpt x4).bind fun l10 => pSl a0 l10 none).bind fun x12 => (pAdd a1 (.int 1)).bind fun x13 => m__law_diagram x12 x13).bind fun x14 => (((pEq x9 x14).bind dBool).bind fun k15 => if k15 = true then (pEq (.bool (PyData.isTuple x9)) (.bool (PyData.isTuple x14))).bind dBool else some false).bind fun k18 => if k18 = true then Ctl.ex (some (.rt x9) : Option (Ctl Unit Empty D)) else some (.rt (.tuple [a1, x9, x14]))

def m__law_diagram : Nat → D → D → Option D
  | 0 => fun _ _ => none
  | n + 1 => fun a0 a1 => Ctl.fin Empty.elim (m__law_diagram_b (m__law_diagram n) a0 a1)

theorem b__law_diagram {X : Cx} {E : ME} {kk : Nat} {m__law_diagram : D → D → Option D} (L : LX X E kk ["_law_bits", "_law_i", "_law_half", "_law_low", "_law_high"] ["_law_bits", "_law_i", "_law_half", "_law_low", "_law_high"] ["len", "_law_diagram", "isinstance", "tuple"] ["_law_bits", "_law_i", "_law_half", "_law_low", "_law_high"] (defScope s__law_diagram)) (z_isinstance : Free E "isinstance") (z_len : Free E "len") (z_tuple : Free E "tuple") (h__law_diagram : FnM E kk "_law_diagram" (CP (g2 m__law_diagram))) (a0 : D) (a1 : D) :
    BS X [.fz a0, .fz a1, .no, .no, .no] (defBody s__law_diagram) (m__law_diagram_b m__law_diagram a0 a1) Empty.elim Empty.elim (fun (_ : D) => [.no, .no, .no, .no, .no]) (fun x => x) := by
  unfold m__law_diagram_b
  refine bs_ifx (gN' := fun (_ : Unit) => []) (tx_cmp_xa (op_eqZ L.un) rs_eq (ex_callB L 0 rfl z_len PySem.boot_len call_len rs_len (ax_consA (ex_var L 0 0 rfl rfl rfl) ax_nil)) ex_int (nomark _)) ?_ ?_
  · 
    exact bs_ret (mk := fun x2 => x2) (ex_ix_aa (ex_var L 0 0 rfl rfl rfl) ex_int (fun _ _ => rfl)) (fun _ => rfl) (fun _ => (.no (.no (.no (.no (.no .nil))))))
  refine bs_set L 2 2 rfl rfl (ex_op_xa op_fdivW rs_fdiv (ex_callB L 0 rfl z_len PySem.boot_len call_len rs_len (ax_consA (ex_var L 0 0 rfl rfl rfl) ax_nil)) ex_int) (fun x4 => ?_)
  refine bs_set L 3 3 rfl rfl (ex_call L 1 rfl h__law_diagram (Nat.le_refl _) (ax_cons (ex_sl_an (ex_var L 0 0 rfl rfl rfl) (xo_some_a (ex_var L 2 2 rfl rfl rfl))) (fun x7 => (ax_cons (ex_op_aa op_addD rs_add (ex_var L 1 1 rfl rfl rfl) ex_int) (fun x8 => ax_nil))))) (fun x9 => ?_)
  refine bs_set L 4 4 rfl rfl (ex_call L 1 rfl h__law_diagram (Nat.le_refl _) (ax_cons (ex_sl_aan (ex_var L 0 0 rfl rfl rfl) (xo_some_a (ex_var L 2 2 rfl rfl rfl))) (fun x12 => (ax_cons (ex_op_aa op_addD rs_add (ex_var L 1 1 rfl rfl rfl) ex_int) (fun x13 => ax_nil))))) (fun x14 => ?_)
  refine bs_ifx (gN' := fun (_ : Unit) => []) (tx_w (wx_and (tx_cmp_aa (op_eqZ L.un) rs_eq (ex_var L 3 3 rfl rfl rfl) (ex_var L 4 4 rfl rfl rfl) (nomark _)) (wx_and1 (tx_cmp_aa (op_eqZ L.un) rs_eq (ex_isa_a isa_tuple L 2 3 rfl z_isinstance rfl z_tuple PyProof.Rows.boot_tuple (ex_var L 3 3 rfl rfl rfl)) (ex_isa_a isa_tuple L 2 3 rfl z_isinstance rfl z_tuple PyProof.Rows.boot_tuple (ex_var L 4 4 rfl rfl rfl)) (nomark _))))) ?_ ?_
  · 
    exact bs_ret_a (mk := fun x16 => x16) (ex_var L 3 3 rfl rfl rfl) (fun _ => rfl) (fun _ => (.no (.no (.no (.no (.no .nil))))))
  exact bs_ret_a (mk := fun x17 => x17) (ex_tup (by decide) (ax_consA (ex_var L 1 1 rfl rfl rfl) (ax_consA (ex_var L 3 3 rfl rfl rfl) (ax_consA (ex_var L 4 4 rfl rfl rfl) ax_nil)))) (fun _ => rfl) (fun _ => (.no (.no (.no (.no (.no .nil))))))

theorem f__law_diagram {E : ME} {kk : Nat} {n : Nat} (hd : DefAt E "_law_diagram" "_law_diagram" s__law_diagram ["_law_bits", "_law_i"]) (z_isinstance : Free E "isinstance") (z_len : Free E "len") (z_tuple : Free E "tuple") (h__law_diagram : FnM E kk "_law_diagram" (CP (g2 (m__law_diagram n)))) : FnM E (kk + 1) "_law_diagram" (CP (g2 (m__law_diagram (n + 1)))) :=
  hd.fn (N := ["_law_bits", "_law_i", "_law_half", "_law_low", "_law_high"]) (W := ["_law_bits", "_law_i", "_law_half", "_law_low", "_law_high"]) (G := ["len", "_law_diagram", "isinstance", "tuple"]) (Sl := ["_law_bits", "_law_i", "_law_half", "_law_low", "_law_high"]) ⟨rfl, rfl, rfl, by decide +kernel, rfl, by decide +kernel, by decide +kernel⟩ (by decide +kernel) (by decide +kernel)
    (fun Γ0 r Γ1 ⟨xs, h1, h2, h3⟩ => match xs, h2 with | [_, _], _ => by subst h1; rfl)
    fun X L Γ0 r Γ1 ⟨xs, h1, h2, h3⟩ => match xs, h2 with
      | [a0, a1], h2 => by
        subst h1 h3
        exact body_of (d := Empty.elim) (b__law_diagram L z_isinstance z_len z_tuple h__law_diagram a0 a1) h2 (.no (.no .nil)) (fun n => n.elim)

theorem r__law_diagram {E : ME} {kk : Nat} (hd__law_diagram : DefAt E "_law_diagram" "_law_diagram" s__law_diagram ["_law_bits", "_law_i"]) (z_isinstance : Free E "isinstance") (z_len : Free E "len") (z_tuple : Free E "tuple") : ∀ n : Nat, FnM E (kk + n) "_law_diagram" (CP (g2 (m__law_diagram n)))
  | 0 => (hd__law_diagram.zero (cp_none (fun xs => match xs with | [_, _] => rfl | [] => rfl | [_] => rfl | _ :: _ :: _ :: _ => rfl))).mono (Nat.zero_le _)
  | n + 1 => by
    have ih := r__law_diagram (E := E) (kk := kk) hd__law_diagram z_isinstance z_len z_tuple n
    exact f__law_diagram hd__law_diagram z_isinstance z_len z_tuple ih

abbrev s__law_fine : Stmt := top 29

def m__law_fine_b (a0 : D) (a1 : D) (a2 : D) : Option (Ctl Empty Empty D) :=
  (((((m__law_diagram 6 a1 (.int 0)).bind fun x1 => m__law_same 12 a0 x1).bind pTru).map (!·)).bind fun k3 => if k3 = true then some true else (m_is_diagram a0 a2).bind fun x2 => (pIsNot x2 (.bool true)).bind dBool).bind fun k30 => if k30 = true then Ctl.ex (some (.rt (.bool false)) : Option (Ctl Unit Empty D)) else (m__law_all a2).bind fun x5 => (((pLen x5).bind pRg1).bind fun xs7 => (lcI (fun x8 => (pIdx a1 x8).bind pTru) (fun x8 => pIdx x5 x8) xs7).map .list).bind fun x9 => Ctl.seq (((pLen x5).bind pRg1).bind fun xs17 => forC (fun x11 s10 => (((pIdx x5 x11).bind fun x12 => m_holds a0 x12).bind fun x13 => (if (!(PyData.isBool x13)) = true then some true else (pIdx a1 x11).bind fun y14 => (pNe x13 y14).bind dBool).bind fun k16 => if k16 = true then some (.rt (.bool false)) else some (.nx ()) : Option (Ctl Unit Unit D))) xs17 () : Option (Ctl Unit Empty D)) fun (s18 : Unit) => (((m_chosen a0 a2).bind fun x19 => (pNe x19 x9).bind dBool).bind fun k22 => if k22 = true then some true else (m_how_many a0 a2).bind fun x20 => (pLen x9).bind fun y21 => (pNe x20 y21).bind dBool).bind fun k29 => if k29 = true then Ctl.ex (some (.rt (.bool false)) : Option (Ctl Unit Empty D)) else ((m_least a0 a2).bind fun x26 => (((pLen x9).bind fun x24 => (pGt x24 (.int 0)).bind dBool).bind fun k25 => if k25 = true then pIdx x9 (.int 0) else some (.none)).bind fun y27 => pEq x26 y27).bind fun x28 => some (.rt x28)
def m__law_fine (a0 : D) (a1 : D) (a2 : D) : Option D := Ctl.fin Empty.elim (m__law_fine_b a0 a1 a2)

theorem b__law_fine {X : Cx} {E : ME} {kk : Nat} (L : LX X E kk ["_law_diagram_here", "_law_bits", "_law_count", "_law_rows", "_law_due", "_law_k", "_law_told"] ["_law_diagram_here", "_law_bits", "_law_count", "_law_rows", "_law_due", "_law_k", "_law_told"] ["_law_same", "_law_diagram", "is_diagram", "_law_all", "range", "len", "holds", "isinstance", "bool", "chosen", "how_many", "least"] ["_law_diagram_here", "_law_bits", "_law_count", "_law_rows", "_law_due", "_law_k", "_law_told"] (defScope s__law_fine)) (z_bool : Free E "bool") (z_isinstance : Free E "isinstance") (z_len : Free E "len") (z_range : Free E "range") (h__law_all : FnM E kk "_law_all" (CP (g1 m__law_all))) (h__law_diagram : FnM E kk "_law_diagram" (CP (g2 (m__law_diagram 6)))) (h__law_same : FnM E kk "_law_same" (CP (g2 (m__law_same 12)))) (h_chosen : FnM E kk "chosen" (CP (g2 m_chosen))) (h_holds : FnM E kk "holds" (CP (g2 m_holds))) (h_how_many : FnM E kk "how_many" (CP (g2 m_how_many))) (h_is_diagram : FnM E kk "is_diagram" (CP (g2 m_is_diagram))) (h_least : FnM E kk "least" (CP (g2 m_least))) (a0 : D) (a1 : D) (a2 : D) :
    BS X [.fz a0, .fz a1, .fz a2, .no, .no, .no, .no] (defBody s__law_fine) (m__law_fine_b a0 a1 a2) Empty.elim Empty.elim (fun (_ : D) => [.no, .no, .no, .no, .no, .no, .no]) (fun x => x) := by
  unfold m__law_fine_b
  refine bs_ifx (gN' := fun (_ : Unit) => []) (tx_w (wx_or (tx_not (tx_val (ex_call L 0 rfl h__law_same (Nat.le_refl _) (ax_consA (ex_var L 0 0 rfl rfl rfl) (ax_cons (ex_call L 1 rfl h__law_diagram (Nat.le_refl _) (ax_consA (ex_var L 1 1 rfl rfl rfl) (ax_consA ex_int ax_nil))) (fun x1 => ax_nil)))) (fun _ => rfl))) (wx_or1 (tx_cmp_xa op_isNotV rs_isNot (ex_call L 2 rfl h_is_diagram (Nat.le_refl _) (ax_consA (ex_var L 0 0 rfl rfl rfl) (ax_consA (ex_var L 2 2 rfl rfl rfl) ax_nil))) ex_bool (nomark _))))) ?_ ?_
  · 
    exact bs_ret_a (mk := fun x4 => x4) ex_bool (fun _ => rfl) (fun _ => (.no (.no (.no (.no (.no (.no (.no .nil))))))))
  refine bs_set L 3 3 rfl rfl (ex_call L 3 rfl h__law_all (Nat.le_refl _) (ax_consA (ex_var L 2 2 rfl rfl rfl) ax_nil)) (fun x5 => ?_)
  refine bs_setC L 4 rfl (by decide +kernel) (ex_lcI1 (Wb := ["_law_k", "_law_bits", "_law_rows"]) (Gb := []) (Sb := ["_law_k"]) L 5 0 rfl rfl (by decide +kernel) (xi_rg1 L 4 rfl z_range (ex_callB L 5 rfl z_len PySem.boot_len call_len rs_len (ax_consA (ex_var L 3 3 rfl rfl rfl) ax_nil))) (fun _ L6 x8 => (tx_val (ex_ix_aa (ex_var L6 1 1 rfl rfl rfl) (ex_var L6 5 0 rfl rfl rfl) (fun _ _ => rfl)) (fun _ => rfl))) (fun _ L6 x8 => (ex_ix_aa (ex_var L6 3 2 rfl rfl rfl) (ex_var L6 5 0 rfl rfl rfl) (fun _ _ => rfl)))) (fun x9 => ?_) (swT L (by decide +kernel) (by rfl)).1
  refine bs_seq (gN' := (fun (s10 : Unit) => [.fz a0, .fz a1, .fz a2, .fz x5, .fz x9, .no, .no])) (ss_for1 (gS := (fun (s10 : Unit) => [.fz a0, .fz a1, .fz a2, .fz x5, .fz x9, .no, .no])) L 5 5 rfl rfl (.same (.same (.same (.same (.same (.no (.no .nil))))))) (xi_rg1 L 4 rfl z_range (ex_callB L 5 rfl z_len PySem.boot_len call_len rs_len (ax_consA (ex_var L 3 3 rfl rfl rfl) ax_nil))) (fun s10 x11 => ?_)) ?_
  · 
    refine bs_set L 6 6 rfl rfl (ex_call L 6 rfl h_holds (Nat.le_refl _) (ax_consA (ex_var L 0 0 rfl rfl rfl) (ax_cons (ex_ix_aa (ex_var L 3 3 rfl rfl rfl) (ex_var L 5 5 rfl rfl rfl) (fun _ _ => rfl)) (fun x12 => ax_nil)))) (fun x13 => ?_)
    refine bs_one (ss_if (tx_w (wx_or_a (tx_not_a (tx_bool (ex_isa_a isa_bool L 7 8 rfl z_isinstance rfl z_bool PyProof.Rows.boot_bool (ex_var L 6 6 rfl rfl rfl)) (fun _ => rfl))) (wx_or1 (tx_cmp_ax (op_neZ L.un) rs_ne (ex_var L 6 6 rfl rfl rfl) (ex_ix_aa (ex_var L 1 1 rfl rfl rfl) (ex_var L 5 5 rfl rfl rfl) (fun _ _ => rfl)) (nomark _))))) ?_ ?_)
    · 
      exact bs_ret_a (mk := fun x15 => x15) ex_bool (fun _ => rfl) (fun _ => (.no (.no (.no (.no (.no (.no (.no .nil))))))))
    · 
      exact bs_nil (.same (.same (.same (.same (.same (.no (.no .nil)))))))
  intro s18
  refine bs_ifx (gN' := fun (_ : Unit) => []) (tx_w (wx_or (tx_cmp_xa (op_neZ L.un) rs_ne (ex_call L 9 rfl h_chosen (Nat.le_refl _) (ax_consA (ex_var L 0 0 rfl rfl rfl) (ax_consA (ex_var L 2 2 rfl rfl rfl) ax_nil))) (ex_var L 4 4 rfl rfl rfl) (nomark _)) (wx_or1 (tx_cmp (op_neZ L.un) rs_ne (ex_call L 10 rfl h_how_many (Nat.le_refl _) (ax_consA (ex_var L 0 0 rfl rfl rfl) (ax_consA (ex_var L 2 2 rfl rfl rfl) ax_nil))) (ex_callB L 5 rfl z_len PySem.boot_len call_len rs_len (ax_consA (ex_var L 4 4 rfl rfl rfl) ax_nil)) (nomark _))))) ?_ ?_
  · 
    exact bs_ret_a (mk := fun x23 => x23) ex_bool (fun _ => rfl) (fun _ => (.no (.no (.no (.no (.no (.no (.no .nil))))))))
  exact bs_ret (mk := fun x28 => x28) (ex_cmp (op_eqZ L.un) rs_eq (ex_call L 11 rfl h_least (Nat.le_refl _) (ax_consA (ex_var L 0 0 rfl rfl rfl) (ax_consA (ex_var L 2 2 rfl rfl rfl) ax_nil))) (ex_if (tx_cmp_xa (op_gtZ L.un) rs_gt (ex_callB L 5 rfl z_len PySem.boot_len call_len rs_len (ax_consA (ex_var L 4 4 rfl rfl rfl) ax_nil)) ex_int (nomark _)) (ex_ix_aa (ex_var L 4 4 rfl rfl rfl) ex_int (fun _ _ => rfl)) ex_none) (nomark _)) (fun _ => rfl) (fun _ => (.no (.no (.no (.no (.no (.no (.no .nil))))))))

theorem f__law_fine {E : ME} {kk : Nat} (hd : DefAt E "_law_fine" "_law_fine" s__law_fine ["_law_diagram_here", "_law_bits", "_law_count"]) (z_bool : Free E "bool") (z_isinstance : Free E "isinstance") (z_len : Free E "len") (z_range : Free E "range") (h__law_all : FnM E kk "_law_all" (CP (g1 m__law_all))) (h__law_diagram : FnM E kk "_law_diagram" (CP (g2 (m__law_diagram 6)))) (h__law_same : FnM E kk "_law_same" (CP (g2 (m__law_same 12)))) (h_chosen : FnM E kk "chosen" (CP (g2 m_chosen))) (h_holds : FnM E kk "holds" (CP (g2 m_holds))) (h_how_many : FnM E kk "how_many" (CP (g2 m_how_many))) (h_is_diagram : FnM E kk "is_diagram" (CP (g2 m_is_diagram))) (h_least : FnM E kk "least" (CP (g2 m_least))) : FnM E (kk + 1) "_law_fine" (CP (g3 m__law_fine)) :=
  hd.fn (N := ["_law_diagram_here", "_law_bits", "_law_count", "_law_rows", "_law_due", "_law_k", "_law_told"]) (W := ["_law_diagram_here", "_law_bits", "_law_count", "_law_rows", "_law_due", "_law_k", "_law_told"]) (G := ["_law_same", "_law_diagram", "is_diagram", "_law_all", "range", "len", "holds", "isinstance", "bool", "chosen", "how_many", "least"]) (Sl := ["_law_diagram_here", "_law_bits", "_law_count", "_law_rows", "_law_due", "_law_k", "_law_told"]) ⟨rfl, rfl, rfl, by decide +kernel, rfl, by decide +kernel, by decide +kernel⟩ (by decide +kernel) (by decide +kernel)
    (fun Γ0 r Γ1 ⟨xs, h1, h2, h3⟩ => match xs, h2 with | [_, _, _], _ => by subst h1; rfl)
    fun X L Γ0 r Γ1 ⟨xs, h1, h2, h3⟩ => match xs, h2 with
      | [a0, a1, a2], h2 => by
        subst h1 h3
        exact body_of (d := Empty.elim) (b__law_fine L z_bool z_isinstance z_len z_range h__law_all h__law_diagram h__law_same h_chosen h_holds h_how_many h_is_diagram h_least a0 a1 a2) h2 (.no (.no (.no .nil))) (fun n => n.elim)

abbrev s__law_gap : Stmt := top 20

def m__law_gap_b (a0 : D) : Option (Ctl Empty Empty (D × D)) :=
  ((some ((.list [(S ""), (S ""), (S ""), (S " "), (S "  ")]), a0)).bind fun r1 => (m__law_take r1.2 (.int 5)).bind fun r2 => (pIdx r1.1 r2.1).map fun z3 => (z3, r2.2)).bind fun r4 => some (.rt (r4.1, r4.2))
def m__law_gap (a0 : D) : Option (D × D) := Ctl.fin Empty.elim (m__law_gap_b a0)

theorem b__law_gap {X : Cx} {E : ME} {kk : Nat} (L : LX X E kk ["_law_tape_here"] ["_law_tape_here"] ["_law_take"] ["_law_tape_here"] (defScope s__law_gap)) (h__law_take : FnM E kk "_law_take" (CO1 .l (fun t => g1 (m__law_take t)))) (v0 : V) (a0 : D) :
    BS X [.ow .l (some v0) a0] (defBody s__law_gap) (m__law_gap_b a0) Empty.elim Empty.elim (fun (r : (D × D)) => [.ow .l (some v0) r.2]) (fun r => r.1) := by
  unfold m__law_gap_b
  exact bs_retE (S := (fun (t5 : D) => [.ow .l (some v0) t5])) (mk := fun r4 => (r4.1, r4.2)) (exe_ix (exe_atom (ex_lst (by decide) (ax_consA ex_str (ax_consA ex_str (ax_consA ex_str (ax_consA ex_str (ax_consA ex_str ax_nil))))))) (fun r1 => (exe_callO1 L 0 0 0 rfl rfl rfl h__law_take (Nat.le_refl _) (fun _ => rfl) (fun _ _ => rfl) (axe_consA ex_int axe_nil))) (fun _ _ => rfl)) (fun _ => rfl) (fun _ => (.same .nil))

theorem f__law_gap {E : ME} {kk : Nat} (hd : DefAt E "_law_gap" "_law_gap" s__law_gap ["_law_tape_here"]) (h__law_take : FnM E kk "_law_take" (CO1 .l (fun t => g1 (m__law_take t)))) : FnM E (kk + 1) "_law_gap" (CO1 .l (fun t => g0 (m__law_gap t))) :=
  hd.fn (N := ["_law_tape_here"]) (W := ["_law_tape_here"]) (G := ["_law_take"]) (Sl := ["_law_tape_here"]) ⟨rfl, rfl, rfl, by decide +kernel, rfl, by decide +kernel, by decide +kernel⟩ (by decide +kernel) (by decide +kernel)
    (fun Γ0 r Γ1 ⟨v, x, xs, y, h1, h2, h3⟩ => match xs, h2 with | [], _ => by subst h1; rfl)
    fun X L Γ0 r Γ1 ⟨v0, a0, xs, y, h1, h2, h3⟩ => match xs, h2 with
      | [], h2 => by
        subst h1 h3
        exact body_of (d := Empty.elim) (rr := (r, y)) (b__law_gap L h__law_take v0 a0) h2 (.ow .nil) (fun n => n.elim)

abbrev s__law_part : Stmt := top 21

abbrev s__law_both : Stmt := top 22

abbrev s__law_either : Stmt := top 23

def m__law_part_b (m__law_part : D → D → D → Option (D × D)) (m__law_either : D → D → D → Option (D × D)) (a0 : D) (a1 : D) (a2 : D) : Option (Ctl Empty Empty (D × D)) :=
  (m__law_take a0 (.int 9)).bind fun r1 => (((pLt r1.1 (.int 5)).bind dBool).bind fun k2 => if k2 = true then some true else (pLe a2 (.int 0)).bind dBool).bind fun k47 => if k47 = true then Ctl.ex (((some (a1, r1.2)).bind fun r3 => ((pLen a1).bind fun x4 => m__law_take r3.2 x4).bind fun r5 => (pIdx r3.1 r5.1).map fun z6 => (z6, r5.2)).bind fun r7 => some (.rt ((.tuple [(.tuple [(S "switch"), r7.1]), r7.1]), r7.2)) : Option (Ctl Unit Empty (D × D))) else ((pEq r1.1 (.int 5)).bind dBool).bind fun k46 => if k46 = true then Ctl.ex (some (.rt ((.tuple [(.tuple [(S "yes")]), (S "1")]), r1.2)) : Option (Ctl Unit Empty (D × D))) else ((pEq r1.1 (.int 6)).bind dBool).bind fun k45 => if k45 = true then Ctl.ex (some (.rt ((.tuple [(.tuple [(S "no")]), (S "0")]), r1.2)) : Option (Ctl Unit Empty (D × D))) else ((pEq r1.1 (.int 7)).bind dBool).bind fun k44 => if k44 = true then Ctl.ex (((pSub a2 (.int 1)).bind fun x13 => m__law_part r1.2 a1 x13).bind fun r14 => (pUn2 r14.1).bind fun p12 => ((((some ((S "!"), r14.2)).bind fun r15 => (m__law_gap r15.2).bind fun r16 => (pAdd r15.1 r16.1).map fun z17 => (z17, r16.2)).bind fun r18 => (some (p12.2, r18.2)).bind fun r19 => (pAdd r18.1 r19.1).map fun z20 => (z20, r19.2)).bind fun r21 => some (.tuple [(.tuple [(S "not"), p12.1]), r21.1], r21.2)).bind fun r22 => some (.rt (r22.1, r22.2)) : Option (Ctl Unit Empty (D × D))) else ((pSub a2 (.int 1)).bind fun x26 => m__law_either r1.2 a1 x26).bind fun r27 => (pUn2 r27.1).bind fun p25 => ((((((some ((S "("), r27.2)).bind fun r28 => (m__law_gap r28.2).bind fun r29 => (pAdd r28.1 r29.1).map fun z30 => (z30, r29.2)).bind fun r31 => (some (p25.2, r31.2)).bind fun r32 => (pAdd r31.1 r32.1).map fun z33 => (z33, r32.2)).bind fun r34 => (m__law_gap r34.2).bind fun r35 => (pAdd r34.1 r35.1).map fun z36 => (z36, r35.2)).bind fun r37 => (some ((S ")"), r37.2)).bind fun r38 => (pAdd r37.1 r38.1).map fun z39 => (z39, r38.2)).bind fun r40 => some (.tuple [p25.1, r40.1], r40.2)).bind fun r41 => some (.rt (r41.1, r41.2))

def m__law_both_b (m__law_part : D → D → D → Option (D × D)) (a0 : D) (a1 : D) (a2 : D) : Option (Ctl Empty Empty (D × D)) :=
  (m__law_part a0 a1 a2).bind fun r2 => (pUn2 r2.1).bind fun p1 => Ctl.seq (((m__law_take r2.2 (.int 3)).bind fun r24 => (pRg1 r24.1).map fun x25 => (x25, r24.2)).bind fun r26 => forC (fun x4 s3 => (((pSub a2 (.int 1)).bind fun x6 => m__law_part s3.2.2 a1 x6).bind fun r7 => (pUn2 r7.1).bind fun p5 => (((((some (s3.2.1, r7.2)).bind fun r8 => (m__law_gap r8.2).bind fun r9 => (pAdd r8.1 r9.1).map fun z10 => (z10, r9.2)).bind fun r11 => (some ((S "&"), r11.2)).bind fun r12 => (pAdd r11.1 r12.1).map fun z13 => (z13, r12.2)).bind fun r14 => (m__law_gap r14.2).bind fun r15 => (pAdd r14.1 r15.1).map fun z16 => (z16, r15.2)).bind fun r17 => (some (p5.2, r17.2)).bind fun r18 => (pAdd r17.1 r18.1).map fun z19 => (z19, r18.2)).bind fun r20 => some (.nx ((.tuple [(S "and"), s3.1, p5.1]), r20.1, r20.2)) : Option (Ctl (D × D × D) (D × D × D) (D × D)))) r26.1 ((fun t27 => (p1.1, p1.2, t27)) r26.2) : Option (Ctl (D × D × D) Empty (D × D))) fun (s29 : D × D × D) => some (.rt ((.tuple [s29.1, s29.2.1]), s29.2.2))

def m__law_either_b (m__law_both : D → D → D → Option (D × D)) (a0 : D) (a1 : D) (a2 : D) : Option (Ctl Empty Empty (D × D)) :=
  (m__law_both a0 a1 a2).bind fun r2 => (pUn2 r2.1).bind fun p1 => Ctl.seq (((m__law_take r2.2 (.int 3)).bind fun r24 => (pRg1 r24.1).map fun x25 => (x25, r24.2)).bind fun r26 => forC (fun x4 s3 => (((pSub a2 (.int 1)).bind fun x6 => m__law_both s3.2.2 a1 x6).bind fun r7 => (pUn2 r7.1).bind fun p5 => (((((some (s3.2.1, r7.2)).bind fun r8 => (m__law_gap r8.2).bind fun r9 => (pAdd r8.1 r9.1).map fun z10 => (z10, r9.2)).bind fun r11 => (some ((S "|"), r11.2)).bind fun r12 => (pAdd r11.1 r12.1).map fun z13 => (z13, r12.2)).bind fun r14 => (m__law_gap r14.2).bind fun r15 => (pAdd r14.1 r15.1).map fun z16 => (z16, r15.2)).bind fun r17 => (some (p5.2, r17.2)).bind fun r18 => (pAdd r17.1 r18.1).map fun z19 => (z19, r18.2)).bind fun r20 => some (.nx ((.tuple [(S "or"), s3.1, p5.1]), r20.1, r20.2)) : Option (Ctl (D × D × D) (D × D × D) (D × D)))) r26.1 ((fun t27 => (p1.1, p1.2, t27)) r26.2) : Option (Ctl (D × D × D) Empty (D × D))) fun (s29 : D × D × D) => some (.rt ((.tuple [s29.1, s29.2.1]), s29.2.2))

mutual
def m__law_part : Nat → D → D → D → Option (D × D)
  | 0 => fun _ _ _ => none
  | n + 1 => fun a0 a1 a2 => Ctl.fin Empty.elim (m__law_part_b (m__law_part n) (m__law_either n) a0 a1 a2)
def m__law_both : Nat → D → D → D → Option (D × D)
  | 0 => fun _ _ _ => none
  | n + 1 => fun a0 a1 a2 => Ctl.fin Empty.elim (m__law_both_b (m__law_part n) a0 a1 a2)
def m__law_either : Nat → D → D → D → Option (D × D)
  | 0 => fun _ _ _ => none
  | n + 1 => fun a0 a1 a2 => Ctl.fin Empty.elim (m__law_either_b (m__law_both n) a0 a1 a2)
end

theorem b__law_part {X : Cx} {E : ME} {kk : Nat} {m__law_part : D → D → D → Option (D × D)} {m__law_either : D → D → D → Option (D × D)} (L : LX X E kk ["_law_tape_here", "_law_switches_here", "_law_deep", "_law_draw", "_law_name", "_law_formula_here", "_law_text"] ["_law_tape_here", "_law_switches_here", "_law_deep", "_law_draw", "_law_name", "_law_formula_here", "_law_text"] ["_law_take", "len", "_law_part", "_law_gap", "_law_either"] ["_law_tape_here", "_law_switches_here", "_law_deep", "_law_draw", "_law_name", "_law_formula_here", "_law_text"] (defScope s__law_part)) (z_len : Free E "len") (h__law_gap : FnM E kk "_law_gap" (CO1 .l (fun t => g0 (m__law_gap t)))) (h__law_take : FnM E kk "_law_take" (CO1 .l (fun t => g1 (m__law_take t)))) (h__law_part : FnM E kk "_law_part" (CO1 .l (fun t => g2 (m__law_part t)))) (h__law_either : FnM E kk "_law_either" (CO1 .l (fun t => g2 (m__law_either t)))) (v0 : V) (a0 : D) (a1 : D) (a2 : D) :
    BS X [.ow .l (some v0) a0, .fz a1, .fz a2, .no, .no, .no, .no] (defBody s__law_part) (m__law_part_b m__law_part m__law_either a0 a1 a2) Empty.elim Empty.elim (fun (r : (D × D)) => [.ow .l (some v0) r.2, .no, .no, .no, .no, .no, .no]) (fun r => r.1) := by
  unfold m__law_part_b
  refine bs_setE (S := (fun (t48 : D) => [.ow .l (some v0) t48, .fz a1, .fz a2, .no, .no, .no, .no])) L 3 3 rfl rfl (exe_callO1 L 0 0 0 rfl rfl rfl h__law_take (Nat.le_refl _) (fun _ => rfl) (fun _ _ => rfl) (axe_consA ex_int axe_nil)) (fun r1 => ?_)
  refine bs_ifx (gN' := fun (_ : Unit) => []) (tx_w (wx_or (tx_cmp_aa (op_ltZ L.un) rs_lt (ex_var L 3 3 rfl rfl rfl) ex_int (nomark _)) (wx_or1 (tx_cmp_aa (op_leZ L.un) rs_le (ex_var L 2 2 rfl rfl rfl) ex_int (nomark _))))) ?_ ?_
  · 
    refine bs_setE (S := (fun (t9 : D) => [.ow .l (some v0) t9, .fz a1, .fz a2, .fz r1.1, .no, .no, .no])) L 4 4 rfl rfl (exe_ix (exe_atom (ex_var L 1 1 rfl rfl rfl)) (fun r3 => (exe_callO1 L 0 0 0 rfl rfl rfl h__law_take (Nat.le_refl _) (fun _ => rfl) (fun _ _ => rfl) (axe_consP (ex_callB L 1 rfl z_len PySem.boot_len call_len rs_len (ax_consA (ex_var L 1 1 rfl rfl rfl) ax_nil)) (fun x4 => axe_nil)))) (fun _ _ => rfl)) (fun r7 => ?_)
    exact bs_ret_a (mk := fun x8 => (x8, r7.2)) (ex_tup (by decide) (ax_consA (ex_tup (by decide) (ax_consA ex_str (ax_consA (ex_var L 4 4 rfl rfl rfl) ax_nil))) (ax_consA (ex_var L 4 4 rfl rfl rfl) ax_nil))) (fun _ => rfl) (fun _ => (.same (.no (.no (.no (.no (.no (.no .nil))))))))
  refine bs_ifx (gN' := fun (_ : Unit) => []) (tx_cmp_aa (op_eqZ L.un) rs_eq (ex_var L 3 3 rfl rfl rfl) ex_int (nomark _)) ?_ ?_
  · 
    exact bs_ret_a (mk := fun x10 => (x10, r1.2)) (ex_tup (by decide) (ax_consA (ex_tup (by decide) (ax_consA ex_str ax_nil)) (ax_consA ex_str ax_nil))) (fun _ => rfl) (fun _ => (.same (.no (.no (.no (.no (.no (.no .nil))))))))
  refine bs_ifx (gN' := fun (_ : Unit) => []) (tx_cmp_aa (op_eqZ L.un) rs_eq (ex_var L 3 3 rfl rfl rfl) ex_int (nomark _)) ?_ ?_
  · 
    exact bs_ret_a (mk := fun x11 => (x11, r1.2)) (ex_tup (by decide) (ax_consA (ex_tup (by decide) (ax_consA ex_str ax_nil)) (ax_consA ex_str ax_nil))) (fun _ => rfl) (fun _ => (.same (.no (.no (.no (.no (.no (.no .nil))))))))
  refine bs_ifx (gN' := fun (_ : Unit) => []) (tx_cmp_aa (op_eqZ L.un) rs_eq (ex_var L 3 3 rfl rfl rfl) ex_int (nomark _)) ?_ ?_
  · 
    refine bs_asgE (S := (fun (t24 : D) => [.ow .l (some v0) t24, .fz a1, .fz a2, .fz r1.1, .no, .no, .no])) (t := r1.2) (exe_callO1 L 2 0 0 rfl rfl rfl h__law_part (Nat.le_refl _) (fun _ => rfl) (fun _ _ => rfl) (axe_consA (ex_var L 1 1 rfl rfl rfl) (axe_consP (ex_op_aa op_sub rs_sub (ex_var L 2 2 rfl rfl rfl) ex_int) (fun x13 => axe_nil)))) (fun _ => (gx_tup2 L 5 5 6 6 rfl rfl rfl rfl)) (fun r14 p12 => ?_)
    exact bs_retE (S := (fun (t23 : D) => [.ow .l (some v0) t23, .fz a1, .fz a2, .fz r1.1, .no, .fz p12.1, .fz p12.2])) (mk := fun r22 => (r22.1, r22.2)) (exe_tup (by decide) (axe_consA (ex_tup (by decide) (ax_consA ex_str (ax_consA (ex_var L 5 5 rfl rfl rfl) ax_nil))) (axe_cons (exe_op op_addD rs_add (exe_op op_addD rs_add (exe_atom ex_str) (fun r15 => (exe_callO1 L 3 0 0 rfl rfl rfl h__law_gap (Nat.le_refl _) (fun _ => rfl) (fun _ _ => rfl) axe_nil))) (fun r18 => (exe_atom (ex_var L 6 6 rfl rfl rfl)))) (fun r21 => axe_nil)))) (fun _ => rfl) (fun _ => (.same (.no (.no (.no (.no (.no (.no .nil))))))))
  refine bs_asgE (S := (fun (t43 : D) => [.ow .l (some v0) t43, .fz a1, .fz a2, .fz r1.1, .no, .no, .no])) (t := r1.2) (exe_callO1 L 4 0 0 rfl rfl rfl h__law_either (Nat.le_refl _) (fun _ => rfl) (fun _ _ => rfl) (axe_consA (ex_var L 1 1 rfl rfl rfl) (axe_consP (ex_op_aa op_sub rs_sub (ex_var L 2 2 rfl rfl rfl) ex_int) (fun x26 => axe_nil)))) (fun _ => (gx_tup2 L 5 5 6 6 rfl rfl rfl rfl)) (fun r27 p25 => ?_)
  exact bs_retE (S := (fun (t42 : D) => [.ow .l (some v0) t42, .fz a1, .fz a2, .fz r1.1, .no, .fz p25.1, .fz p25.2])) (mk := fun r41 => (r41.1, r41.2)) (exe_tup (by decide) (axe_consA (ex_var L 5 5 rfl rfl rfl) (axe_cons (exe_op op_addD rs_add (exe_op op_addD rs_add (exe_op op_addD rs_add (exe_op op_addD rs_add (exe_atom ex_str) (fun r28 => (exe_callO1 L 3 0 0 rfl rfl rfl h__law_gap (Nat.le_refl _) (fun _ => rfl) (fun _ _ => rfl) axe_nil))) (fun r31 => (exe_atom (ex_var L 6 6 rfl rfl rfl)))) (fun r34 => (exe_callO1 L 3 0 0 rfl rfl rfl h__law_gap (Nat.le_refl _) (fun _ => rfl) (fun _ _ => rfl) axe_nil))) (fun r37 => (exe_atom ex_str))) (fun r40 => axe_nil)))) (fun _ => rfl) (fun _ => (.same (.no (.no (.no (.no (.no (.no .nil))))))))

theorem f__law_part {E : ME} {kk : Nat} {n : Nat} (hd : DefAt E "_law_part" "_law_part" s__law_part ["_law_tape_here", "_law_switches_here", "_law_deep"]) (z_len : Free E "len") (h__law_gap : FnM E kk "_law_gap" (CO1 .l (fun t => g0 (m__law_gap t)))) (h__law_take : FnM E kk "_law_take" (CO1 .l (fun t => g1 (m__law_take t)))) (h__law_part : FnM E kk "_law_part" (CO1 .l (fun t => g2 (m__law_part n t)))) (h__law_either : FnM E kk "_law_either" (CO1 .l (fun t => g2 (m__law_either n t)))) : FnM E (kk + 1) "_law_part" (CO1 .l (fun t => g2 (m__law_part (n + 1) t))) :=
  hd.fn (N := ["_law_tape_here", "_law_switches_here", "_law_deep", "_law_draw", "_law_name", "_law_formula_here", "_law_text"]) (W := ["_law_tape_here", "_law_switches_here", "_law_deep", "_law_draw", "_law_name", "_law_formula_here", "_law_text"]) (G := ["_law_take", "len", "_law_part", "_law_gap", "_law_either"]) (Sl := ["_law_tape_here", "_law_switches_here", "_law_deep", "_law_draw", "_law_name", "_law_formula_here", "_law_text"]) ⟨rfl, rfl, rfl, by decide +kernel, rfl, by decide +kernel, by decide +kernel⟩ (by decide +kernel) (by decide +kernel)
    (fun Γ0 r Γ1 ⟨v, x, xs, y, h1, h2, h3⟩ => match xs, h2 with | [_, _], _ => by subst h1; rfl)
    fun X L Γ0 r Γ1 ⟨v0, a0, xs, y, h1, h2, h3⟩ => match xs, h2 with
      | [a1, a2], h2 => by
        subst h1 h3
        exact body_of (d := Empty.elim) (rr := (r, y)) (b__law_part L z_len h__law_gap h__law_take h__law_part h__law_either v0 a0 a1 a2) h2 (.ow (.no (.no .nil))) (fun n => n.elim)

theorem b__law_both {X : Cx} {E : ME} {kk : Nat} {m__law_part : D → D → D → Option (D × D)} (L : LX X E kk ["_law_tape_here", "_law_switches_here", "_law_deep", "_law_formula_here", "_law_text", "_law_k", "_law_other", "_law_more"] ["_law_tape_here", "_law_switches_here", "_law_deep", "_law_formula_here", "_law_text", "_law_k", "_law_other", "_law_more"] ["_law_part", "range", "_law_take", "_law_gap"] ["_law_tape_here", "_law_switches_here", "_law_deep", "_law_formula_here", "_law_text", "_law_k", "_law_other", "_law_more"] (defScope s__law_both)) (z_range : Free E "range") (h__law_gap : FnM E kk "_law_gap" (CO1 .l (fun t => g0 (m__law_gap t)))) (h__law_take : FnM E kk "_law_take" (CO1 .l (fun t => g1 (m__law_take t)))) (h__law_part : FnM E kk "_law_part" (CO1 .l (fun t => g2 (m__law_part t)))) (v0 : V) (a0 : D) (a1 : D) (a2 : D) :
    BS X [.ow .l (some v0) a0, .fz a1, .fz a2, .no, .no, .no, .no, .no] (defBody s__law_both) (m__law_both_b m__law_part a0 a1 a2) Empty.elim Empty.elim (fun (r : (D × D)) => [.ow .l (some v0) r.2, .no, .no, .no, .no, .no, .no, .no]) (fun r => r.1) := by
  unfold m__law_both_b
  refine bs_asgE (S := (fun (t31 : D) => [.ow .l (some v0) t31, .fz a1, .fz a2, .no, .no, .no, .no, .no])) (t := a0) (exe_callO1 L 0 0 0 rfl rfl rfl h__law_part (Nat.le_refl _) (fun _ => rfl) (fun _ _ => rfl) (axe_consA (ex_var L 1 1 rfl rfl rfl) (axe_consA (ex_var L 2 2 rfl rfl rfl) axe_nil))) (fun _ => (gx_tup2 L 3 3 4 4 rfl rfl rfl rfl)) (fun r2 p1 => ?_)
  refine bs_seq (gN' := (fun (s3 : D × D × D) => [.ow .l (some v0) s3.2.2, .fz a1, .fz a2, .fz s3.1, .fz s3.2.1, .no, .no, .no])) (ss_for1E (S := (fun (t28 : D) => [.ow .l (some v0) t28, .fz a1, .fz a2, .fz p1.1, .fz p1.2, .no, .no, .no])) (gS := (fun (s3 : D × D × D) => [.ow .l (some v0) s3.2.2, .fz a1, .fz a2, .fz s3.1, .fz s3.2.1, .no, .no, .no])) (s0 := fun t27 => (p1.1, p1.2, t27)) L 5 5 rfl rfl (fun _ => (.same (.same (.same (.same (.same (.no (.no (.no .nil))))))))) (xie_rg1 L 1 rfl z_range (exe_callO1 L 2 0 0 rfl rfl rfl h__law_take (Nat.le_refl _) (fun _ => rfl) (fun _ _ => rfl) (axe_consA ex_int axe_nil))) (fun s3 x4 => ?_)) ?_
  · 
    refine bs_asgE (S := (fun (t22 : D) => [.ow .l (some v0) t22, .fz a1, .fz a2, .fz s3.1, .fz s3.2.1, .fz x4, .no, .no])) (t := s3.2.2) (exe_callO1 L 0 0 0 rfl rfl rfl h__law_part (Nat.le_refl _) (fun _ => rfl) (fun _ _ => rfl) (axe_consA (ex_var L 1 1 rfl rfl rfl) (axe_consP (ex_op_aa op_sub rs_sub (ex_var L 2 2 rfl rfl rfl) ex_int) (fun x6 => axe_nil)))) (fun _ => (gx_tup2 L 6 6 7 7 rfl rfl rfl rfl)) (fun r7 p5 => ?_)
    refine bs_set_a L 3 3 rfl rfl (ex_tup (by decide) (ax_consA ex_str (ax_consA (ex_var L 3 3 rfl rfl rfl) (ax_consA (ex_var L 6 6 rfl rfl rfl) ax_nil)))) ?_
    refine bs_setE (S := (fun (t21 : D) => [.ow .l (some v0) t21, .fz a1, .fz a2, .fz (.tuple [(S "and"), s3.1, p5.1]), .fz s3.2.1, .fz x4, .fz p5.1, .fz p5.2])) L 4 4 rfl rfl (exe_op op_addD rs_add (exe_op op_addD rs_add (exe_op op_addD rs_add (exe_op op_addD rs_add (exe_atom (ex_var L 4 4 rfl rfl rfl)) (fun r8 => (exe_callO1 L 3 0 0 rfl rfl rfl h__law_gap (Nat.le_refl _) (fun _ => rfl) (fun _ _ => rfl) axe_nil))) (fun r11 => (exe_atom ex_str))) (fun r14 => (exe_callO1 L 3 0 0 rfl rfl rfl h__law_gap (Nat.le_refl _) (fun _ => rfl) (fun _ _ => rfl) axe_nil))) (fun r17 => (exe_atom (ex_var L 7 7 rfl rfl rfl)))) (fun r20 => ?_)
    exact bs_nil (.same (.same (.same (.same (.same (.no (.no (.no .nil))))))))
  intro s29
  exact bs_ret_a (mk := fun x30 => (x30, s29.2.2)) (ex_tup (by decide) (ax_consA (ex_var L 3 3 rfl rfl rfl) (ax_consA (ex_var L 4 4 rfl rfl rfl) ax_nil))) (fun _ => rfl) (fun _ => (.same (.no (.no (.no (.no (.no (.no (.no .nil)))))))))

theorem f__law_both {E : ME} {kk : Nat} {n : Nat} (hd : DefAt E "_law_both" "_law_both" s__law_both ["_law_tape_here", "_law_switches_here", "_law_deep"]) (z_range : Free E "range") (h__law_gap : FnM E kk "_law_gap" (CO1 .l (fun t => g0 (m__law_gap t)))) (h__law_take : FnM E kk "_law_take" (CO1 .l (fun t => g1 (m__law_take t)))) (h__law_part : FnM E kk "_law_part" (CO1 .l (fun t => g2 (m__law_part n t)))) : FnM E (kk + 1) "_law_both" (CO1 .l (fun t => g2 (m__law_both (n + 1) t))) :=
  hd.fn (N := ["_law_tape_here", "_law_switches_here", "_law_deep", "_law_formula_here", "_law_text", "_law_k", "_law_other", "_law_more"]) (W := ["_law_tape_here", "_law_switches_here", "_law_deep", "_law_formula_here", "_law_text", "_law_k", "_law_other", "_law_more"]) (G := ["_law_part", "range", "_law_take", "_law_gap"]) (Sl := ["_law_tape_here", "_law_switches_here", "_law_deep", "_law_formula_here", "_law_text", "_law_k", "_law_other", "_law_more"]) ⟨rfl, rfl, rfl, by decide +kernel, rfl, by decide +kernel, by decide +kernel⟩ (by decide +kernel) (by decide +kernel)
    (fun Γ0 r Γ1 ⟨v, x, xs, y, h1, h2, h3⟩ => match xs, h2 with | [_, _], _ => by subst h1; rfl)
    fun X L Γ0 r Γ1 ⟨v0, a0, xs, y, h1, h2, h3⟩ => match xs, h2 with
      | [a1, a2], h2 => by
        subst h1 h3
        exact body_of (d := Empty.elim) (rr := (r, y)) (b__law_both L z_range h__law_gap h__law_take h__law_part v0 a0 a1 a2) h2 (.ow (.no (.no .nil))) (fun n => n.elim)

theorem b__law_either {X : Cx} {E : ME} {kk : Nat} {m__law_both : D → D → D → Option (D × D)} (L : LX X E kk ["_law_tape_here", "_law_switches_here", "_law_deep", "_law_formula_here", "_law_text", "_law_k", "_law_other", "_law_more"] ["_law_tape_here", "_law_switches_here", "_law_deep", "_law_formula_here", "_law_text", "_law_k", "_law_other", "_law_more"] ["_law_both", "range", "_law_take", "_law_gap"] ["_law_tape_here", "_law_switches_here", "_law_deep", "_law_formula_here", "_law_text", "_law_k", "_law_other", "_law_more"] (defScope s__law_either)) (z_range : Free E "range") (h__law_gap : FnM E kk "_law_gap" (CO1 .l (fun t => g0 (m__law_gap t)))) (h__law_take : FnM E kk "_law_take" (CO1 .l (fun t => g1 (m__law_take t)))) (h__law_both : FnM E kk "_law_both" (CO1 .l (fun t => g2 (m__law_both t)))) (v0 : V) (a0 : D) (a1 : D) (a2 : D) :
    BS X [.ow .l (some v0) a0, .fz a1, .fz a2, .no, .no, .no, .no, .no] (defBody s__law_either) (m__law_either_b m__law_both a0 a1 a2) Empty.elim Empty.elim (fun (r : (D × D)) => [.ow .l (some v0) r.2, .no, .no, .no, .no, .no, .no, .no]) (fun r => r.1) := by
  unfold m__law_either_b
  refine bs_asgE (S := (fun (t31 : D) => [.ow .l (some v0) t31, .fz a1, .fz a2, .no, .no, .no, .no, .no])) (t := a0) (exe_callO1 L 0 0 0 rfl rfl rfl h__law_both (Nat.le_refl _) (fun _ => rfl) (fun _ _ => rfl) (axe_consA (ex_var L 1 1 rfl rfl rfl) (axe_consA (ex_var L 2 2 rfl rfl rfl) axe_nil))) (fun _ => (gx_tup2 L 3 3 4 4 rfl rfl rfl rfl)) (fun r2 p1 => ?_)
  refine bs_seq (gN' := (fun (s3 : D × D × D) => [.ow .l (some v0) s3.2.2, .fz a1, .fz a2, .fz s3.1, .fz s3.2.1, .no, .no, .no])) (ss_for1E (S := (fun (t28 : D) => [.ow .l (some v0) t28, .fz a1, .fz a2, .fz p1.1, .fz p1.2, .no, .no, .no])) (gS := (fun (s3 : D × D × D) => [.ow .l (some v0) s3.2.2, .fz a1, .fz a2, .fz s3.1, .fz s3.2.1, .no, .no, .no])) (s0 := fun t27 => (p1.1, p1.2, t27)) L 5 5 rfl rfl (fun _ => (.same (.same (.same (.same (.same (.no (.no (.no .nil))))))))) (xie_rg1 L 1 rfl z_range (exe_callO1 L 2 0 0 rfl rfl rfl h__law_take (Nat.le_refl _) (fun _ => rfl) (fun _ _ => rfl) (axe_consA ex_int axe_nil))) (fun s3 x4 => ?_)) ?_
  · 
    refine bs_asgE (S := (fun (t22 : D) => [.ow .l (some v0) t22, .fz a1, .fz a2, .fz s3.1, .fz s3.2.1, .fz x4, .no, .no])) (t := s3.2.2) (exe_callO1 L 0 0 0 rfl rfl rfl h__law_both (Nat.le_refl _) (fun _ => rfl) (fun _ _ => rfl) (axe_consA (ex_var L 1 1 rfl rfl rfl) (axe_consP (ex_op_aa op_sub rs_sub (ex_var L 2 2 rfl rfl rfl) ex_int) (fun x6 => axe_nil)))) (fun _ => (gx_tup2 L 6 6 7 7 rfl rfl rfl rfl)) (fun r7 p5 => ?_)
    refine bs_set_a L 3 3 rfl rfl (ex_tup (by decide) (ax_consA ex_str (ax_consA (ex_var L 3 3 rfl rfl rfl) (ax_consA (ex_var L 6 6 rfl rfl rfl) ax_nil)))) ?_
    refine bs_setE (S := (fun (t21 : D) => [.ow .l (some v0) t21, .fz a1, .fz a2, .fz (.tuple [(S "or"), s3.1, p5.1]), .fz s3.2.1, .fz x4, .fz p5.1, .fz p5.2])) L 4 4 rfl rfl (exe_op op_addD rs_add (exe_op op_addD rs_add (exe_op op_addD rs_add (exe_op op_addD rs_add (exe_atom (ex_var L 4 4 rfl rfl rfl)) (fun r8 => (exe_callO1 L 3 0 0 rfl rfl rfl h__law_gap (Nat.le_refl _) (fun _ => rfl) (fun _ _ => rfl) axe_nil))) (fun r11 => (exe_atom ex_str))) (fun r14 => (exe_callO1 L 3 0 0 rfl rfl rfl h__law_gap (Nat.le_refl _) (fun _ => rfl) (fun _ _ => rfl) axe_nil))) (fun r17 => (exe_atom (ex_var L 7 7 rfl rfl rfl)))) (fun r20 => ?_)
    exact bs_nil (.same (.same (.same (.same (.same (.no (.no (.no .nil))))))))
  intro s29
  exact bs_ret_a (mk := fun x30 => (x30, s29.2.2)) (ex_tup (by decide) (ax_consA (ex_var L 3 3 rfl rfl rfl) (ax_consA (ex_var L 4 4 rfl rfl rfl) ax_nil))) (fun _ => rfl) (fun _ => (.same (.no (.no (.no (.no (.no (.no (.no .nil)))))))))

theorem f__law_either {E : ME} {kk : Nat} {n : Nat} (hd : DefAt E "_law_either" "_law_either" s__law_either ["_law_tape_here", "_law_switches_here", "_law_deep"]) (z_range : Free E "range") (h__law_gap : FnM E kk "_law_gap" (CO1 .l (fun t => g0 (m__law_gap t)))) (h__law_take : FnM E kk "_law_take" (CO1 .l (fun t => g1 (m__law_take t)))) (h__law_both : FnM E kk "_law_both" (CO1 .l (fun t => g2 (m__law_both n t)))) : FnM E (kk + 1) "_law_either" (CO1 .l (fun t => g2 (m__law_either (n + 1) t))) :=
  hd.fn (N := ["_law_tape_here", "_law_switches_here", "_law_deep", "_law_formula_here", "_law_text", "_law_k", "_law_other", "_law_more"]) (W := ["_law_tape_here", "_law_switches_here", "_law_deep", "_law_formula_here", "_law_text", "_law_k", "_law_other", "_law_more"]) (G := ["_law_both", "range", "_law_take", "_law_gap"]) (Sl := ["_law_tape_here", "_law_switches_here", "_law_deep", "_law_formula_here", "_law_text", "_law_k", "_law_other", "_law_more"]) ⟨rfl, rfl, rfl, by decide +kernel, rfl, by decide +kernel, by decide +kernel⟩ (by decide +kernel) (by decide +kernel)
    (fun Γ0 r Γ1 ⟨v, x, xs, y, h1, h2, h3⟩ => match xs, h2 with | [_, _], _ => by subst h1; rfl)
    fun X L Γ0 r Γ1 ⟨v0, a0, xs, y, h1, h2, h3⟩ => match xs, h2 with
      | [a1, a2], h2 => by
        subst h1 h3
        exact body_of (d := Empty.elim) (rr := (r, y)) (b__law_either L z_range h__law_gap h__law_take h__law_both v0 a0 a1 a2) h2 (.ow (.no (.no .nil))) (fun n => n.elim)

theorem r__law_part {E : ME} {kk : Nat} (hd__law_part : DefAt E "_law_part" "_law_part" s__law_part ["_law_tape_here", "_law_switches_here", "_law_deep"]) (hd__law_both : DefAt E "_law_both" "_law_both" s__law_both ["_law_tape_here", "_law_switches_here", "_law_deep"]) (hd__law_either : DefAt E "_law_either" "_law_either" s__law_either ["_law_tape_here", "_law_switches_here", "_law_deep"]) (z_len : Free E "len") (z_range : Free E "range") (h__law_gap : FnM E kk "_law_gap" (CO1 .l (fun t => g0 (m__law_gap t)))) (h__law_take : FnM E kk "_law_take" (CO1 .l (fun t => g1 (m__law_take t)))) : ∀ n : Nat, FnM E (kk + n) "_law_part" (CO1 .l (fun t => g2 (m__law_part n t))) ∧ FnM E (kk + n) "_law_both" (CO1 .l (fun t => g2 (m__law_both n t))) ∧ FnM E (kk + n) "_law_either" (CO1 .l (fun t => g2 (m__law_either n t)))
  | 0 => ⟨(hd__law_part.zero (co_none (fun x xs => match xs with | [_, _] => rfl | [] => rfl | [_] => rfl | _ :: _ :: _ :: _ => rfl))).mono (Nat.zero_le _), (hd__law_both.zero (co_none (fun x xs => match xs with | [_, _] => rfl | [] => rfl | [_] => rfl | _ :: _ :: _ :: _ => rfl))).mono (Nat.zero_le _), (hd__law_either.zero (co_none (fun x xs => match xs with | [_, _] => rfl | [] => rfl | [_] => rfl | _ :: _ :: _ :: _ => rfl))).mono (Nat.zero_le _)⟩
  | n + 1 => by
    have ih := r__law_part (E := E) (kk := kk) hd__law_part hd__law_both hd__law_either z_len z_range h__law_gap h__law_take n
    exact ⟨f__law_part hd__law_part z_len (h__law_gap.mono (Nat.le_add_right _ _)) (h__law_take.mono (Nat.le_add_right _ _)) ih.1 ih.2.2, f__law_both hd__law_both z_range (h__law_gap.mono (Nat.le_add_right _ _)) (h__law_take.mono (Nat.le_add_right _ _)) ih.1, f__law_either hd__law_either z_range (h__law_gap.mono (Nat.le_add_right _ _)) (h__law_take.mono (Nat.le_add_right _ _)) ih.2.1⟩

abbrev s__law_formula : Stmt := top 24

def m__law_formula_b (a0 : D) (a1 : D) : Option (Ctl Empty Empty (D × D)) :=
  (m__law_either 9 a0 a1 (.int 2)).bind fun r2 => (pUn2 r2.1).bind fun p1 => (((pLen p1.2).bind fun x3 => (pLe x3 (.int 60)).bind dBool).bind fun k4 => if k4 = true then some (.tuple [p1.1, p1.2]) else some (.tuple [(.tuple [(S "yes")]), (S "1")])).bind fun x5 => some (.rt (x5, r2.2))
def m__law_formula (a0 : D) (a1 : D) : Option (D × D) := Ctl.fin Empty.elim (m__law_formula_b a0 a1)

theorem b__law_formula {X : Cx} {E : ME} {kk : Nat} (L : LX X E kk ["_law_tape_here", "_law_switches_here", "_law_formula_here", "_law_text"] ["_law_tape_here", "_law_switches_here", "_law_formula_here", "_law_text"] ["_law_either", "len"] ["_law_tape_here", "_law_switches_here", "_law_formula_here", "_law_text"] (defScope s__law_formula)) (z_len : Free E "len") (h__law_either : FnM E kk "_law_either" (CO1 .l (fun t => g2 (m__law_either 9 t)))) (v0 : V) (a0 : D) (a1 : D) :
    BS X [.ow .l (some v0) a0, .fz a1, .no, .no] (defBody s__law_formula) (m__law_formula_b a0 a1) Empty.elim Empty.elim (fun (r : (D × D)) => [.ow .l (some v0) r.2, .no, .no, .no]) (fun r => r.1) := by
  unfold m__law_formula_b
  refine bs_asgE (S := (fun (t6 : D) => [.ow .l (some v0) t6, .fz a1, .no, .no])) (t := a0) (exe_callO1 L 0 0 0 rfl rfl rfl h__law_either (Nat.le_refl _) (fun _ => rfl) (fun _ _ => rfl) (axe_consA (ex_var L 1 1 rfl rfl rfl) (axe_consA ex_int axe_nil))) (fun _ => (gx_tup2 L 2 2 3 3 rfl rfl rfl rfl)) (fun r2 p1 => ?_)
  exact bs_ret (mk := fun x5 => (x5, r2.2)) (ex_if (tx_cmp_xa (op_leZ L.un) rs_le (ex_callB L 1 rfl z_len PySem.boot_len call_len rs_len (ax_consA (ex_var L 3 3 rfl rfl rfl) ax_nil)) ex_int (nomark _)) (ex_tup (by decide) (ax_consA (ex_var L 2 2 rfl rfl rfl) (ax_consA (ex_var L 3 3 rfl rfl rfl) ax_nil))) (ex_tup (by decide) (ax_consA (ex_tup (by decide) (ax_consA ex_str ax_nil)) (ax_consA ex_str ax_nil)))) (fun _ => rfl) (fun _ => (.same (.no (.no (.no .nil)))))

theorem f__law_formula {E : ME} {kk : Nat} (hd : DefAt E "_law_formula" "_law_formula" s__law_formula ["_law_tape_here", "_law_switches_here"]) (z_len : Free E "len") (h__law_either : FnM E kk "_law_either" (CO1 .l (fun t => g2 (m__law_either 9 t)))) : FnM E (kk + 1) "_law_formula" (CO1 .l (fun t => g1 (m__law_formula t))) :=
  hd.fn (N := ["_law_tape_here", "_law_switches_here", "_law_formula_here", "_law_text"]) (W := ["_law_tape_here", "_law_switches_here", "_law_formula_here", "_law_text"]) (G := ["_law_either", "len"]) (Sl := ["_law_tape_here", "_law_switches_here", "_law_formula_here", "_law_text"]) ⟨rfl, rfl, rfl, by decide +kernel, rfl, by decide +kernel, by decide +kernel⟩ (by decide +kernel) (by decide +kernel)
    (fun Γ0 r Γ1 ⟨v, x, xs, y, h1, h2, h3⟩ => match xs, h2 with | [_], _ => by subst h1; rfl)
    fun X L Γ0 r Γ1 ⟨v0, a0, xs, y, h1, h2, h3⟩ => match xs, h2 with
      | [a1], h2 => by
        subst h1 h3
        exact body_of (d := Empty.elim) (rr := (r, y)) (b__law_formula L z_len h__law_either v0 a0 a1) h2 (.ow (.no .nil)) (fun n => n.elim)

abbrev s__law_true : Stmt := top 26

def m__law_true_b (m__law_true : D → D → D → Option D) (a0 : D) (a1 : D) (a2 : D) : Option (Ctl Empty Empty D) :=
  (pIdx a1 (.int 0)).bind fun x1 => (((pEq x1 (S "yes")).bind dBool).bind fun k2 => if k2 = true then some true else (pEq x1 (S "no")).bind dBool).bind fun k24 => if k24 = true then Ctl.ex ((pEq x1 (S "yes")).bind fun x3 => some (.rt x3) : Option (Ctl Unit Empty D)) else ((pEq x1 (S "switch")).bind dBool).bind fun k23 => if k23 = true then Ctl.ex ((((if strT a0 = true then (pIdx a1 (.int 1)).bind fun x5 => pIndexT a0 [x5] else none).bind fun y6 => pIdx a2 y6).bind fun x7 => pEq x7 (.int 1)).bind fun x8 => some (.rt x8) : Option (Ctl Unit Empty D)) else ((pEq x1 (S "not")).bind dBool).bind fun k22 => if k22 = true then Ctl.ex ((((pIdx a1 (.int 1)).bind fun x9 => m__law_true a0 x9 a2).bind pNot).bind fun x10 => some (.rt x10) : Option (Ctl Unit Empty D)) else ((pIdx a1 (.int 1)).bind fun x11 => m__law_true a0 x11 a2).bind fun x12 => ((pEq x1 (S "and")).bind dBool).bind fun k21 => if k21 = true then Ctl.ex (((some x12).bind fun x14 => (pTru x14).bind fun k15 => if k15 = true then (pIdx a1 (.int 2)).bind fun x13 => m__law_true a0 x13 a2 else some x14).bind fun x16 => some (.rt x16) : Option (Ctl Unit Empty D)) else ((some x12).bind fun x18 => (pTru x18).bind fun k19 => if k19 = true then some x18 else (pIdx a1 (.int 2)).bind fun x17 => m__law_true a0 x17 a2).bind fun x20 => some (.rt x20)

def m__law_true : Nat → D → D → D → Option D
  | 0 => fun _ _ _ => none
  | n + 1 => fun a0 a1 a2 => Ctl.fin Empty.elim (m__law_true_b (m__law_true n) a0 a1 a2)

theorem b__law_true {X : Cx} {E : ME} {kk : Nat} {m__law_true : D → D → D → Option D} (L : LX X E kk ["_law_switches_here", "_law_formula_here", "_law_configuration", "_law_tag", "_law_first"] ["_law_switches_here", "_law_formula_here", "_law_configuration", "_law_tag", "_law_first"] ["_law_true"] ["_law_switches_here", "_law_formula_here", "_law_configuration", "_law_tag", "_law_first"] (defScope s__law_true)) (h__law_true : FnM E kk "_law_true" (CP (g3 m__law_true))) (a0 : D) (a1 : D) (a2 : D) :
    BS X [.fz a0, .fz a1, .fz a2, .no, .no] (defBody s__law_true) (m__law_true_b m__law_true a0 a1 a2) Empty.elim Empty.elim (fun (_ : D) => [.no, .no, .no, .no, .no]) (fun x => x) := by
  unfold m__law_true_b
  refine bs_set L 3 3 rfl rfl (ex_ix_aa (ex_var L 1 1 rfl rfl rfl) ex_int (fun _ _ => rfl)) (fun x1 => ?_)
  refine bs_ifx (gN' := fun (_ : Unit) => []) (tx_w (wx_or (tx_cmp_aa (op_eqZ L.un) rs_eq (ex_var L 3 3 rfl rfl rfl) ex_str (nomark _)) (wx_or1 (tx_cmp_aa (op_eqZ L.un) rs_eq (ex_var L 3 3 rfl rfl rfl) ex_str (nomark _))))) ?_ ?_
  · 
    exact bs_ret (mk := fun x3 => x3) (ex_cmp_aa (op_eqZ L.un) rs_eq (ex_var L 3 3 rfl rfl rfl) ex_str (nomark _)) (fun _ => rfl) (fun _ => (.no (.no (.no (.no (.no .nil))))))
  refine bs_ifx (gN' := fun (_ : Unit) => []) (tx_cmp_aa (op_eqZ L.un) rs_eq (ex_var L 3 3 rfl rfl rfl) ex_str (nomark _)) ?_ ?_
  · 
    exact bs_ret (mk := fun x8 => x8) (ex_cmp_xa (op_eqZ L.un) rs_eq (ex_ix_ax (ex_var L 2 2 rfl rfl rfl) (ex_mt_a (g := pIndexT) PySem.F.plainAttrs_tuple PySem.F.slot_tuple_index PySem.F.type_tuple_index mt_tup_index rs_indexT knd_strT (ex_var L 0 0 rfl rfl rfl) (ax_cons (ex_ix_aa (ex_var L 1 1 rfl rfl rfl) ex_int (fun _ _ => rfl)) (fun x5 => ax_nil))) (fun _ _ => rfl)) ex_int (nomark _)) (fun _ => rfl) (fun _ => (.no (.no (.no (.no (.no .nil))))))
  refine bs_ifx (gN' := fun (_ : Unit) => []) (tx_cmp_aa (op_eqZ L.un) rs_eq (ex_var L 3 3 rfl rfl rfl) ex_str (nomark _)) ?_ ?_
  · 
    exact bs_ret (mk := fun x10 => x10) (ex_not (ex_call L 0 rfl h__law_true (Nat.le_refl _) (ax_consA (ex_var L 0 0 rfl rfl rfl) (ax_cons (ex_ix_aa (ex_var L 1 1 rfl rfl rfl) ex_int (fun _ _ => rfl)) (fun x9 => (ax_consA (ex_var L 2 2 rfl rfl rfl) ax_nil)))))) (fun _ => rfl) (fun _ => (.no (.no (.no (.no (.no .nil))))))
  refine bs_set L 4 4 rfl rfl (ex_call L 0 rfl h__law_true (Nat.le_refl _) (ax_consA (ex_var L 0 0 rfl rfl rfl) (ax_cons (ex_ix_aa (ex_var L 1 1 rfl rfl rfl) ex_int (fun _ _ => rfl)) (fun x11 => (ax_consA (ex_var L 2 2 rfl rfl rfl) ax_nil))))) (fun x12 => ?_)
  refine bs_ifx (gN' := fun (_ : Unit) => []) (tx_cmp_aa (op_eqZ L.un) rs_eq (ex_var L 3 3 rfl rfl rfl) ex_str (nomark _)) ?_ ?_
  · 
    exact bs_ret (mk := fun x16 => x16) (ex_and (ex_var L 4 4 rfl rfl rfl) (ex_one (ex_call L 0 rfl h__law_true (Nat.le_refl _) (ax_consA (ex_var L 0 0 rfl rfl rfl) (ax_cons (ex_ix_aa (ex_var L 1 1 rfl rfl rfl) ex_int (fun _ _ => rfl)) (fun x13 => (ax_consA (ex_var L 2 2 rfl rfl rfl) ax_nil))))))) (fun _ => rfl) (fun _ => (.no (.no (.no (.no (.no .nil))))))
  exact bs_ret (mk := fun x20 => x20) (ex_or (ex_var L 4 4 rfl rfl rfl) (ex_one (ex_call L 0 rfl h__law_true (Nat.le_refl _) (ax_consA (ex_var L 0 0 rfl rfl rfl) (ax_cons (ex_ix_aa (ex_var L 1 1 rfl rfl rfl) ex_int (fun _ _ => rfl)) (fun x17 => (ax_consA (ex_var L 2 2 rfl rfl rfl) ax_nil))))))) (fun _ => rfl) (fun _ => (.no (.no (.no (.no (.no .nil))))))

theorem f__law_true {E : ME} {kk : Nat} {n : Nat} (hd : DefAt E "_law_true" "_law_true" s__law_true ["_law_switches_here", "_law_formula_here", "_law_configuration"]) (h__law_true : FnM E kk "_law_true" (CP (g3 (m__law_true n)))) : FnM E (kk + 1) "_law_true" (CP (g3 (m__law_true (n + 1)))) :=
  hd.fn (N := ["_law_switches_here", "_law_formula_here", "_law_configuration", "_law_tag", "_law_first"]) (W := ["_law_switches_here", "_law_formula_here", "_law_configuration", "_law_tag", "_law_first"]) (G := ["_law_true"]) (Sl := ["_law_switches_here", "_law_formula_here", "_law_configuration", "_law_tag", "_law_first"]) ⟨rfl, rfl, rfl, by decide +kernel, rfl, by decide +kernel, by decide +kernel⟩ (by decide +kernel) (by decide +kernel)
    (fun Γ0 r Γ1 ⟨xs, h1, h2, h3⟩ => match xs, h2 with | [_, _, _], _ => by subst h1; rfl)
    fun X L Γ0 r Γ1 ⟨xs, h1, h2, h3⟩ => match xs, h2 with
      | [a0, a1, a2], h2 => by
        subst h1 h3
        exact body_of (d := Empty.elim) (b__law_true L h__law_true a0 a1 a2) h2 (.no (.no (.no .nil))) (fun n => n.elim)

theorem r__law_true {E : ME} {kk : Nat} (hd__law_true : DefAt E "_law_true" "_law_true" s__law_true ["_law_switches_here", "_law_formula_here", "_law_configuration"]) : ∀ n : Nat, FnM E (kk + n) "_law_true" (CP (g3 (m__law_true n)))
  | 0 => (hd__law_true.zero (cp_none (fun xs => match xs with | [_, _, _] => rfl | [] => rfl | [_] => rfl | [_, _] => rfl | _ :: _ :: _ :: _ :: _ => rfl))).mono (Nat.zero_le _)
  | n + 1 => by
    have ih := r__law_true (E := E) (kk := kk) hd__law_true n
    exact f__law_true hd__law_true ih

abbrev s_diagram_at : Stmt := top 12

def m_diagram_at_b (a0 : D) : Option (Ctl Empty Empty D) :=
  Ctl.seq ((((pLen a0).bind fun x7 => pSub x7 (.int 1)).bind fun x8 => (some (.int (-1))).bind fun y9 => (some (.int (-1))).bind fun z10 => pRgD x8 y9 z10).bind fun xs6 => forC (fun x2 s1 => ((((pIdx a0 x2).bind fun x3 => (pEq x3 (.int 1)).bind dBool).bind fun k4 => if k4 = true then some (.tuple [x2, (.bool false), s1]) else some (.tuple [x2, s1, (.bool false)])).bind fun x5 => some (.nx x5) : Option (Ctl D D D))) xs6 (.bool true) : Option (Ctl D Empty D)) fun (s11 : D) => some (.rt s11)
def m_diagram_at (a0 : D) : Option D := Ctl.fin Empty.elim (m_diagram_at_b a0)

theorem b_diagram_at {X : Cx} {E : ME} {kk : Nat} (L : LX X E kk ["configuration", "d", "i"] ["configuration", "d", "i"] ["range", "len"] ["configuration", "d", "i"] (defScope s_diagram_at)) (z_len : Free E "len") (z_range : Free E "range") (a0 : D) :
    BS X [.fz a0, .no, .no] (defBody s_diagram_at) (m_diagram_at_b a0) Empty.elim Empty.elim (fun (_ : D) => [.no, .no, .no]) (fun x => x) := by
  unfold m_diagram_at_b
  refine bs_set_a L 1 1 rfl rfl ex_bool ?_
  refine bs_seq (gN' := (fun (s1 : D) => [.fz a0, .fz s1, .no])) (ss_for1 (gS := (fun (s1 : D) => [.fz a0, .fz s1, .no])) L 2 2 rfl rfl (.same (.same (.no .nil))) (xi_rgD L 0 rfl z_range (ex_op_xa op_sub rs_sub (ex_callB L 1 rfl z_len PySem.boot_len call_len rs_len (ax_consA (ex_var L 0 0 rfl rfl rfl) ax_nil)) ex_int) ex_negc ex_negc) (fun s1 x2 => ?_)) ?_
  · 
    refine bs_set L 1 1 rfl rfl (ex_if (tx_cmp_xa (op_eqZ L.un) rs_eq (ex_ix_aa (ex_var L 0 0 rfl rfl rfl) (ex_var L 2 2 rfl rfl rfl) (fun _ _ => rfl)) ex_int (nomark _)) (ex_tup (by decide) (ax_consA (ex_var L 2 2 rfl rfl rfl) (ax_consA ex_bool (ax_consA (ex_var L 1 1 rfl rfl rfl) ax_nil)))) (ex_tup (by decide) (ax_consA (ex_var L 2 2 rfl rfl rfl) (ax_consA (ex_var L 1 1 rfl rfl rfl) (ax_consA ex_bool ax_nil))))) (fun x5 => ?_)
    exact bs_nil (.same (.same (.no .nil)))
  intro s11
  exact bs_ret_a (mk := fun x12 => x12) (ex_var L 1 1 rfl rfl rfl) (fun _ => rfl) (fun _ => (.no (.no (.no .nil))))

theorem f_diagram_at {E : ME} {kk : Nat} (hd : DefAt E "diagram_at" "diagram_at" s_diagram_at ["configuration"]) (z_len : Free E "len") (z_range : Free E "range") : FnM E (kk + 1) "diagram_at" (CP (g1 m_diagram_at)) :=
  hd.fn (N := ["configuration", "d", "i"]) (W := ["configuration", "d", "i"]) (G := ["range", "len"]) (Sl := ["configuration", "d", "i"]) ⟨rfl, rfl, rfl, by decide +kernel, rfl, by decide +kernel, by decide +kernel⟩ (by decide +kernel) (by decide +kernel)
    (fun Γ0 r Γ1 ⟨xs, h1, h2, h3⟩ => match xs, h2 with | [_], _ => by subst h1; rfl)
    fun X L Γ0 r Γ1 ⟨xs, h1, h2, h3⟩ => match xs, h2 with
      | [a0], h2 => by
        subst h1 h3
        exact body_of (d := Empty.elim) (b_diagram_at L z_len z_range a0) h2 (.no .nil) (fun n => n.elim)

abbrev s_law : Stmt := top 30

def m_law_b (ns : List Int) : Option (Ctl Empty Empty D) :=
  (m__law_switches (tape0 ns 0)).bind fun r1 => (pLen r1.1).bind fun x2 => ((m__law_formula r1.2 r1.1).bind fun r3 => (some ((.int 0), r3.2)).bind fun r4 => (pIdx r3.1 r4.1).map fun z5 => (z5, r4.2)).bind fun r6 => ((m__law_formula r6.2 r1.1).bind fun r7 => (some ((.int 0), r7.2)).bind fun r8 => (pIdx r7.1 r8.1).map fun z9 => (z9, r8.2)).bind fun r10 => (m__law_all x2).bind fun x11 => ((pIter x11).bind fun xs13 => (lcM (fun x14 => m__law_true 20 r1.1 r6.1 x14) xs13).map .list).bind fun x15 => ((pIter x11).bind fun xs17 => (lcM (fun x18 => m__law_true 20 r1.1 r10.1 x18) xs17).map .list).bind fun x19 => (m_diagram_of 20 r1.1 r6.1).bind fun x20 => (m_diagram_of 20 r1.1 r10.1).bind fun x21 => ((((m__law_fine x20 x15 x2).bind pTru).map (!·)).bind fun k28 => if k28 = true then some true else (((m__law_fine x21 x19 x2).bind pTru).map (!·)).bind fun k27 => if k27 = true then some true else (((m_negated 12 x20).bind fun x22 => ((pIter x15).bind fun xs24 => (lcM (fun x25 => pNot x25) xs24).map .list).bind fun x26 => m__law_fine x22 x26 x2).bind pTru).map (!·)).bind fun k89 => if k89 = true then Ctl.ex (some (.rt (.bool false)) : Option (Ctl Unit Empty D)) else ((((m_both 12 x20 x21).bind fun x30 => (((pLen x11).bind pRg1).bind fun xs32 => (lcM (fun x33 => (pIdx x15 x33).bind fun x34 => (pTru x34).bind fun k35 => if k35 = true then pIdx x19 x33 else some x34) xs32).map .list).bind fun x36 => m__law_fine x30 x36 x2).bind pTru).map (!·)).bind fun k88 => if k88 = true then Ctl.ex (some (.rt (.bool false)) : Option (Ctl Unit Empty D)) else ((((m_either x20 x21).bind fun x38 => (((pLen x11).bind pRg1).bind fun xs40 => (lcM (fun x41 => (pIdx x15 x41).bind fun x42 => (pTru x42).bind fun k43 => if k43 = true then some x42 else pIdx x19 x41) xs40).map .list).bind fun x44 => m__law_fine x38 x44 x2).bind pTru).map (!·)).bind fun k87 => if k87 = true then Ctl.ex (some (.rt (.bool false)) : Option (Ctl Unit Empty D)) else ((pLen x11).bind fun x46 => m__law_take r10.2 x46).bind fun r47 => (m__law_take r47.2 x2).bind fun r48 => (((((pIdx x11 r47.1).bind fun x49 => m_diagram_at x49).bind fun x50 => (((pLen x11).bind pRg1).bind fun xs52 => (lcM (fun x53 => pEq x53 r47.1) xs52).map .list).bind fun x54 => m__law_fine x50 x54 x2).bind pTru).map (!·)).bind fun k84 => if k84 = true then Ctl.ex (some (.rt (.bool false)) : Option (Ctl Unit Empty D)) else ((((m_switch r48.1).bind fun x56 => ((pIter x11).bind fun xs58 => (lcM (fun x59 => (pIdx x59 r48.1).bind fun x60 => pEq x60 (.int 1)) xs58).map .list).bind fun x61 => m__law_fine x56 x61 x2).bind pTru).map (!·)).bind fun k83 => if k83 = true then Ctl.ex (some (.rt (.bool false)) : Option (Ctl Unit Empty D)) else (((pIter x11).map fun x63 => (x63, r48.2)).bind fun r67 => (lcME (fun x65 t66 => (m__law_take t66 (.int 2)).bind fun r69 => (some ((.int 0), r69.2)).bind fun r70 => (pEq r69.1 r70.1).map fun z71 => (z71, r70.2)) r67.1 r67.2).map fun z68 => (.list z68.1, z68.2)).bind fun r72 => Ctl.seq (((pLen x11).bind pRg1).bind fun xs79 => forC (fun x74 s73 => (((pIdx r72.1 x74).bind pTru).bind fun k78 => if k78 = true then (((pIdx x11 x74).bind fun x75 => m_diagram_at x75).bind fun x76 => m_either s73 x76).bind fun x77 => some (.nx x77) else some (.nx s73) : Option (Ctl D D D))) xs79 (.bool false) : Option (Ctl D Empty D)) fun (s80 : D) => (m__law_fine s80 r72.1 x2).bind fun x81 => some (.rt x81)
def m_law (ns : List Int) : Option D := Ctl.fin Empty.elim (m_law_b ns)

theorem b_law {X : Cx} {E : ME} {kk : Nat} {ns : List Int} (L : LX X E kk ["_law_script", "_law_tape_here", "_law_switches_here", "_law_count", "_law_one", "_law_two", "_law_rows", "_law_first", "_law_second", "_law_d", "_law_e", "_law_at", "_law_i", "_law_drawn", "_law_other", "_law_k", "_law_row", "_law_bit"] ["_law_script", "_law_tape_here", "_law_switches_here", "_law_count", "_law_one", "_law_two", "_law_rows", "_law_first", "_law_second", "_law_d", "_law_e", "_law_at", "_law_i", "_law_drawn", "_law_other", "_law_k"] ["_law_tape", "_law_switches", "len", "_law_formula", "_law_all", "diagram_of", "_law_fine", "negated", "both", "range", "either", "_law_take", "diagram_at", "switch"] ["_law_script", "_law_tape_here", "_law_switches_here", "_law_count", "_law_one", "_law_two", "_law_rows", "_law_first", "_law_second", "_law_d", "_law_e", "_law_at", "_law_i", "_law_drawn", "_law_other", "_law_k"] (defScope s_law)) (z_len : Free E "len") (z_range : Free E "range") (h__law_all : FnM E kk "_law_all" (CP (g1 m__law_all))) (h__law_fine : FnM E kk "_law_fine" (CP (g3 m__law_fine))) (h__law_formula : FnM E kk "_law_formula" (CO1 .l (fun t => g1 (m__law_formula t)))) (h__law_switches : FnM E kk "_law_switches" (CO1 .l (fun t => g0 (m__law_switches t)))) (h__law_take : FnM E kk "_law_take" (CO1 .l (fun t => g1 (m__law_take t)))) (h__law_true : FnM E kk "_law_true" (CP (g3 (m__law_true 20)))) (h_both : FnM E kk "both" (CP (g2 (m_both 12)))) (h_diagram_at : FnM E kk "diagram_at" (CP (g1 m_diagram_at))) (h_diagram_of : FnM E kk "diagram_of" (CP (g2 (m_diagram_of 20)))) (h_either : FnM E kk "either" (CP (g2 m_either))) (h_negated : FnM E kk "negated" (CP (g1 (m_negated 12)))) (h_switch : FnM E kk "switch" (CP (g1 m_switch))) (h__law_tape : FnT E kk "_law_tape") (hl : ns.length ≤ 63) :
    BS X [.sc ns, .no, .no, .no, .no, .no, .no, .no, .no, .no, .no, .no, .no, .no, .no, .no, .no, .no] (defBody s_law) (m_law_b ns) Empty.elim Empty.elim (fun (_ : D) => [.no, .no, .no, .no, .no, .no, .no, .no, .no, .no, .no, .no, .no, .no, .no, .no, .no, .no]) (fun x => x) := by
  unfold m_law_b
  refine bs_tape L 1 1 0 0 0 rfl rfl rfl rfl rfl rfl hl h__law_tape (Nat.le_refl _) ?_
  refine bs_setE (S := (fun (t92 : D) => [.sc ns, .ow .l none t92, .no, .no, .no, .no, .no, .no, .no, .no, .no, .no, .no, .no, .no, .no, .no, .no])) L 2 2 rfl rfl (exe_callO1 L 1 1 1 rfl rfl rfl h__law_switches (Nat.le_refl _) (fun _ => rfl) (fun _ _ => rfl) axe_nil) (fun r1 => ?_)
  refine bs_set L 3 3 rfl rfl (ex_callB L 2 rfl z_len PySem.boot_len call_len rs_len (ax_consA (ex_var L 2 2 rfl rfl rfl) ax_nil)) (fun x2 => ?_)
  refine bs_setE (S := (fun (t91 : D) => [.sc ns, .ow .l none t91, .fz r1.1, .fz x2, .no, .no, .no, .no, .no, .no, .no, .no, .no, .no, .no, .no, .no, .no])) L 4 4 rfl rfl (exe_ix (exe_callO1 L 3 1 1 rfl rfl rfl h__law_formula (Nat.le_refl _) (fun _ => rfl) (fun _ _ => rfl) (axe_consA (ex_var L 2 2 rfl rfl rfl) axe_nil)) (fun r3 => (exe_atom ex_int)) (fun _ _ => rfl)) (fun r6 => ?_)
  refine bs_setE (S := (fun (t90 : D) => [.sc ns, .ow .l none t90, .fz r1.1, .fz x2, .fz r6.1, .no, .no, .no, .no, .no, .no, .no, .no, .no, .no, .no, .no, .no])) L 5 5 rfl rfl (exe_ix (exe_callO1 L 3 1 1 rfl rfl rfl h__law_formula (Nat.le_refl _) (fun _ => rfl) (fun _ _ => rfl) (axe_consA (ex_var L 2 2 rfl rfl rfl) axe_nil)) (fun r7 => (exe_atom ex_int)) (fun _ _ => rfl)) (fun r10 => ?_)
  refine bs_set L 6 6 rfl rfl (ex_call L 4 rfl h__law_all (Nat.le_refl _) (ax_consA (ex_var L 3 3 rfl rfl rfl) ax_nil)) (fun x11 => ?_)
  refine bs_set L 7 7 rfl rfl ((ex_lc1 (Wb := ["_law_row", "_law_one", "_law_switches_here"]) (Gb := ["_law_true"]) (Sb := ["_law_row"]) L 16 0 rfl rfl (by decide +kernel) (xi_val_a (ex_var L 6 6 rfl rfl rfl)) (fun _ L12 x14 => (ex_call L12 0 rfl h__law_true (Nat.le_refl _) (ax_consA (ex_var L12 2 2 rfl rfl rfl) (ax_consA (ex_var L12 4 1 rfl rfl rfl) (ax_consA (ex_var L12 16 0 rfl rfl rfl) ax_nil))))))).pe (fun x15 => ?_) (swF L (by decide +kernel) (by decide +kernel))
  refine bs_set L 8 8 rfl rfl ((ex_lc1 (Wb := ["_law_row", "_law_switches_here", "_law_two"]) (Gb := ["_law_true"]) (Sb := ["_law_row"]) L 16 0 rfl rfl (by decide +kernel) (xi_val_a (ex_var L 6 6 rfl rfl rfl)) (fun _ L16 x18 => (ex_call L16 0 rfl h__law_true (Nat.le_refl _) (ax_consA (ex_var L16 2 1 rfl rfl rfl) (ax_consA (ex_var L16 5 2 rfl rfl rfl) (ax_consA (ex_var L16 16 0 rfl rfl rfl) ax_nil))))))).pe (fun x19 => ?_) (swF L (by decide +kernel) (by decide +kernel))
  refine bs_set L 9 9 rfl rfl (ex_call L 5 rfl h_diagram_of (Nat.le_refl _) (ax_consA (ex_var L 2 2 rfl rfl rfl) (ax_consA (ex_var L 4 4 rfl rfl rfl) ax_nil))) (fun x20 => ?_)
  refine bs_set L 10 10 rfl rfl (ex_call L 5 rfl h_diagram_of (Nat.le_refl _) (ax_consA (ex_var L 2 2 rfl rfl rfl) (ax_consA (ex_var L 5 5 rfl rfl rfl) ax_nil))) (fun x21 => ?_)
  refine bs_ifx (gN' := fun (_ : Unit) => []) (tx_w (wx_or (tx_not (tx_val (ex_call L 6 rfl h__law_fine (Nat.le_refl _) (ax_consA (ex_var L 9 9 rfl rfl rfl) (ax_consA (ex_var L 7 7 rfl rfl rfl) (ax_consA (ex_var L 3 3 rfl rfl rfl) ax_nil)))) (fun _ => rfl))) (wx_or (tx_not (tx_val (ex_call L 6 rfl h__law_fine (Nat.le_refl _) (ax_consA (ex_var L 10 10 rfl rfl rfl) (ax_consA (ex_var L 8 8 rfl rfl rfl) (ax_consA (ex_var L 3 3 rfl rfl rfl) ax_nil)))) (fun _ => rfl))) (wx_or1 (tx_not (tx_val (ex_call L 6 rfl h__law_fine (Nat.le_refl _) (ax_cons (ex_call L 7 rfl h_negated (Nat.le_refl _) (ax_consA (ex_var L 9 9 rfl rfl rfl) ax_nil)) (fun x22 => (ax_cons ((ex_lc1 (Wb := ["_law_bit"]) (Gb := []) (Sb := ["_law_bit"]) L 17 0 rfl rfl (by decide +kernel) (xi_val_a (ex_var L 7 7 rfl rfl rfl)) (fun _ L23 x25 => (ex_not_a (ex_var L23 17 0 rfl rfl rfl))))).pe (fun x26 => (ax_consA (ex_var L 3 3 rfl rfl rfl) ax_nil)))))) (fun _ => rfl))))))) ?_ ?_
  · 
    exact bs_ret_a (mk := fun x29 => x29) ex_bool (fun _ => rfl) (fun _ => (.no (.no (.no (.no (.no (.no (.no (.no (.no (.no (.no (.no (.no (.no (.no (.no (.no (.no .nil)))))))))))))))))))
  refine bs_ifx (gN' := fun (_ : Unit) => []) (tx_not (tx_val (ex_call L 6 rfl h__law_fine (Nat.le_refl _) (ax_cons (ex_call L 8 rfl h_both (Nat.le_refl _) (ax_consA (ex_var L 9 9 rfl rfl rfl) (ax_consA (ex_var L 10 10 rfl rfl rfl) ax_nil))) (fun x30 => (ax_cons ((ex_lc1 (Wb := ["_law_k", "_law_first", "_law_second"]) (Gb := []) (Sb := ["_law_k"]) L 15 0 rfl rfl (by decide +kernel) (xi_rg1 L 9 rfl z_range (ex_callB L 2 rfl z_len PySem.boot_len call_len rs_len (ax_consA (ex_var L 6 6 rfl rfl rfl) ax_nil))) (fun _ L31 x33 => (ex_and (ex_ix_aa (ex_var L31 7 1 rfl rfl rfl) (ex_var L31 15 0 rfl rfl rfl) (fun _ _ => rfl)) (ex_one (ex_ix_aa (ex_var L31 8 2 rfl rfl rfl) (ex_var L31 15 0 rfl rfl rfl) (fun _ _ => rfl))))))).pe (fun x36 => (ax_consA (ex_var L 3 3 rfl rfl rfl) ax_nil)))))) (fun _ => rfl))) ?_ ?_
  · 
    exact bs_ret_a (mk := fun x37 => x37) ex_bool (fun _ => rfl) (fun _ => (.no (.no (.no (.no (.no (.no (.no (.no (.no (.no (.no (.no (.no (.no (.no (.no (.no (.no .nil)))))))))))))))))))
  refine bs_ifx (gN' := fun (_ : Unit) => []) (tx_not (tx_val (ex_call L 6 rfl h__law_fine (Nat.le_refl _) (ax_cons (ex_call L 10 rfl h_either (Nat.le_refl _) (ax_consA (ex_var L 9 9 rfl rfl rfl) (ax_consA (ex_var L 10 10 rfl rfl rfl) ax_nil))) (fun x38 => (ax_cons ((ex_lc1 (Wb := ["_law_k", "_law_first", "_law_second"]) (Gb := []) (Sb := ["_law_k"]) L 15 0 rfl rfl (by decide +kernel) (xi_rg1 L 9 rfl z_range (ex_callB L 2 rfl z_len PySem.boot_len call_len rs_len (ax_consA (ex_var L 6 6 rfl rfl rfl) ax_nil))) (fun _ L39 x41 => (ex_or (ex_ix_aa (ex_var L39 7 1 rfl rfl rfl) (ex_var L39 15 0 rfl rfl rfl) (fun _ _ => rfl)) (ex_one (ex_ix_aa (ex_var L39 8 2 rfl rfl rfl) (ex_var L39 15 0 rfl rfl rfl) (fun _ _ => rfl))))))).pe (fun x44 => (ax_consA (ex_var L 3 3 rfl rfl rfl) ax_nil)))))) (fun _ => rfl))) ?_ ?_
  · 
    exact bs_ret_a (mk := fun x45 => x45) ex_bool (fun _ => rfl) (fun _ => (.no (.no (.no (.no (.no (.no (.no (.no (.no (.no (.no (.no (.no (.no (.no (.no (.no (.no .nil)))))))))))))))))))
  refine bs_setE (S := (fun (t86 : D) => [.sc ns, .ow .l none t86, .fz r1.1, .fz x2, .fz r6.1, .fz r10.1, .fz x11, .fz x15, .fz x19, .fz x20, .fz x21, .no, .no, .no, .no, .no, .no, .no])) L 11 11 rfl rfl (exe_callO1 L 11 1 1 rfl rfl rfl h__law_take (Nat.le_refl _) (fun _ => rfl) (fun _ _ => rfl) (axe_consP (ex_callB L 2 rfl z_len PySem.boot_len call_len rs_len (ax_consA (ex_var L 6 6 rfl rfl rfl) ax_nil)) (fun x46 => axe_nil))) (fun r47 => ?_)
  refine bs_setE (S := (fun (t85 : D) => [.sc ns, .ow .l none t85, .fz r1.1, .fz x2, .fz r6.1, .fz r10.1, .fz x11, .fz x15, .fz x19, .fz x20, .fz x21, .fz r47.1, .no, .no, .no, .no, .no, .no])) L 12 12 rfl rfl (exe_callO1 L 11 1 1 rfl rfl rfl h__law_take (Nat.le_refl _) (fun _ => rfl) (fun _ _ => rfl) (axe_consA (ex_var L 3 3 rfl rfl rfl) axe_nil)) (fun r48 => ?_)
  refine bs_ifx (gN' := fun (_ : Unit) => []) (tx_not (tx_val (ex_call L 6 rfl h__law_fine (Nat.le_refl _) (ax_cons (ex_call L 12 rfl h_diagram_at (Nat.le_refl _) (ax_cons (ex_ix_aa (ex_var L 6 6 rfl rfl rfl) (ex_var L 11 11 rfl rfl rfl) (fun _ _ => rfl)) (fun x49 => ax_nil))) (fun x50 => (ax_cons ((ex_lc1 (Wb := ["_law_k", "_law_at"]) (Gb := []) (Sb := ["_law_k"]) L 15 0 rfl rfl (by decide +kernel) (xi_rg1 L 9 rfl z_range (ex_callB L 2 rfl z_len PySem.boot_len call_len rs_len (ax_consA (ex_var L 6 6 rfl rfl rfl) ax_nil))) (fun _ L51 x53 => (ex_cmp_aa (op_eqZ L51.un) rs_eq (ex_var L51 15 0 rfl rfl rfl) (ex_var L51 11 1 rfl rfl rfl) (nomark _))))).pe (fun x54 => (ax_consA (ex_var L 3 3 rfl rfl rfl) ax_nil)))))) (fun _ => rfl))) ?_ ?_
  · 
    exact bs_ret_a (mk := fun x55 => x55) ex_bool (fun _ => rfl) (fun _ => (.no (.no (.no (.no (.no (.no (.no (.no (.no (.no (.no (.no (.no (.no (.no (.no (.no (.no .nil)))))))))))))))))))
  refine bs_ifx (gN' := fun (_ : Unit) => []) (tx_not (tx_val (ex_call L 6 rfl h__law_fine (Nat.le_refl _) (ax_cons (ex_call L 13 rfl h_switch (Nat.le_refl _) (ax_consA (ex_var L 12 12 rfl rfl rfl) ax_nil)) (fun x56 => (ax_cons ((ex_lc1 (Wb := ["_law_row", "_law_i"]) (Gb := []) (Sb := ["_law_row"]) L 16 0 rfl rfl (by decide +kernel) (xi_val_a (ex_var L 6 6 rfl rfl rfl)) (fun _ L57 x59 => (ex_cmp_xa (op_eqZ L57.un) rs_eq (ex_ix_aa (ex_var L57 16 0 rfl rfl rfl) (ex_var L57 12 1 rfl rfl rfl) (fun _ _ => rfl)) ex_int (nomark _))))).pe (fun x61 => (ax_consA (ex_var L 3 3 rfl rfl rfl) ax_nil)))))) (fun _ => rfl))) ?_ ?_
  · 
    exact bs_ret_a (mk := fun x62 => x62) ex_bool (fun _ => rfl) (fun _ => (.no (.no (.no (.no (.no (.no (.no (.no (.no (.no (.no (.no (.no (.no (.no (.no (.no (.no .nil)))))))))))))))))))
  refine bs_setCE (S := (fun (t82 : D) => [.sc ns, .ow .l none t82, .fz r1.1, .fz x2, .fz r6.1, .fz r10.1, .fz x11, .fz x15, .fz x19, .fz x20, .fz x21, .fz r47.1, .fz r48.1, .no, .no, .no, .no, .no])) L 13 rfl (by decide +kernel) (exe_lc1 (Wb := ["_law_row", "_law_tape_here"]) (Gb := ["_law_take"]) (Sb := ["_law_row"]) L 16 0 rfl rfl (by decide +kernel) (fun _ => rfl) (xie_pure (xi_val_a (ex_var L 6 6 rfl rfl rfl))) (fun _ L64 x65 t66 => (exe_cmp (op_eqZ L64.un) rs_eq (exe_callO1 L64 0 1 1 rfl rfl rfl h__law_take (Nat.le_refl _) (fun _ => rfl) (fun _ _ => rfl) (axe_consA ex_int axe_nil)) (fun r69 => (exe_atom ex_int)) (nomark _)))) (fun r72 => ?_) (swT L (by decide +kernel) (by rfl)).1
  refine bs_set_a L 14 14 rfl rfl ex_bool ?_
  refine bs_seq (gN' := (fun (s73 : D) => [.sc ns, .ow .l none r72.2, .fz r1.1, .fz x2, .fz r6.1, .fz r10.1, .fz x11, .fz x15, .fz x19, .fz x20, .fz x21, .fz r47.1, .fz r48.1, .fz r72.1, .fz s73, .no, .no, .no])) (ss_for1 (gS := (fun (s73 : D) => [.sc ns, .ow .l none r72.2, .fz r1.1, .fz x2, .fz r6.1, .fz r10.1, .fz x11, .fz x15, .fz x19, .fz x20, .fz x21, .fz r47.1, .fz r48.1, .fz r72.1, .fz s73, .no, .no, .no])) L 15 15 rfl rfl (.same (.same (.same (.same (.same (.same (.same (.same (.same (.same (.same (.same (.same (.same (.same (.no (.no (.no .nil)))))))))))))))))) (xi_rg1 L 9 rfl z_range (ex_callB L 2 rfl z_len PySem.boot_len call_len rs_len (ax_consA (ex_var L 6 6 rfl rfl rfl) ax_nil))) (fun s73 x74 => ?_)) ?_
  · 
    refine bs_one (ss_if (tx_val (ex_ix_aa (ex_var L 13 13 rfl rfl rfl) (ex_var L 15 15 rfl rfl rfl) (fun _ _ => rfl)) (fun _ => rfl)) ?_ ?_)
    · 
      refine bs_set L 14 14 rfl rfl (ex_call L 10 rfl h_either (Nat.le_refl _) (ax_consA (ex_var L 14 14 rfl rfl rfl) (ax_cons (ex_call L 12 rfl h_diagram_at (Nat.le_refl _) (ax_cons (ex_ix_aa (ex_var L 6 6 rfl rfl rfl) (ex_var L 15 15 rfl rfl rfl) (fun _ _ => rfl)) (fun x75 => ax_nil))) (fun x76 => ax_nil)))) (fun x77 => ?_)
      exact bs_nil (.same (.same (.same (.same (.same (.same (.same (.same (.same (.same (.same (.same (.same (.same (.same (.no (.no (.no .nil))))))))))))))))))
    · 
      exact bs_nil (.same (.same (.same (.same (.same (.same (.same (.same (.same (.same (.same (.same (.same (.same (.same (.no (.no (.no .nil))))))))))))))))))
  intro s80
  exact bs_ret (mk := fun x81 => x81) (ex_call L 6 rfl h__law_fine (Nat.le_refl _) (ax_consA (ex_var L 14 14 rfl rfl rfl) (ax_consA (ex_var L 13 13 rfl rfl rfl) (ax_consA (ex_var L 3 3 rfl rfl rfl) ax_nil)))) (fun _ => rfl) (fun _ => (.no (.no (.no (.no (.no (.no (.no (.no (.no (.no (.no (.no (.no (.no (.no (.no (.no (.no .nil)))))))))))))))))))

theorem f_law {E : ME} {kk : Nat} {f : Addr} {fd : FuncData} (F : Fun E.K "law" "law" s_law f fd) (z_len : Free E "len") (z_range : Free E "range") (h__law_all : FnM E kk "_law_all" (CP (g1 m__law_all))) (h__law_fine : FnM E kk "_law_fine" (CP (g3 m__law_fine))) (h__law_formula : FnM E kk "_law_formula" (CO1 .l (fun t => g1 (m__law_formula t)))) (h__law_switches : FnM E kk "_law_switches" (CO1 .l (fun t => g0 (m__law_switches t)))) (h__law_take : FnM E kk "_law_take" (CO1 .l (fun t => g1 (m__law_take t)))) (h__law_true : FnM E kk "_law_true" (CP (g3 (m__law_true 20)))) (h_both : FnM E kk "both" (CP (g2 (m_both 12)))) (h_diagram_at : FnM E kk "diagram_at" (CP (g1 m_diagram_at))) (h_diagram_of : FnM E kk "diagram_of" (CP (g2 (m_diagram_of 20)))) (h_either : FnM E kk "either" (CP (g2 m_either))) (h_negated : FnM E kk "negated" (CP (g1 (m_negated 12)))) (h_switch : FnM E kk "switch" (CP (g1 m_switch))) (h__law_tape : FnT E kk "_law_tape") : FnOk E.prog E.w E.K E.mg E.base CX0 (kk + 1) f fd ["_law_script"] (spC E.K (CLw m_law)) :=
  fn_ok (N := ["_law_script", "_law_tape_here", "_law_switches_here", "_law_count", "_law_one", "_law_two", "_law_rows", "_law_first", "_law_second", "_law_d", "_law_e", "_law_at", "_law_i", "_law_drawn", "_law_other", "_law_k", "_law_row", "_law_bit"]) (W := ["_law_script", "_law_tape_here", "_law_switches_here", "_law_count", "_law_one", "_law_two", "_law_rows", "_law_first", "_law_second", "_law_d", "_law_e", "_law_at", "_law_i", "_law_drawn", "_law_other", "_law_k"]) (G := ["_law_tape", "_law_switches", "len", "_law_formula", "_law_all", "diagram_of", "_law_fine", "negated", "both", "range", "either", "_law_take", "diagram_at", "switch"]) (Sl := ["_law_script", "_law_tape_here", "_law_switches_here", "_law_count", "_law_one", "_law_two", "_law_rows", "_law_first", "_law_second", "_law_d", "_law_e", "_law_at", "_law_i", "_law_drawn", "_law_other", "_law_k"]) F ⟨rfl, rfl, rfl, by decide +kernel, rfl, by decide +kernel, by decide +kernel⟩ (by decide +kernel) (by decide +kernel)
    (fun Γ0 r Γ1 ⟨ns, h1, hl, h2, h3⟩ => by subst h1; rfl)
    fun X L Γ0 r Γ1 ⟨ns, h1, hl, h2, h3⟩ => by
      subst h1 h3
      exact body_of (d := Empty.elim) (b_law L z_len z_range h__law_all h__law_fine h__law_formula h__law_switches h__law_take h__law_true h_both h_diagram_at h_diagram_of h_either h_negated h_switch h__law_tape hl) h2 (.no .nil) (fun n => n.elim)

end P
namespace P
open PySem PySem.Spec L2 Z
/-! ## the tape -/
theorem mix_ok {n : Int} {B : Nat} (h : n.natAbs < 2 ^ B) (hB : B ≤ 100000000) : ∃ k : Int, m__law_mix (.int n) = some (.int k) ∧ 0 ≤ k ∧ k < 18446744073709551557 := by
  unfold m__law_mix m__law_mix_b
  rw [pMul_ok h (b := 63) (by decide) (by omega)]
  simp -implicitDefEqProofs only [Option.bind_some, pAdd_int, pInt_int]
  rw [pMod_ok (by decide)]
  simp -implicitDefEqProofs only [Option.bind_some]
  have h1 := Int.emod_nonneg (n * 6364136223846793005 + 1442695040888963407) (show (18446744073709551616 : Int) ≠ 0 by decide)
  have h2 := Int.emod_lt_of_pos (n * 6364136223846793005 + 1442695040888963407) (show (0 : Int) < 18446744073709551616 by decide)
  generalize (n * 6364136223846793005 + 1442695040888963407) % 18446744073709551616 = x at h1 h2 ⊢
  have h3 : x.natAbs < 2 ^ 64 := by omega
  rw [pMul_ok h3 h3 (by decide), pMul_ok h3 (b := 17) (by decide) (by decide)]
  simp -implicitDefEqProofs only [Option.bind_some]
  rw [pFdiv_ok (by decide) (by decide)]
  simp -implicitDefEqProofs only [Option.bind_some, pAdd_int, pInt_int]
  rw [pMod_ok (by decide)]
  exact ⟨_, rfl, Int.emod_nonneg _ (by decide), Int.emod_lt_of_pos _ (by decide)⟩
def TapeOk (C : Nat) (t : D) : Prop := ∃ (ns : List Int) (i : Nat) (v r b : Int), t = .list [.list (ns.map .int), .int i, .int v, .int r, .int b] ∧ (∀ z ∈ ns, z.natAbs < 2 ^ C) ∧ 0 ≤ v ∧ v.natAbs < 2 ^ (C + 2) ∧ 0 ≤ r ∧ r < 18446744073709551557
section
variable (a b c d e x : D)
theorem tp0 : pIdx (.list [a, b, c, d, e]) (.int 0) = some a := rfl
theorem tp1 : pIdx (.list [a, b, c, d, e]) (.int 1) = some b := rfl
theorem tp2 : pIdx (.list [a, b, c, d, e]) (.int 2) = some c := rfl
theorem tp3 : pIdx (.list [a, b, c, d, e]) (.int 3) = some d := rfl
theorem ts1 : pSetI (.list [a, b, c, d, e]) (.int 1) x = some (.list [a, x, c, d, e]) := rfl
theorem ts2 : pSetI (.list [a, b, c, d, e]) (.int 2) x = some (.list [a, b, x, d, e]) := rfl
theorem ts3 : pSetI (.list [a, b, c, d, e]) (.int 3) x = some (.list [a, b, c, x, e]) := rfl
end
theorem pow10 : pPow (.int 10) (.int 18) = some (.int 1000000000000000000) := rfl
theorem take_ok {C : Nat} {t : D} {m : Int} (h : TapeOk C t) (c0 : 64 ≤ C) (c1 : C ≤ 90000000) (h0 : 0 < m) (hm : m < 4611686018427387904) : ∃ k t', m__law_take t (.int m) = some (.int k, t') ∧ 0 ≤ k ∧ k < m ∧ TapeOk C t' := by
  obtain ⟨ns, i, v, r, b, rfl, hn, v0, v1, r0, r1⟩ := h
  have hp : (2 : Nat) ^ (C + 2) = 2 ^ C * 4 := by rw [Nat.pow_add]
  have hp2 : (2 : Nat) ^ (C + 3) = 2 ^ C * 8 := by rw [Nat.pow_add]
  have h64 : 18446744073709551616 ≤ 2 ^ C := Nat.le_trans (by decide : 18446744073709551616 ≤ 2 ^ 64) (Nat.pow_le_pow_right (by decide) c0)
  have hl : m.natAbs.log2 < 9000 := by
    have : m.natAbs < 2 ^ 62 := by omega
    by_cases hz : m.natAbs = 0
    · rw [hz]; decide
    · have := (Nat.log2_lt hz).mpr this
      omega
  unfold m__law_take m__law_take_b
  -- what stands behind the refill
  have fin : ∀ (i' : Nat) (v' r' : Int), 0 ≤ v' → v'.natAbs < 2 ^ (C + 2) → 0 ≤ r' → r' < 18446744073709551557 → ∃ k t', Ctl.fin Empty.elim (Ctl.seq (some (.nx (.list [.list (ns.map .int), .int i', .int v', .int r', .int b])) : Option (Ctl D Empty (D × D))) fun (n2 : D) => (((pIdx n2 (.int 2)).bind fun x36 => pInt x36).bind fun x37 => pMod x37 (.int m)).bind fun x38 => ((pIdx n2 (.int 2)).bind fun x39 => pFdiv x39 (.int m)).bind fun y40 => (some (.int 2)).bind fun z41 => (pSetI n2 z41 y40).bind fun w42 => (some (.rt (x38, w42)) : Option (Ctl Empty Empty (D × D)))) = some (.int k, t') ∧ 0 ≤ k ∧ k < m ∧ TapeOk C t' := by
    intro i' v' r' q0 q1 q2 q3
    simp -implicitDefEqProofs only [Ctl.seq, Option.bind_some, tp2, pInt_int]
    rw [pMod_ok h0, pFdiv_ok h0 hl]
    simp -implicitDefEqProofs only [Option.bind_some, ts2, Ctl.fin]
    refine ⟨_, _, rfl, Int.emod_nonneg _ (by omega), Int.emod_lt_of_pos _ h0, ns, i', _, r', b, rfl, hn, Int.ediv_nonneg q0 (by omega), ?_, q2, q3⟩
    have := Int.ediv_le_self m q0
    have := Int.ediv_nonneg q0 (show 0 ≤ m by omega)
    omega
  simp -implicitDefEqProofs only [tp0, tp1, tp2, Option.bind_some, pLt_int, dBool_bool, pLen_l, List.length_map, decide_eq_true_eq]
  by_cases hv : v < m
  · rw [if_pos hv]
    by_cases hi : (i : Int) < ns.length
    · rw [if_pos hi]
      have hi' : i < ns.length := by omega
      have hx : pIdx (.list (ns.map .int)) (.int i) = some (.int ns[i]) := pIdx_l (by omega) (by simp [hi'])
      have hz := hn ns[i] (List.getElem_mem hi')
      rw [hx]
      generalize ns[i] = z at hz
      simp -implicitDefEqProofs only [Option.bind_some, pGe_int, dBool_bool]
      have hcell : ∃ c : Int, (if (!decide (z < 0)) = true then pMul (.int 2) (.int z) else (pMul (.int (-2)) (.int z)).bind fun x9 => pSub x9 (.int 1)) = some (.int c) ∧ 0 ≤ c ∧ c.natAbs < 2 ^ (C + 2) := by
        rw [pMul_ok (i := 2) (a := 2) (by decide) hz (by omega), pMul_ok (i := -2) (a := 2) (by decide) hz (by omega)]
        by_cases hz0 : z < 0
        · simp -implicitDefEqProofs only [hz0, decide_true, Bool.not_true, Bool.false_eq_true, if_false, Option.bind_some, pSub_int]
          exact ⟨_, rfl, by omega, by rw [hp]; generalize 2 ^ C = P at *; omega⟩
        · simp -implicitDefEqProofs only [hz0, decide_false, Bool.not_false, if_true]
          exact ⟨_, rfl, by omega, by rw [hp]; generalize 2 ^ C = P at *; omega⟩
      obtain ⟨c, e1, c2, c3⟩ := hcell
      rw [e1]
      simp -implicitDefEqProofs only [Option.bind_some, pAdd_int, ts1, tp3, pow10, pGe_int, dBool_bool]
      have hs : (r + c).natAbs < 2 ^ (C + 3) := by rw [hp2]; rw [hp] at c3; generalize 2 ^ C = P at *; omega
      obtain ⟨k1, e2, k10, k11⟩ := mix_ok hs (by omega)
      rw [e2]
      simp -implicitDefEqProofs only [Option.bind_some, ts3]
      have hcell2 : ∃ c' : Int, (if (!decide (c < 1000000000000000000)) = true then some (.int c) else (m__law_mix (.int c)).bind fun x22 => m__law_mix x22) = some (PyData.int c') ∧ 0 ≤ c' ∧ c'.natAbs < 2 ^ (C + 2) := by
        split
        · exact ⟨c, rfl, c2, c3⟩
        · obtain ⟨k2, e3, k20, k21⟩ := mix_ok c3 (by omega)
          rw [e3]
          obtain ⟨k3, e4, k30, k31⟩ := mix_ok (n := k2) (B := 64) (by omega) (by omega)
          simp -implicitDefEqProofs only [Option.bind_some]
          exact ⟨k3, e4, k30, by rw [hp]; generalize 2 ^ C = P at *; omega⟩
      obtain ⟨c', e5, c4, c5⟩ := hcell2
      rw [e5]
      simp -implicitDefEqProofs only [Option.bind_some, ts2]
      exact fin (i + 1) c' k1 c4 c5 k10 k11
    · rw [if_neg hi]
      simp -implicitDefEqProofs only [tp3, Option.bind_some, pAdd_int]
      obtain ⟨k1, e2, k10, k11⟩ := mix_ok (n := r + 1) (B := 65) (by omega) (by omega)
      rw [e2]
      simp -implicitDefEqProofs only [Option.bind_some, ts3, tp3, ts2]
      exact fin i k1 k1 k10 (by rw [hp]; generalize 2 ^ C = P at *; omega) k10 k11
  · rw [if_neg hv]
    exact fin i v r v0 v1 r0 r1
end P
namespace P
open PySem PySem.Spec L2 Z
/-! ## switches -/
def pools : List (List D) := [[S "a", S "b", S "c", S "d", S "e"], [S "aa", S "ab", S "b", S "ba", S "zz"], [S "big", S "debug", S "posix", S "win", S "x"]]
theorem switches_ok {C : Nat} {t : D} (h : TapeOk C t) (c0 : 64 ≤ C) (c1 : C ≤ 90000000) : ∃ (names : List D) (t' : D), m__law_switches t = some (.tuple names, t') ∧ (∃ pool ∈ pools, names.Sublist pool) ∧ names ≠ [] ∧ TapeOk C t' := by
  obtain ⟨k, t1, e, k0, k1, h1⟩ := take_ok (m := 3) h c0 c1 (by decide) (by decide)
  have hk : k = 0 ∨ k = 1 ∨ k = 2 := by omega
  have hp : ∃ pool : List D, pIdx (.list [(.list [(S "a"), (S "b"), (S "c"), (S "d"), (S "e")]), (.list [(S "aa"), (S "ab"), (S "b"), (S "ba"), (S "zz")]), (.list [(S "big"), (S "debug"), (S "posix"), (S "win"), (S "x")])]) (.int k) = some (.list pool) ∧ pool ∈ pools ∧ ∃ x r, pool = x :: r := by
    rcases hk with rfl | rfl | rfl
    · exact ⟨_, rfl, by simp [pools], _, _, rfl⟩
    · exact ⟨_, rfl, by simp [pools], _, _, rfl⟩
    · exact ⟨_, rfl, by simp [pools], _, _, rfl⟩
  obtain ⟨pool, ep, mp, x0, r0, hx⟩ := hp
  obtain ⟨f, hf⟩ : ∃ f : D → D → Option (Bool × D), f = fun x7 t8 => (m__law_take t8 (.int 2)).bind fun r11 => (some ((PyData.int 0), r11.2)).bind fun r12 => ((pEq r11.1 r12.1).bind dBool).map fun z13 => (z13, r12.2) := ⟨_, rfl⟩
  have hI : ∀ x t, TapeOk C t → ∃ b t', f x t = some (b, t') ∧ TapeOk C t' := fun x t h => by
    obtain ⟨k, t1, e, k0, k1, h1⟩ := take_ok (m := 2) h c0 c1 (by decide) (by decide)
    subst hf
    exact ⟨decide (k = 0), t1, by simp -implicitDefEqProofs only [e, Option.bind_some, pEq_int, dBool_bool, Option.map_some], h1⟩
  obtain ⟨ys, t2, e2, s2, h2⟩ := pickE hI pool t1 h1
  unfold m__law_switches m__law_switches_b
  rw [← hf]
  simp -implicitDefEqProofs only [e, Option.bind_some, ep, Option.map_some, pIter, e2, pLen_l, pGt_int, dBool_bool, decide_eq_true_eq]
  cases ys with
  | nil =>
    simp -implicitDefEqProofs only [List.length_nil]
    rw [if_neg (by decide)]
    have : pIdx (.list pool) (.int 0) = some x0 := by rw [hx]; exact pIdx_l (by decide) rfl
    simp -implicitDefEqProofs only [this, Option.bind_some, Ctl.fin_rt]
    exact ⟨[x0], t2, rfl, ⟨pool, mp, by rw [hx]; exact (List.Sublist.cons₂ x0 (List.nil_sublist r0))⟩, by simp, h2⟩
  | cons y ys =>
    rw [if_pos (by simp only [List.length_cons]; omega)]
    simp -implicitDefEqProofs only [pTuple, Option.bind_some, Ctl.fin_rt]
    exact ⟨_, t2, rfl, ⟨pool, mp, s2⟩, by simp, h2⟩
/-! ## the truths -/
/-! ## the law's diagram -/
theorem diagram_ok : ∀ (c : Nat) (bs : List Bool) (i n : Nat), bs.length = 2 ^ c → c < n → c ≤ 20 → m__law_diagram n (.list (bs.map .bool)) (.int i) = some (Dg.dia c bs i).d
  | _, _, _, 0, _, h, _ => by omega
  | 0, bs, i, n + 1, hl, _, _ => by
    match bs, hl with
    | [b], _ => rfl
  | c + 1, bs, i, n + 1, hl, hn, h20 => by
    have hp : 2 ^ (c + 1) = 2 ^ c * 2 := Nat.pow_succ 2 c
    have h1 := diagram_ok c (bs.take (2 ^ c)) (i + 1) n (by rw [List.length_take]; omega) (by omega) (by omega)
    have h2 := diagram_ok c (bs.drop (2 ^ c)) (i + 1) n (by rw [List.length_drop]; omega) (by omega) (by omega)
    have h0 : 0 < 2 ^ c := Nat.two_pow_pos c
    have hlen : (bs.map PyData.bool).length = 2 ^ (c + 1) := by rw [List.length_map]; exact hl
    unfold m__law_diagram m__law_diagram_b
    simp -implicitDefEqProofs only [pLen_l, hlen, Option.bind_some, pEq_int, dBool_bool, decide_eq_true_eq]
    rw [if_neg (by omega), pFdiv_ok (by decide) (by decide)]
    have e2 : (((2 ^ (c + 1) : Nat) : Int)) / 2 = ((2 ^ c : Nat) : Int) := by omega
    rw [e2]
    simp -implicitDefEqProofs only [Option.bind_some, pOpt]
    rw [pSl_take (by omega), pSl_drop (by omega)]
    have e3 : (i : Int) + 1 = ((i + 1 : Nat) : Int) := by omega
    simp -implicitDefEqProofs only [Option.bind_some, pAdd_int, e3, ← List.map_take, ← List.map_drop, h1, h2]
    show _ = some (Dg.mk i (Dg.dia c (bs.take (2 ^ c)) (i + 1)) (Dg.dia c (bs.drop (2 ^ c)) (i + 1))).d
    have hd := Dg.dia_ht c (bs.take (2 ^ c)) (i + 1)
    generalize Dg.dia c (bs.take (2 ^ c)) (i + 1) = L at hd ⊢
    generalize Dg.dia c (bs.drop (2 ^ c)) (i + 1) = R
    rw [pEq, if_pos (Dg.dok (by omega)), Dg.eqv]
    simp -implicitDefEqProofs only [Option.bind_some, dBool_bool, decide_eq_true_eq, pEq_bool]
    unfold Dg.mk
    by_cases h : L = R
    · subst h
      rw [if_pos rfl, if_pos rfl]
      simp
    · rw [if_neg h, if_neg h]
      rfl
/-! ## the program's is_diagram -/
section
variable (a b c x : D)
theorem x30 : pIdx (.tuple [a, b, c]) (.int 0) = some a := rfl
theorem x31 : pIdx (.tuple [a, b, c]) (.int 1) = some b := rfl
theorem x32 : pIdx (.tuple [a, b, c]) (.int 2) = some c := rfl
theorem x20 : pIdx (.list [a, b]) (.int 0) = some a := rfl
theorem x21 : pIdx (.list [a, b]) (.int 1) = some b := rfl
end
theorem same_ok {x y : Dg} (h : x.ht ≤ 90) : m_same x.d y.d = some (.bool (decide (x = y))) := by
  unfold m_same m_same_b
  rw [pEq, if_pos (Dg.dok h), Dg.eqv]
  simp -implicitDefEqProofs only [Option.bind_some, pTru_bool, decide_eq_true_eq, pEq_bool]
  by_cases h : x = y
  · subst h
    rw [if_pos rfl]
    simp
  · rw [if_neg h]
    simp
theorem below_ok : ∀ (n : Nat) (x : Dg) (lo cnt : Int), x.ht < n → x.ht ≤ 80 → m_is_below n x.d (.int lo) (.int cnt) = some (.bool (Dg.wf lo cnt x))
  | 0, _, _, _, h, _ => by omega
  | n + 1, .leaf b, lo, cnt, _, _ => rfl
  | n + 1, .node i l h, lo, cnt, hn, h80 => by
    simp only [Dg.ht] at hn h80
    have h1 := below_ok n l ((i : Int) + 1) cnt (by omega) (by omega)
    have h2 := below_ok n h ((i : Int) + 1) cnt (by omega) (by omega)
    have h3 := same_ok (x := l) (y := h) (by omega)
    unfold m_is_below m_is_below_b
    simp -implicitDefEqProofs only [Dg.d, x30, x31, x32, Option.bind_some, pLen_t, List.length_cons, List.length_nil, pNe_int, dBool_bool, Option.map_some, pTru_bool, pLe_int, pLt_int, pAdd_int, h1, h2, h3, pNot_b, PyData.isBool, PyData.isTuple, PyData.isInt]
    simp -implicitDefEqProofs only [Dg.wf, Bool.not_true, Bool.false_eq_true, if_false, Option.bind_some, decide_true, Bool.not_false, Option.map_some, if_true]
    have q1 : decide ((i : Int) < lo) = !decide (lo ≤ i) := by by_cases h : (i : Int) < lo <;> simp [h] <;> omega
    rw [q1]
    generalize decide (lo ≤ (i : Int)) = A
    generalize decide ((i : Int) < cnt) = B
    generalize Dg.wf ((i : Int) + 1) cnt l = W1
    generalize Dg.wf ((i : Int) + 1) cnt h = W2
    generalize decide (l = h) = E
    cases A <;> cases B <;> cases W1 <;> cases W2 <;> rfl
theorem isd_ok {x : Dg} {cnt : Int} (h : x.ht < 12) : m_is_diagram x.d (.int cnt) = some (.bool (Dg.wf 0 cnt x)) := by
  unfold m_is_diagram m_is_diagram_b
  rw [below_ok 12 x 0 cnt h (by omega)]
  rfl
end P
namespace P
open PySem PySem.Spec L2 Z
/-! ## formulas -/
inductive Fm where
  | yes | no
  | sw (s : Str)
  | nt (f : Fm)
  | an (f g : Fm)
  | or (f g : Fm)
namespace Fm
def d : Fm → D
  | yes => .tuple [S "yes"]
  | no => .tuple [S "no"]
  | sw s => .tuple [S "switch", .str s]
  | nt f => .tuple [S "not", f.d]
  | an f g => .tuple [S "and", f.d, g.d]
  | or f g => .tuple [S "or", f.d, g.d]
def ht : Fm → Nat
  | yes | no | sw _ => 0
  | nt f => f.ht + 1
  | an f g | or f g => max f.ht g.ht + 1
/-- its switches are names -/
def ok (ss : List Str) : Fm → Prop
  | yes | no => True
  | sw s => s ∈ ss
  | nt f => f.ok ss
  | an f g | or f g => f.ok ss ∧ g.ok ss
def tr (ss : List Str) (g : Nat → Bool) : Fm → Bool
  | yes => true
  | no => false
  | sw s => g ((idxS ss s).getD 0)
  | nt f => !f.tr ss g
  | an f h => f.tr ss g && h.tr ss g
  | or f h => f.tr ss g || h.tr ss g
end Fm
theorem idxS_mem : ∀ {ss : List Str} {s : Str}, s ∈ ss → ∃ j, idxS ss s = some j ∧ j < ss.length
  | [], s, h => by cases h
  | y :: r, s, h => by
    unfold idxS
    by_cases e : y = s
    · exact ⟨0, by rw [if_pos e], by simp⟩
    · rw [if_neg e]
      have h' : s ∈ r := by
        cases h with
        | head => exact absurd rfl e
        | tail _ h => exact h
      obtain ⟨j, h1, h2⟩ := idxS_mem h'
      exact ⟨j + 1, by rw [h1]; rfl, by simp; omega⟩
theorem strs_map : ∀ ss : List Str, strsOf (ss.map .str) = some ss
  | [] => rfl
  | s :: r => by show (strsOf (r.map .str)).map (s :: ·) = _; rw [strs_map r]; rfl
theorem slen (a b : Str) : (a ++ b).length = a.length + b.length := by
  show (a.cps ++ b.cps).size = a.cps.size + b.cps.size
  exact Array.size_append
theorem pAdd_s {a b : Str} (h : a.length + b.length ≤ sizeLine) : pAdd (.str a) (.str b) = some (.str (a ++ b)) := by rw [pAdd, if_pos h]
theorem big : 16000000 ≤ sizeLine := by decide
def poolS : List (List Str) := [["a", "b", "c", "d", "e"].map Str.ofString, ["aa", "ab", "b", "ba", "zz"].map Str.ofString, ["big", "debug", "posix", "win", "x"].map Str.ofString]
theorem names_ok {names : List D} {pool : List D} (hp : pool ∈ pools) (hs : names.Sublist pool) : ∃ ss : List Str, names = ss.map .str ∧ ss.length ≤ 5 ∧ (∀ s ∈ ss, s.length ≤ 5) ∧ ∃ q ∈ poolS, ss.Sublist q := by
  have hq : ∃ q ∈ poolS, pool = q.map .str := by
    simp only [pools, List.mem_cons, List.not_mem_nil, or_false] at hp
    rcases hp with rfl | rfl | rfl
    · exact ⟨_, List.mem_cons_self, rfl⟩
    · exact ⟨_, List.mem_cons_of_mem _ List.mem_cons_self, rfl⟩
    · exact ⟨_, List.mem_cons_of_mem _ (List.mem_cons_of_mem _ List.mem_cons_self), rfl⟩
  obtain ⟨q, hq, rfl⟩ := hq
  obtain ⟨ss, h1, h2⟩ := List.sublist_map_iff.mp hs
  have h5 : q.length = 5 ∧ ∀ s ∈ q, s.length ≤ 5 := by
    simp only [poolS, List.mem_cons, List.not_mem_nil, or_false] at hq
    rcases hq with rfl | rfl | rfl <;> decide
  exact ⟨ss, h2, by have := h1.length_le; omega, fun s hs => h5.2 s (h1.subset hs), q, hq, h1⟩
theorem pUn2_t (a b : D) : pUn2 (.tuple [a, b]) = some (a, b) := rfl
/-! ## formulas that are drawn -/
section
variable {C : Nat} (c0 : 64 ≤ C) (c1 : C ≤ 90000000)
include c0 c1
theorem gap_ok {t : D} (h : TapeOk C t) : ∃ (s : Str) (t' : D), m__law_gap t = some (.str s, t') ∧ s.length ≤ 2 ∧ TapeOk C t' := by
  obtain ⟨k, t1, e, k0, k1, h1⟩ := take_ok (m := 5) h c0 c1 (by decide) (by decide)
  have hk : k = 0 ∨ k = 1 ∨ k = 2 ∨ k = 3 ∨ k = 4 := by omega
  have hp : ∃ s : Str, pIdx (.list [(S ""), (S ""), (S ""), (S " "), (S "  ")]) (.int k) = some (.str s) ∧ s.length ≤ 2 := by
    rcases hk with rfl | rfl | rfl | rfl | rfl <;> exact ⟨_, rfl, by decide⟩
  obtain ⟨s, hs, h2⟩ := hp
  unfold m__law_gap m__law_gap_b
  simp -implicitDefEqProofs only [e, Option.bind_some, hs, Option.map_some, Ctl.fin_rt]
  exact ⟨s, t1, rfl, h2, h1⟩
def meas (deep : Int) (k n : Nat) : Prop := 3 * deep.toNat + k ≤ n
/-- what is drawn -/
def Drawn (C : Nat) (ss : List Str) (n : Nat) (o : Option (D × D)) : Prop := ∃ (f : Fm) (s : Str) (t' : D), o = some (.tuple [f.d, .str s], t') ∧ f.ok ss ∧ f.ht ≤ 2 * n ∧ s.length + 10 ≤ 20 * 3 ^ n ∧ TapeOk C t'
omit c0 c1 in
theorem pow_small {n : Nat} (h : n ≤ 11) : 20 * 3 ^ n ≤ 3600000 := by
  have : 3 ^ n ≤ 3 ^ 11 := Nat.pow_le_pow_right (by decide) h
  have e : (3 : Nat) ^ 11 = 177147 := by decide
  omega
/-- the rest of a chain: k turns -/
theorem chain_ok {ss : List Str} {n : Nat} (h11 : n ≤ 10) {con : Fm → Fm → Fm} (hc1 : ∀ f g, f.ok ss → g.ok ss → (con f g).ok ss) (hc2 : ∀ f g, (con f g).ht = max f.ht g.ht + 1)
    {step : D → D × D × D → Option (Ctl (D × D × D) (D × D × D) (D × D))}
    (hstep : ∀ x (f : Fm) (s : Str) t, f.ok ss → s.length ≤ 8000000 → TapeOk C t → ∃ (g : Fm) (s' : Str) (t' : D), step x (f.d, .str s, t) = some (.nx ((con f g).d, .str s', t')) ∧ g.ok ss ∧ g.ht ≤ 2 * n ∧ s'.length + 10 ≤ s.length + 5 + 20 * 3 ^ n ∧ TapeOk C t') :
    ∀ (xs : List D) (k : Nat) (f : Fm) (s : Str) (t : D), xs.length + k ≤ 2 → f.ok ss → f.ht ≤ 2 * n + k → s.length + 10 ≤ 20 * 3 ^ n + (20 * 3 ^ n - 5) * k → TapeOk C t →
      ∃ (g : Fm) (s' : Str) (t' : D), (forC step xs (f.d, .str s, t) : Option (Ctl (D × D × D) Empty (D × D))) = some (.nx (g.d, .str s', t')) ∧ g.ok ss ∧ g.ht ≤ 2 * n + 2 ∧ s'.length + 10 ≤ 20 * 3 ^ (n + 1) ∧ TapeOk C t'
  | [], k, f, s, t, hk, h1, h2, h3, h4 => by
    have h3n : 1 ≤ 3 ^ n := Nat.pow_pos (by decide)
    refine ⟨f, s, t, rfl, h1, by simp at hk; omega, ?_, h4⟩
    have : (20 * 3 ^ n - 5) * k ≤ (20 * 3 ^ n - 5) * 2 := Nat.mul_le_mul_left _ (by simp at hk; omega)
    rw [Nat.pow_succ]
    omega
  | x :: xs, k, f, s, t, hk, h1, h2, h3, h4 => by
    have hp := pow_small (n := n) (by omega)
    have h3n : 1 ≤ 3 ^ n := Nat.pow_pos (by decide)
    simp only [List.length_cons] at hk
    have hb : (20 * 3 ^ n - 5) * k ≤ (20 * 3 ^ n - 5) * 1 := Nat.mul_le_mul_left _ (by omega)
    obtain ⟨g, s', t', e, g1, g2, g3, g4⟩ := hstep x f s t h1 (by omega) h4
    unfold forC
    rw [e]
    refine chain_ok h11 hc1 hc2 hstep xs (k + 1) (con f g) s' t' (by omega) (hc1 f g h1 g1) (by rw [hc2]; omega) ?_ g4
    have : (20 * 3 ^ n - 5) * (k + 1) = (20 * 3 ^ n - 5) * k + (20 * 3 ^ n - 5) := by rw [Nat.mul_succ]
    omega
theorem both_step {ss : List Str} {n : Nat} (h11 : n ≤ 10) {deep : Int} (hm : meas (deep - 1) 1 n) (hd : deep ≤ 10) (ih : ∀ t deep, TapeOk C t → deep ≤ 10 → meas deep 1 n → Drawn C ss n (m__law_part n t (.tuple (ss.map .str)) (.int deep))) {t : D} (h : TapeOk C t) (hm2 : meas deep 1 n) :
    Drawn C ss (n + 1) (Ctl.fin Empty.elim (m__law_both_b (m__law_part n) t (.tuple (ss.map .str)) (.int deep))) := by
  obtain ⟨f, s, t1, e1, f1, f2, f3, h1⟩ := ih t deep h hd hm2
  obtain ⟨k, t2, e2, k0, k1, h2⟩ := take_ok (m := 3) h1 c0 c1 (by decide) (by decide)
  have hp := pow_small (n := n) (by omega)
  have hk : k = 0 ∨ k = 1 ∨ k = 2 := by omega
  have hr : ∃ xs : List D, pRg1 (.int k) = some xs ∧ xs.length ≤ 2 := by
    rcases hk with rfl | rfl | rfl <;> exact ⟨_, rfl, by decide⟩
  obtain ⟨xs, ex, hx⟩ := hr
  unfold m__law_both_b
  simp -implicitDefEqProofs only [e1, Option.bind_some, pUn2_t, e2, ex, Option.map_some]
  generalize hst : (fun (x4 : D) (s3 : D × D × D) => _ : D → D × D × D → Option (Ctl (D × D × D) (D × D × D) (D × D))) = st
  have hstep : ∀ x (f : Fm) (s : Str) t, f.ok ss → s.length ≤ 8000000 → TapeOk C t → ∃ (g : Fm) (s' : Str) (t' : D), st x (f.d, .str s, t) = some (.nx ((Fm.an f g).d, .str s', t')) ∧ g.ok ss ∧ g.ht ≤ 2 * n ∧ s'.length + 10 ≤ s.length + 5 + 20 * 3 ^ n ∧ TapeOk C t' := by
    intro x f s t hf hs ht
    obtain ⟨g, u, t1, e1, g1, g2, g3, h1⟩ := ih t (deep - 1) ht (by omega) hm
    obtain ⟨w1, t2, e2, l2, h2⟩ := gap_ok c0 c1 h1
    obtain ⟨w2, t3, e3, l3, h3⟩ := gap_ok c0 c1 h2
    have b := big
    have hg : (Str.ofString "&").length = 1 := by decide
    subst hst
    simp -implicitDefEqProofs only [pSub_int, Option.bind_some, e1, pUn2_t, e2, S]
    rw [pAdd_s (by omega)]
    simp -implicitDefEqProofs only [Option.bind_some, Option.map_some]
    rw [pAdd_s (by simp only [slen]; omega)]
    simp -implicitDefEqProofs only [Option.bind_some, Option.map_some, e3]
    rw [pAdd_s (by simp only [slen]; omega)]
    simp -implicitDefEqProofs only [Option.bind_some, Option.map_some]
    rw [pAdd_s (by simp only [slen]; omega)]
    exact ⟨g, _, t3, rfl, g1, g2, by simp only [slen]; omega, h3⟩
  obtain ⟨g, s', t3, e3, g1, g2, g3, h3⟩ := chain_ok c0 c1 (con := .an) h11 (fun f g a b => ⟨a, b⟩) (fun f g => rfl) hstep xs 0 f s t2 (by omega) f1 (by omega) (by omega) h2
  rw [e3]
  exact ⟨g, s', t3, rfl, g1, by omega, g3, h3⟩
theorem either_step {ss : List Str} {n : Nat} (h11 : n ≤ 10) {deep : Int} (hm : meas (deep - 1) 2 n) (hd : deep ≤ 10) (ih : ∀ t deep, TapeOk C t → deep ≤ 10 → meas deep 2 n → Drawn C ss n (m__law_both n t (.tuple (ss.map .str)) (.int deep))) {t : D} (h : TapeOk C t) (hm2 : meas deep 2 n) :
    Drawn C ss (n + 1) (Ctl.fin Empty.elim (m__law_either_b (m__law_both n) t (.tuple (ss.map .str)) (.int deep))) := by
  obtain ⟨f, s, t1, e1, f1, f2, f3, h1⟩ := ih t deep h hd hm2
  obtain ⟨k, t2, e2, k0, k1, h2⟩ := take_ok (m := 3) h1 c0 c1 (by decide) (by decide)
  have hp := pow_small (n := n) (by omega)
  have hk : k = 0 ∨ k = 1 ∨ k = 2 := by omega
  have hr : ∃ xs : List D, pRg1 (.int k) = some xs ∧ xs.length ≤ 2 := by
    rcases hk with rfl | rfl | rfl <;> exact ⟨_, rfl, by decide⟩
  obtain ⟨xs, ex, hx⟩ := hr
  unfold m__law_either_b
  simp -implicitDefEqProofs only [e1, Option.bind_some, pUn2_t, e2, ex, Option.map_some]
  generalize hst : (fun (x4 : D) (s3 : D × D × D) => _ : D → D × D × D → Option (Ctl (D × D × D) (D × D × D) (D × D))) = st
  have hstep : ∀ x (f : Fm) (s : Str) t, f.ok ss → s.length ≤ 8000000 → TapeOk C t → ∃ (g : Fm) (s' : Str) (t' : D), st x (f.d, .str s, t) = some (.nx ((Fm.or f g).d, .str s', t')) ∧ g.ok ss ∧ g.ht ≤ 2 * n ∧ s'.length + 10 ≤ s.length + 5 + 20 * 3 ^ n ∧ TapeOk C t' := by
    intro x f s t hf hs ht
    obtain ⟨g, u, t1, e1, g1, g2, g3, h1⟩ := ih t (deep - 1) ht (by omega) hm
    obtain ⟨w1, t2, e2, l2, h2⟩ := gap_ok c0 c1 h1
    obtain ⟨w2, t3, e3, l3, h3⟩ := gap_ok c0 c1 h2
    have b := big
    have hg : (Str.ofString "|").length = 1 := by decide
    subst hst
    simp -implicitDefEqProofs only [pSub_int, Option.bind_some, e1, pUn2_t, e2, S]
    rw [pAdd_s (by omega)]
    simp -implicitDefEqProofs only [Option.bind_some, Option.map_some]
    rw [pAdd_s (by simp only [slen]; omega)]
    simp -implicitDefEqProofs only [Option.bind_some, Option.map_some, e3]
    rw [pAdd_s (by simp only [slen]; omega)]
    simp -implicitDefEqProofs only [Option.bind_some, Option.map_some]
    rw [pAdd_s (by simp only [slen]; omega)]
    exact ⟨g, _, t3, rfl, g1, g2, by simp only [slen]; omega, h3⟩
  obtain ⟨g, s', t3, e3, g1, g2, g3, h3⟩ := chain_ok c0 c1 (con := .or) h11 (fun f g a b => ⟨a, b⟩) (fun f g => rfl) hstep xs 0 f s t2 (by omega) f1 (by omega) (by omega) h2
  rw [e3]
  exact ⟨g, s', t3, rfl, g1, by omega, g3, h3⟩
omit c0 c1 in
theorem one1 : (Str.ofString "1").length = 1 := by decide
omit c0 c1 in
theorem one0 : (Str.ofString "0").length = 1 := by decide
theorem part_step {ss : List Str} (h0 : 0 < ss.length) (h5 : ss.length ≤ 5) (hs5 : ∀ s ∈ ss, s.length ≤ 5) {n : Nat} (h11 : n ≤ 10) {deep : Int} (hd : deep ≤ 10) (hm : 0 < deep → meas (deep - 1) 1 n ∧ meas (deep - 1) 3 n) (ihp : ∀ t deep, TapeOk C t → deep ≤ 10 → meas deep 1 n → Drawn C ss n (m__law_part n t (.tuple (ss.map .str)) (.int deep)))
    (ihe : ∀ t deep, TapeOk C t → deep ≤ 10 → meas deep 3 n → Drawn C ss n (m__law_either n t (.tuple (ss.map .str)) (.int deep))) {t : D} (h : TapeOk C t) :
    Drawn C ss (n + 1) (Ctl.fin Empty.elim (m__law_part_b (m__law_part n) (m__law_either n) t (.tuple (ss.map .str)) (.int deep))) := by
  obtain ⟨k, t1, e1, k0, k1, h1⟩ := take_ok (m := 9) h c0 c1 (by decide) (by decide)
  have hp := pow_small (n := n) (by omega)
  have h3n : 1 ≤ 3 ^ n := Nat.pow_pos (by decide)
  have b := big
  have hsn : (20 : Nat) * 3 ^ (n + 1) = 20 * 3 ^ n * 3 := by rw [Nat.pow_succ]; omega
  unfold m__law_part_b
  simp -implicitDefEqProofs only [e1, Option.bind_some, pLt_int, pLe_int, pEq_int, dBool_bool, decide_eq_true_eq]
  by_cases q1 : k < 5 ∨ deep ≤ 0
  · have q2 : (if k < 5 then some true else some (!decide (0 < deep))) = some true := by
      by_cases z : k < 5
      · rw [if_pos z]
      · rw [if_neg z]
        have : ¬ 0 < deep := by omega
        simp [this]
    rw [q2]
    obtain ⟨j, t2, e2, j0, j1, h2⟩ := take_ok (m := ss.length) h1 c0 c1 (by omega) (by omega)
    have hj : j.toNat < ss.length := by omega
    have hx : pIdx (.tuple (ss.map .str)) (.int j) = some (.str ss[j.toNat]) := pIdx_t j0 (by rw [List.getElem?_map, List.getElem?_eq_getElem hj]; rfl)
    simp -implicitDefEqProofs only [Option.bind_some, if_true, pLen_t, List.length_map, e2, hx, Option.map_some, Ctl.ex_rt, Ctl.fin_rt]
    exact ⟨.sw ss[j.toNat], ss[j.toNat], t2, rfl, List.getElem_mem hj, by simp [Fm.ht], by have := hs5 _ (List.getElem_mem hj); omega, h2⟩
  · have q2 : (if k < 5 then some true else some (!decide (0 < deep))) = some false := by
      rw [if_neg (by omega)]
      have : 0 < deep := by omega
      simp [this]
    rw [q2]
    simp -implicitDefEqProofs only [Option.bind_some, Bool.false_eq_true, if_false]
    have hdp : 0 < deep := by omega
    by_cases q5 : k = 5
    · rw [if_pos q5]
      simp -implicitDefEqProofs only [Ctl.ex_rt, Ctl.fin_rt]
      exact ⟨.yes, Str.ofString "1", t1, rfl, trivial, by simp [Fm.ht], by rw [one1]; omega, h1⟩
    rw [if_neg q5]
    by_cases q6 : k = 6
    · rw [if_pos q6]
      simp -implicitDefEqProofs only [Ctl.ex_rt, Ctl.fin_rt]
      exact ⟨.no, Str.ofString "0", t1, rfl, trivial, by simp [Fm.ht], by rw [one0]; omega, h1⟩
    rw [if_neg q6]
    by_cases q7 : k = 7
    · rw [if_pos q7]
      obtain ⟨f, s, t2, e2, f1, f2, f3, h2⟩ := ihp t1 (deep - 1) h1 (by omega) (hm hdp).1
      obtain ⟨w, t3, e3, l3, h3⟩ := gap_ok c0 c1 h2
      have hg : (Str.ofString "!").length = 1 := by decide
      simp -implicitDefEqProofs only [pSub_int, Option.bind_some, e2, pUn2_t, e3, S]
      rw [pAdd_s (by omega)]
      simp -implicitDefEqProofs only [Option.bind_some, Option.map_some]
      rw [pAdd_s (by simp only [slen]; omega)]
      exact ⟨.nt f, _, t3, rfl, f1, by simp only [Fm.ht]; omega, by simp only [slen]; omega, h3⟩
    · rw [if_neg q7]
      obtain ⟨f, s, t2, e2, f1, f2, f3, h2⟩ := ihe t1 (deep - 1) h1 (by omega) (hm hdp).2
      obtain ⟨w, t3, e3, l3, h3⟩ := gap_ok c0 c1 h2
      obtain ⟨w2, t4, e4, l4, h4⟩ := gap_ok c0 c1 h3
      have hg : (Str.ofString "(").length = 1 := by decide
      have hg2 : (Str.ofString ")").length = 1 := by decide
      simp -implicitDefEqProofs only [pSub_int, Option.bind_some, e2, pUn2_t, e3, S]
      rw [pAdd_s (by omega)]
      simp -implicitDefEqProofs only [Option.bind_some, Option.map_some]
      rw [pAdd_s (by simp only [slen]; omega)]
      simp -implicitDefEqProofs only [Option.bind_some, Option.map_some, e4]
      rw [pAdd_s (by simp only [slen]; omega)]
      simp -implicitDefEqProofs only [Option.bind_some, Option.map_some]
      rw [pAdd_s (by simp only [slen]; omega)]
      exact ⟨f, _, t4, rfl, f1, by omega, by simp only [slen]; omega, h4⟩
theorem gen_ok {ss : List Str} (h0 : 0 < ss.length) (h5 : ss.length ≤ 5) (hs5 : ∀ s ∈ ss, s.length ≤ 5) : ∀ n : Nat, n ≤ 10 →
    (∀ t deep, TapeOk C t → deep ≤ 10 → meas deep 1 n → Drawn C ss n (m__law_part n t (.tuple (ss.map .str)) (.int deep))) ∧
    (∀ t deep, TapeOk C t → deep ≤ 10 → meas deep 2 n → Drawn C ss n (m__law_both n t (.tuple (ss.map .str)) (.int deep))) ∧
    (∀ t deep, TapeOk C t → deep ≤ 10 → meas deep 3 n → Drawn C ss n (m__law_either n t (.tuple (ss.map .str)) (.int deep)))
  | 0, _ => ⟨fun t deep _ _ h => by unfold meas at h; omega, fun t deep _ _ h => by unfold meas at h; omega, fun t deep _ _ h => by unfold meas at h; omega⟩
  | n + 1, hn => by
    obtain ⟨i1, i2, i3⟩ := gen_ok h0 h5 hs5 n (by omega)
    unfold meas at i1 i2 i3 ⊢
    refine ⟨fun t deep h hd hm => ?_, fun t deep h hd hm => ?_, fun t deep h hd hm => ?_⟩
    · exact part_step c0 c1 h0 h5 hs5 (by omega) hd (fun hp => ⟨by unfold meas; omega, by unfold meas; omega⟩) i1 i3 h
    · exact both_step c0 c1 (by omega) (by unfold meas; omega) hd i1 h (by unfold meas; omega)
    · exact either_step c0 c1 (by omega) (by unfold meas; omega) hd i2 h (by unfold meas; omega)
theorem formula_ok {ss : List Str} (h0 : 0 < ss.length) (h5 : ss.length ≤ 5) (hs5 : ∀ s ∈ ss, s.length ≤ 5) {t : D} (h : TapeOk C t) : ∃ (f : Fm) (s : Str) (t' : D), m__law_formula t (.tuple (ss.map .str)) = some (.tuple [f.d, .str s], t') ∧ f.ok ss ∧ f.ht ≤ 18 ∧ s.length ≤ 60 ∧ TapeOk C t' := by
  obtain ⟨f, s, t1, e1, f1, f2, f3, h1⟩ := (gen_ok c0 c1 h0 h5 hs5 9 (by omega)).2.2 t 2 h (by omega) (by unfold meas; decide)
  have hp := pow_small (n := 9) (by omega)
  have b := big
  unfold m__law_formula m__law_formula_b
  have hz : s.length ≤ sizeLine := by omega
  simp -implicitDefEqProofs only [e1, Option.bind_some, pUn2_t, pLen, hz, if_true, pLe_int, dBool_bool]
  by_cases q : s.length ≤ 60
  · have : ¬ (60 : Int) < s.length := by omega
    simp -implicitDefEqProofs only [decide_eq_false this, Bool.not_false, if_true, Option.bind_some, Ctl.fin_rt]
    exact ⟨f, s, t1, rfl, f1, by omega, q, h1⟩
  · have : (60 : Int) < s.length := by omega
    simp -implicitDefEqProofs only [decide_eq_true this, Bool.not_true, Bool.false_eq_true, if_false, Option.bind_some, Ctl.fin_rt]
    exact ⟨.yes, Str.ofString "1", t1, rfl, trivial, by simp [Fm.ht], by rw [one1]; omega, h1⟩
end
end P
namespace P
open PySem PySem.Spec L2 Z
/-! ## the program's operations -/
theorem neg_ok : ∀ (n : Nat) (x : Dg), x.ht < n → m_negated n x.d = some (Dg.neg x).d
  | 0, _, h => by omega
  | n + 1, .leaf b, _ => rfl
  | n + 1, .node i l h, hh => by
    simp only [Dg.ht] at hh
    have h1 := neg_ok n l (by omega)
    have h2 := neg_ok n h (by omega)
    unfold m_negated m_negated_b
    simp -implicitDefEqProofs only [Dg.d, PyData.isTuple, Bool.not_true, Bool.false_eq_true, if_false, x30, x31, x32, Option.bind_some, h1, h2]
    rfl
theorem node_ok {i : Nat} {l h : Dg} (hl : l.ht ≤ 90) : m_node (.int i) l.d h.d = some (Dg.mk i l h).d := by
  unfold m_node m_node_b
  rw [same_ok hl]
  simp -implicitDefEqProofs only [Option.bind_some, pTru_bool, decide_eq_true_eq]
  unfold Dg.mk
  by_cases e : l = h
  · rw [if_pos e, if_pos e]; rfl
  · rw [if_neg e, if_neg e]; rfl
theorem both_ht : ∀ (n : Nat) (x y : Dg), (Dg.both n x y).ht ≤ x.ht + y.ht
  | 0, _, _ => by simp [Dg.both, Dg.ht]
  | n + 1, .leaf a, y => by cases a <;> simp [Dg.both, Dg.ht]
  | n + 1, .node i l h, .leaf b => by cases b <;> simp [Dg.both, Dg.ht]
  | n + 1, .node i l h, .node j m k => by
    have a1 := both_ht n l (.node j m k)
    have a2 := both_ht n h (.node j m k)
    have a3 := both_ht n (.node i l h) m
    have a4 := both_ht n (.node i l h) k
    have a5 := both_ht n l m
    have a6 := both_ht n h k
    simp only [Dg.ht] at a1 a2 a3 a4 ⊢
    unfold Dg.both
    split
    · exact Nat.le_trans Dg.mk_ht (by omega)
    · split
      · exact Nat.le_trans Dg.mk_ht (by omega)
      · exact Nat.le_trans Dg.mk_ht (by omega)
theorem both_ok : ∀ (n : Nat) (x y : Dg), x.ht + y.ht < n → n ≤ 80 → m_both n x.d y.d = some (Dg.both n x y).d
  | 0, _, _, h, _ => by omega
  | n + 1, .leaf a, y, _, _ => by cases a <;> rfl
  | n + 1, .node i l h, .leaf b, _, _ => by cases b <;> rfl
  | n + 1, .node i l h, .node j m k, hh, h80 => by
    simp only [Dg.ht] at hh
    unfold m_both m_both_b
    simp -implicitDefEqProofs only [Dg.d, PyData.isTuple, Bool.not_true, Bool.false_eq_true, if_false, x30, x31, x32, Option.bind_some, pLt_int, pGt_int, dBool_bool, decide_eq_true_eq]
    have hx : PyData.tuple [.int (i : Int), l.d, h.d] = (Dg.node i l h).d := rfl
    have hy : PyData.tuple [.int (j : Int), m.d, k.d] = (Dg.node j m k).d := rfl
    rw [hx, hy]
    unfold Dg.both
    by_cases c1 : i < j
    · rw [if_pos (by omega : (i : Int) < j), if_pos c1, both_ok n l _ (by simp only [Dg.ht]; omega) (by omega), both_ok n h _ (by simp only [Dg.ht]; omega) (by omega)]
      simp -implicitDefEqProofs only [Option.bind_some]
      rw [node_ok (Nat.le_trans (both_ht _ _ _) (by simp only [Dg.ht]; omega))]
      rfl
    · rw [if_neg (by omega : ¬ (i : Int) < j), if_neg c1]
      by_cases c2 : j < i
      · rw [if_pos (by omega : (j : Int) < i), if_pos c2, both_ok n _ m (by simp only [Dg.ht]; omega) (by omega), both_ok n _ k (by simp only [Dg.ht]; omega) (by omega)]
        simp -implicitDefEqProofs only [Option.bind_some]
        rw [node_ok (Nat.le_trans (both_ht _ _ _) (by simp only [Dg.ht]; omega))]
        rfl
      · rw [if_neg (by omega : ¬ (j : Int) < i), if_neg c2, both_ok n l m (by omega) (by omega), both_ok n h k (by omega) (by omega)]
        simp -implicitDefEqProofs only [Option.bind_some]
        rw [node_ok (Nat.le_trans (both_ht _ _ _) (by omega))]
        rfl
/-- a diagram of n switches that says f -/
structure Says (n : Nat) (x : Dg) (f : (Nat → Bool) → Bool) : Prop where
  wf : Dg.wf 0 n x = true
  ev : ∀ g, Dg.ev g x = f g
section
variable {n : Nat} (h5 : n ≤ 5)
include h5
theorem Says.ht {x : Dg} {f} (s : Says n x f) : x.ht ≤ 5 := by
  have := Dg.wf_ht s.wf (by omega)
  omega
theorem says_neg {x : Dg} {f} (s : Says n x f) : ∃ y, m_negated 12 x.d = some y.d ∧ Says n y (fun g => !f g) := by
  have hh := s.ht h5
  exact ⟨Dg.neg x, neg_ok 12 x (by omega), Dg.neg_wf s.wf, fun g => by rw [Dg.neg_ev, s.ev]⟩
theorem says_both {x y : Dg} {f g} (s : Says n x f) (t : Says n y g) : ∃ z, m_both 12 x.d y.d = some z.d ∧ Says n z (fun c => f c && g c) := by
  have hh := s.ht h5
  have hk := t.ht h5
  exact ⟨Dg.both 12 x y, both_ok 12 x y (by omega) (by omega), Dg.both_wf 12 x y 0 s.wf t.wf, fun c => by rw [Dg.both_ev _ 12 x y (by omega), s.ev, t.ev]⟩
theorem says_either {x y : Dg} {f g} (s : Says n x f) (t : Says n y g) : ∃ z, m_either x.d y.d = some z.d ∧ Says n z (fun c => f c || g c) := by
  obtain ⟨x', e1, s1⟩ := says_neg h5 s
  obtain ⟨y', e2, t1⟩ := says_neg h5 t
  obtain ⟨z, e3, s2⟩ := says_both h5 s1 t1
  obtain ⟨w, e4, s3⟩ := says_neg h5 s2
  refine ⟨w, ?_, s3.wf, fun c => by rw [s3.ev]; simp⟩
  unfold m_either m_either_b
  simp -implicitDefEqProofs only [e1, e2, e3, e4, Option.bind_some, Ctl.fin_rt]
theorem says_switch {i : Nat} (hi : i < n) : ∃ z, m_switch (.int i) = some z.d ∧ Says n z (fun c => c i) := by
  refine ⟨.node i (.leaf false) (.leaf true), rfl, ?_, fun c => ?_⟩
  · simp [Dg.wf]
    omega
  · simp only [Dg.ev]
    cases c i <;> rfl
end
/-! ## formulas: their truth, their diagram -/
theorem index_ok {ss : List Str} {s : Str} {j : Nat} (h : idxS ss s = some j) : (if strT (.tuple (ss.map .str)) = true then pIndexT (.tuple (ss.map .str)) [.str s] else none) = some (.int j) := by
  have : strT (.tuple (ss.map .str)) = true := by
    show (strsOf (ss.map .str)).isSome = true
    rw [strs_map]; rfl
  rw [if_pos this]
  show (strsOf (ss.map .str)).bind (fun ys => (idxS ys s).map fun j => PyData.int (j : Nat)) = _
  rw [strs_map]
  show (idxS ss s).map _ = _
  rw [h]
  rfl
section
variable (a b c : D)
theorem x10 : pIdx (.tuple [a]) (.int 0) = some a := rfl
theorem x20t : pIdx (.tuple [a, b]) (.int 0) = some a := rfl
theorem x21t : pIdx (.tuple [a, b]) (.int 1) = some b := rfl
end
theorem tg {a b : String} {q : Bool} (h : decide (Str.ofString a = Str.ofString b) = q) : (pEq (S a) (S b)).bind dBool = some q := by
  rw [S, S, pEq_str, h]; rfl
theorem tgv {a b : String} {q : Bool} (h : decide (Str.ofString a = Str.ofString b) = q) : pEq (S a) (S b) = some (.bool q) := by
  rw [S, S, pEq_str, h]
theorem dof_ok {ss : List Str} (h5 : ss.length ≤ 5) : ∀ (f : Fm) (n : Nat), f.ok ss → f.ht < n → ∃ x : Dg, m_diagram_of n (.tuple (ss.map .str)) f.d = some x.d ∧ Says ss.length x (fun g => f.tr ss g)
  | _, 0, _, h => by omega
  | .yes, n + 1, _, _ => by
    refine ⟨.leaf true, ?_, rfl, fun g => rfl⟩
    unfold m_diagram_of m_diagram_of_b
    simp -implicitDefEqProofs only [Fm.d, x10, Option.bind_some, tg (a := "yes") (b := "yes") (q := true) (by decide), tgv (a := "yes") (b := "yes") (q := true) (by decide), if_true]
    rfl
  | .no, n + 1, _, _ => by
    refine ⟨.leaf false, ?_, rfl, fun g => rfl⟩
    unfold m_diagram_of m_diagram_of_b
    simp -implicitDefEqProofs only [Fm.d, x10, Option.bind_some, tg (a := "no") (b := "yes") (q := false) (by decide), tg (a := "no") (b := "no") (q := true) (by decide), tgv (a := "no") (b := "yes") (q := false) (by decide), Bool.false_eq_true, if_false, if_true]
    rfl
  | .sw s, n + 1, ho, _ => by
    obtain ⟨j, e1, hj⟩ := idxS_mem (show s ∈ ss from ho)
    obtain ⟨x, e2, hs⟩ := says_switch h5 hj
    refine ⟨x, ?_, hs.wf, fun g => by rw [hs.ev]; simp [Fm.tr, e1]⟩
    unfold m_diagram_of m_diagram_of_b
    simp -implicitDefEqProofs only [Fm.d, x20t, x21t, Option.bind_some, tg (a := "switch") (b := "yes") (q := false) (by decide), tg (a := "switch") (b := "no") (q := false) (by decide), tg (a := "switch") (b := "switch") (q := true) (by decide), Bool.false_eq_true, if_false, if_true, index_ok e1, e2]
    rfl
  | .nt f, n + 1, ho, hh => by
    simp only [Fm.ht] at hh
    obtain ⟨x, e1, hs⟩ := dof_ok h5 f n ho (by omega)
    obtain ⟨y, e2, ht⟩ := says_neg h5 hs
    refine ⟨y, ?_, ht⟩
    unfold m_diagram_of m_diagram_of_b
    simp -implicitDefEqProofs only [Fm.d, x20t, x21t, Option.bind_some, tg (a := "not") (b := "yes") (q := false) (by decide), tg (a := "not") (b := "no") (q := false) (by decide), tg (a := "not") (b := "switch") (q := false) (by decide), tg (a := "not") (b := "not") (q := true) (by decide), Bool.false_eq_true, if_false, if_true, e1, e2]
    rfl
  | .an f k, n + 1, ho, hh => by
    simp only [Fm.ht] at hh
    obtain ⟨x, e1, hs⟩ := dof_ok h5 f n ho.1 (by omega)
    obtain ⟨y, e2, ht⟩ := dof_ok h5 k n ho.2 (by omega)
    obtain ⟨z, e3, hz⟩ := says_both h5 hs ht
    refine ⟨z, ?_, hz⟩
    unfold m_diagram_of m_diagram_of_b
    simp -implicitDefEqProofs only [Fm.d, x30, x31, x32, Option.bind_some, tg (a := "and") (b := "yes") (q := false) (by decide), tg (a := "and") (b := "no") (q := false) (by decide), tg (a := "and") (b := "switch") (q := false) (by decide), tg (a := "and") (b := "not") (q := false) (by decide), tg (a := "and") (b := "and") (q := true) (by decide), Bool.false_eq_true, if_false, if_true, e1, e2, e3]
    rfl
  | .or f k, n + 1, ho, hh => by
    simp only [Fm.ht] at hh
    obtain ⟨x, e1, hs⟩ := dof_ok h5 f n ho.1 (by omega)
    obtain ⟨y, e2, ht⟩ := dof_ok h5 k n ho.2 (by omega)
    obtain ⟨z, e3, hz⟩ := says_either h5 hs ht
    refine ⟨z, ?_, hz⟩
    unfold m_diagram_of m_diagram_of_b
    simp -implicitDefEqProofs only [Fm.d, x30, x31, x32, Option.bind_some, tg (a := "or") (b := "yes") (q := false) (by decide), tg (a := "or") (b := "no") (q := false) (by decide), tg (a := "or") (b := "switch") (q := false) (by decide), tg (a := "or") (b := "not") (q := false) (by decide), tg (a := "or") (b := "and") (q := false) (by decide), Bool.false_eq_true, if_false, if_true, e1, e2, e3]
    rfl
end P
namespace P
open PySem PySem.Spec L2 Z
/-! ## configurations -/
def bi (b : Bool) : D := .int (if b = true then 1 else 0)
def cd (r : List Bool) : D := .tuple (r.map bi)
theorem cd_snoc {r : List Bool} (h : r.length ≤ 1000) (b : Bool) : pAdd (cd r) (.tuple [bi b]) = some (cd (r ++ [b])) := by
  unfold cd
  rw [pAdd, if_pos (Nat.le_trans (by simp; omega) (by decide : 2000 ≤ sizeLine))]
  simp
theorem pExt_l {xs ys : List D} (h : xs.length + ys.length ≤ 100000) : pExt (.list xs) (.list ys) = some (.list (xs ++ ys)) := by
  show (if xs.length + ys.length ≤ sizeLine then _ else _) = _
  rw [if_pos (Nat.le_trans h (by decide))]
theorem pApp_l {xs : List D} {y : D} (h : xs.length ≤ 100000) : pApp (.list xs) y = some (.list (xs ++ [y])) := by
  show (if xs.length < sizeLine then _ else _) = _
  rw [if_pos (Nat.lt_of_le_of_lt h (by decide))]
theorem all_ok {n : Nat} (h5 : n ≤ 5) : m__law_all (.int n) = some (.list ((Dg.allc n).map cd)) := by
  unfold m__law_all m__law_all_b
  rw [pRg1_ok (by omega)]
  simp -implicitDefEqProofs only [Option.bind_some]
  rw [show (PyData.list [PyData.tuple []]) = PyData.list ((Dg.allc 0).map cd) from rfl, forC_range (st := fun i => PyData.list ((Dg.allc i).map cd))]
  · rfl
  · intro i hi
    simp -implicitDefEqProofs only [pIter, Option.bind_some]
    have hl := Dg.allc_len i
    have hp : 2 ^ i ≤ 2 ^ 5 := Nat.pow_le_pow_right (by decide) (by omega)
    have hp5 : 2 ^ 5 = 32 := by decide
    rw [show (PyData.list []) = PyData.list ((Dg.grow1 []).map cd) from rfl, forC_pre (enc := cd) (st := fun done => PyData.list ((Dg.grow1 done).map cd)) (Dg.allc i) []]
    · simp -implicitDefEqProofs only [Ctl.seq_nx, List.nil_append, Dg.allc_grow]
    · intro d1 r d2 e
      have hr : r.length = i := Dg.allc_mem (by rw [show Dg.allc i = d1 ++ r :: d2 from e]; simp)
      have hd : d1.length ≤ 32 := by
        have := congrArg List.length (show Dg.allc i = d1 ++ r :: d2 from e)
        simp [hl] at this
        omega
      have hg : (Dg.grow1 d1).length = 2 * d1.length := by
        clear e hd
        induction d1 with
        | nil => rfl
        | cons x xs ih => simp [Dg.grow1] at ih ⊢; omega
      have e1 := cd_snoc (r := r) (by omega) false
      have e2 := cd_snoc (r := r) (by omega) true
      simp only [bi, Bool.false_eq_true, if_false, if_true] at e1 e2
      simp -implicitDefEqProofs only [e1, e2, Option.bind_some]
      rw [pExt_l (by simp [hg]; omega)]
      simp -implicitDefEqProofs only [Option.bind_some, Dg.grow1_append, List.map_append]
      rfl
/-! ## holds, true -/
theorem at_cd {r : List Bool} {i : Nat} (h : i < r.length) : pIdx (cd r) (.int i) = some (bi (Dg.pt 0 r i)) := by
  refine pIdx_t (by omega) ?_
  simp [Dg.pt, h]
theorem holds_ok {n : Nat} {r : List Bool} (hr : r.length = n) {x : Dg} (hw : Dg.wf 0 n x = true) (h5 : x.ht ≤ 50) : m_holds x.d (cd r) = some (.bool (Dg.ev (Dg.pt 0 r) x)) := by
  have key : ∀ (N : Nat) (x : Dg) (lo : Int), Dg.wf lo n x = true → x.ht < N → (whileC (fun s1 => some (PyData.isTuple s1)) (fun s1 => (((((pIdx s1 (.int 0)).bind fun y2 => pIdx (cd r) y2).bind fun y3 => pAdd (.int 1) y3).bind fun y4 => pIdx s1 y4).bind fun x5 => some (.nx x5) : Option (Ctl D D D))) N x.d : Option (Ctl D Empty D)) = some (.nx (.bool (Dg.ev (Dg.pt 0 r) x))) := by
    intro N
    induction N with
    | zero => intro x lo _ h; omega
    | succ N ih =>
      intro x lo hw h
      cases x with
      | leaf b => rfl
      | node i l k =>
        simp only [Dg.wf, Bool.and_eq_true, decide_eq_true_eq] at hw
        simp only [Dg.ht] at h
        have hc := at_cd (r := r) (i := i) (by omega)
        have p0 : pIdx (Dg.node i l k).d (.int 0) = some (.int i) := rfl
        have p1 : pIdx (Dg.node i l k).d (.int 1) = some l.d := rfl
        have p2 : pIdx (Dg.node i l k).d (.int 2) = some k.d := rfl
        have pt : PyData.isTuple (Dg.node i l k).d = true := rfl
        unfold whileC
        simp -implicitDefEqProofs only [pt, p0, hc, Option.bind_some]
        cases q : Dg.pt 0 r i with
        | false =>
          have e1 : pAdd (.int 1) (bi false) = some (.int 1) := rfl
          simp -implicitDefEqProofs only [e1, Option.bind_some, p1]
          rw [ih l _ hw.1.1.2 (by omega)]
          simp [Dg.ev, q]
        | true =>
          have e1 : pAdd (.int 1) (bi true) = some (.int 2) := rfl
          simp -implicitDefEqProofs only [e1, Option.bind_some, p2]
          rw [ih k _ hw.1.2 (by omega)]
          simp [Dg.ev, q]
  unfold m_holds m_holds_b
  rw [key 100000 x 0 hw (by omega)]
  rfl
theorem true_ok {ss : List Str} {r : List Bool} (hr : r.length = ss.length) : ∀ (f : Fm) (n : Nat), f.ok ss → f.ht < n → m__law_true n (.tuple (ss.map .str)) f.d (cd r) = some (.bool (f.tr ss (Dg.pt 0 r)))
  | _, 0, _, h => by omega
  | .yes, n + 1, _, _ => by
    unfold m__law_true m__law_true_b
    simp -implicitDefEqProofs only [Fm.d, x10, Option.bind_some, tg (a := "yes") (b := "yes") (q := true) (by decide), tgv (a := "yes") (b := "yes") (q := true) (by decide), if_true]
    rfl
  | .no, n + 1, _, _ => by
    unfold m__law_true m__law_true_b
    simp -implicitDefEqProofs only [Fm.d, x10, Option.bind_some, tg (a := "no") (b := "yes") (q := false) (by decide), tg (a := "no") (b := "no") (q := true) (by decide), tgv (a := "no") (b := "yes") (q := false) (by decide), Bool.false_eq_true, if_false, if_true]
    rfl
  | .sw s, n + 1, ho, _ => by
    obtain ⟨j, e1, hj⟩ := idxS_mem (show s ∈ ss from ho)
    have hc := at_cd (r := r) (i := j) (by omega)
    have hb : ∀ b, pEq (bi b) (.int 1) = some (.bool b) := fun b => by cases b <;> rfl
    unfold m__law_true m__law_true_b
    simp -implicitDefEqProofs only [Fm.d, x20t, x21t, Option.bind_some, tg (a := "switch") (b := "yes") (q := false) (by decide), tg (a := "switch") (b := "no") (q := false) (by decide), tg (a := "switch") (b := "switch") (q := true) (by decide), Bool.false_eq_true, if_false, if_true, index_ok e1, hc, hb]
    simp [Fm.tr, e1]
  | .nt f, n + 1, ho, hh => by
    simp only [Fm.ht] at hh
    have e1 := true_ok hr f n ho (by omega)
    unfold m__law_true m__law_true_b
    simp -implicitDefEqProofs only [Fm.d, x20t, x21t, Option.bind_some, tg (a := "not") (b := "yes") (q := false) (by decide), tg (a := "not") (b := "no") (q := false) (by decide), tg (a := "not") (b := "switch") (q := false) (by decide), tg (a := "not") (b := "not") (q := true) (by decide), Bool.false_eq_true, if_false, if_true, e1, pNot_b]
    rfl
  | .an f k, n + 1, ho, hh => by
    simp only [Fm.ht] at hh
    have e1 := true_ok hr f n ho.1 (by omega)
    have e2 := true_ok hr k n ho.2 (by omega)
    unfold m__law_true m__law_true_b
    simp -implicitDefEqProofs only [Fm.d, x30, x31, x32, Option.bind_some, tg (a := "and") (b := "yes") (q := false) (by decide), tg (a := "and") (b := "no") (q := false) (by decide), tg (a := "and") (b := "switch") (q := false) (by decide), tg (a := "and") (b := "not") (q := false) (by decide), tg (a := "and") (b := "and") (q := true) (by decide), Bool.false_eq_true, if_false, if_true, e1, e2, pTru_bool]
    simp only [Fm.tr]
    cases f.tr ss (Dg.pt 0 r) <;> rfl
  | .or f k, n + 1, ho, hh => by
    simp only [Fm.ht] at hh
    have e1 := true_ok hr f n ho.1 (by omega)
    have e2 := true_ok hr k n ho.2 (by omega)
    unfold m__law_true m__law_true_b
    simp -implicitDefEqProofs only [Fm.d, x30, x31, x32, Option.bind_some, tg (a := "or") (b := "yes") (q := false) (by decide), tg (a := "or") (b := "no") (q := false) (by decide), tg (a := "or") (b := "switch") (q := false) (by decide), tg (a := "or") (b := "not") (q := false) (by decide), tg (a := "or") (b := "and") (q := false) (by decide), Bool.false_eq_true, if_false, if_true, e1, e2, pTru_bool]
    simp only [Fm.tr]
    cases f.tr ss (Dg.pt 0 r) <;> rfl
end P
namespace P
open PySem PySem.Spec L2 Z
/-! ## chosen -/
def en (p : List Bool × Dg) : D := .tuple [cd p.1, p.2.d]
theorem notF (x : Dg) : pIsNot x.d (.bool false) = some (.bool (!decide (x = .leaf false))) := by
  cases x with
  | leaf b => cases b <;> rfl
  | node i l h => rfl
theorem isT (x : Dg) : pIs x.d (.bool true) = some (.bool (decide (x = .leaf true))) := by
  cases x with
  | leaf b => cases b <;> rfl
  | node i l h => rfl
theorem inner_ok (x : Dg) (i : Nat) (b : Bool) : ((if (PyData.isTuple x.d) = true then (pIdx x.d (.int 0)).bind fun x7 => (pEq x7 (.int (0 + (i : Nat)))).bind dBool else some false).bind fun k9 => if k9 = true then (pAdd (.int 1) (bi b)).bind fun y8 => pIdx x.d y8 else some x.d) = some (Dg.step i b x).d := by
  cases x with
  | leaf c => rfl
  | node j l h =>
    have p0 : pIdx (Dg.node j l h).d (.int 0) = some (.int j) := rfl
    have pt : PyData.isTuple (Dg.node j l h).d = true := rfl
    simp -implicitDefEqProofs only [pt, if_true, p0, Option.bind_some, pEq_int, dBool_bool, decide_eq_true_eq]
    show _ = some (if j = i then (if b = true then h else l) else Dg.node j l h).d
    by_cases e : j = i
    · rw [if_pos (by omega), if_pos e]
      cases b <;> rfl
    · rw [if_neg (by omega), if_neg e]
theorem longer_append (i : Nat) (a b : List (List Bool × Dg)) : Dg.longer i (a ++ b) = Dg.longer i a ++ Dg.longer i b := by simp [Dg.longer]
theorem longer_len (i : Nat) (a : List (List Bool × Dg)) : (Dg.longer i a).length ≤ 2 * a.length := by
  induction a with
  | nil => exact Nat.le_refl _
  | cons x xs ih =>
    have e : x :: xs = [x] ++ xs := rfl
    rw [e, longer_append, List.length_append]
    have : (Dg.longer i [x]).length ≤ 2 := by
      simp only [Dg.longer, List.flatMap_cons, List.flatMap_nil, List.append_nil]
      exact List.length_filterMap_le _ _
    simp only [List.length_append, List.length_singleton]
    omega
theorem longer_row {i m : Nat} {a : List (List Bool × Dg)} (h : ∀ p ∈ a, p.1.length = m) : ∀ p ∈ Dg.longer i a, p.1.length = m + 1 := by
  intro p hp
  simp only [Dg.longer, List.mem_flatMap, List.mem_filterMap] at hp
  obtain ⟨q, hq, b, _, hb⟩ := hp
  split at hb
  · cases hb
  · cases hb
    simp [h q hq]
/-- what is found behind i switches -/
def fnd (x : Dg) : Nat → List (List Bool × Dg)
  | 0 => [([], x)]
  | i + 1 => Dg.longer i (fnd x i)
theorem fnd_found (x : Dg) : ∀ (k i : Nat), Dg.found k i (fnd x i) = fnd x (i + k)
  | 0, i => rfl
  | k + 1, i => by
    show Dg.found k (i + 1) (Dg.longer i (fnd x i)) = _
    rw [show Dg.longer i (fnd x i) = fnd x (i + 1) from rfl, fnd_found x k (i + 1)]
    congr 1
    omega
theorem fnd_len (x : Dg) : ∀ i, (fnd x i).length ≤ 2 ^ i
  | 0 => Nat.le_refl _
  | i + 1 => by
    have := longer_len i (fnd x i)
    have := fnd_len x i
    show (Dg.longer i (fnd x i)).length ≤ _
    rw [Nat.pow_succ]; omega
theorem fnd_row (x : Dg) : ∀ i, ∀ p ∈ fnd x i, p.1.length = i
  | 0 => by intro p hp; simp [fnd] at hp; simp [hp]
  | i + 1 => longer_row (fnd_row x i)
theorem pUn2_en (p : List Bool × Dg) : pUn2 (en p) = some (cd p.1, p.2.d) := rfl
theorem chosen_ok {n : Nat} (h5 : n ≤ 5) {x : Dg} (hw : Dg.wf 0 n x = true) : m_chosen x.d (.int n) = some (.list (((Dg.allc n).filter fun r => Dg.ev (Dg.pt 0 r) x).map cd)) := by
  unfold m_chosen m_chosen_b
  rw [pRg1_ok (by omega)]
  simp -implicitDefEqProofs only [Option.bind_some]
  rw [show (PyData.list [PyData.tuple [PyData.tuple [], x.d]]) = PyData.list ((fnd x 0).map en) from rfl, forC_range (st := fun i => PyData.list ((fnd x i).map en))]
  · simp -implicitDefEqProofs only [Ctl.seq_nx, pIter, Option.bind_some, lcTI]
    rw [lcI_map (p := fun p : List Bool × Dg => decide (p.2 = .leaf true)) (g := fun p => cd p.1)]
    · have h := Dg.found_ok n 0 (fnd x 0) (fun p hp => by simp [fnd] at hp; subst hp; simpa using hw)
      rw [fnd_found, Nat.zero_add] at h
      have h2 : List.map (fun p : List Bool × Dg => cd p.1) ((fnd x n).filter fun p => decide (p.2 = .leaf true)) = (((fnd x n).filter fun p => decide (p.2 = .leaf true)).map (·.1)).map cd := by rw [List.map_map]; rfl
      simp -implicitDefEqProofs only [Option.map_some, Option.bind_some, Ctl.fin_rt]
      rw [h2, h]
      simp [fnd]
    · intro p hp
      rw [pUn2_en]
      simp -implicitDefEqProofs only [Option.bind_some, isT, dBool_bool]
    · intro p hp
      rw [pUn2_en]
      simp -implicitDefEqProofs only [Option.bind_some]
  · intro i hi
    have hl := fnd_len x i
    have hp : 2 ^ i ≤ 2 ^ 5 := Nat.pow_le_pow_right (by decide) (by omega)
    have hp5 : 2 ^ 5 = 32 := by decide
    simp -implicitDefEqProofs only [pIter, Option.bind_some]
    rw [show (PyData.list []) = PyData.list ((Dg.longer i []).map en) from rfl, forC_pre (enc := en) (st := fun done => PyData.list ((Dg.longer i done).map en)) (fnd x i) []]
    · simp -implicitDefEqProofs only [Ctl.seq_nx, List.nil_append]
      rfl
    · intro d1 p d2 e
      have hm : p ∈ fnd x i := by rw [show fnd x i = d1 ++ p :: d2 from e]; simp
      have hr := fnd_row x i p hm
      have hd : d1.length ≤ 32 := by
        have := congrArg List.length (show fnd x i = d1 ++ p :: d2 from e)
        simp at this
        omega
      have hg := longer_len i d1
      have one : ∀ (b : Bool) (acc : List D), acc.length ≤ 1000 → (((if (PyData.isTuple p.2.d) = true then (pIdx p.2.d (.int 0)).bind fun x7 => (pEq x7 (.int (0 + (i : Nat)))).bind dBool else some false).bind fun k9 => if k9 = true then (pAdd (.int 1) (bi b)).bind fun y8 => pIdx p.2.d y8 else some p.2.d).bind fun x10 => ((pIsNot x10 (.bool false)).bind dBool).bind fun k14 => if k14 = true then ((pAdd (cd p.1) (.tuple [bi b])).bind fun x12 => some (.tuple [x12, x10])).bind fun y13 => (pApp (.list acc) y13).bind fun z11 => some (.nx z11) else some (.nx (.list acc)) : Option (Ctl D D D)) = some (.nx (.list (acc ++ if Dg.step i b p.2 = .leaf false then [] else [en (p.1 ++ [b], Dg.step i b p.2)]))) := by
        intro b acc ha
        rw [inner_ok]
        simp -implicitDefEqProofs only [Option.bind_some, notF, dBool_bool]
        by_cases z : Dg.step i b p.2 = .leaf false
        · simp [z]
        · rw [if_pos (by simp [z]), cd_snoc (by omega) b]
          simp -implicitDefEqProofs only [Option.bind_some]
          rw [pApp_l (by omega), if_neg z]
          rfl
      have o1 := one false ((Dg.longer i d1).map en) (by rw [List.length_map]; omega)
      have o2 := one true ((Dg.longer i d1).map en ++ if Dg.step i false p.2 = .leaf false then [] else [en (p.1 ++ [false], Dg.step i false p.2)]) (by rw [List.length_append, List.length_map]; split <;> simp <;> omega)
      rw [pUn2_en]
      simp -implicitDefEqProofs only [Option.bind_some, forC]
      simp only [bi, Bool.false_eq_true, if_false, if_true] at o1 o2
      rw [o1]
      simp -implicitDefEqProofs only []
      rw [o2]
      simp -implicitDefEqProofs only [Ctl.seq_nx, longer_append, List.map_append]
      simp only [Dg.longer, List.flatMap_cons, List.flatMap_nil, List.append_nil]
      by_cases z1 : Dg.step i false p.2 = .leaf false <;> by_cases z2 : Dg.step i true p.2 = .leaf false <;> simp [z1, z2]
end P
namespace P
open PySem PySem.Spec L2 Z
/-! ## the law's own comparison, the whole of one diagram -/
theorem lsame_ok : ∀ (n : Nat) (x : Dg), x.ht < n → m__law_same n x.d x.d = some (.bool true)
  | 0, _, h => by omega
  | n + 1, .leaf b, _ => by cases b <;> rfl
  | n + 1, .node i l h, hh => by
    simp only [Dg.ht] at hh
    have h1 := lsame_ok n l (by omega)
    have h2 := lsame_ok n h (by omega)
    unfold m__law_same m__law_same_b
    simp -implicitDefEqProofs only [Dg.d, x30, x31, x32, Option.bind_some, pLen_t, List.length_cons, List.length_nil, pNe_int, dBool_bool, h1, h2, PyData.isBool, PyData.isTuple, pTru_bool, Bool.not_true, Bool.false_eq_true, if_false, decide_true]
    rfl
theorem plainAll_map {A : Type} {g : A → D} (h : ∀ a, (g a).plain = true) : ∀ xs : List A, PyData.plainAll (xs.map g) = true
  | [] => rfl
  | a :: xs => by show (PyData.plain (g a) && PyData.plainAll (xs.map g)) = true; rw [h a, plainAll_map h xs]; rfl
theorem depthAll_map {A : Type} {g : A → D} {k : Nat} (h : ∀ a, (g a).depth ≤ k) : ∀ xs : List A, PyData.depthAll (xs.map g) ≤ k
  | [] => by simp [PyData.depthAll]
  | a :: xs => by
    have := h a
    have := depthAll_map h xs
    simp only [List.map_cons, PyData.depthAll]
    omega
theorem bi_plain (b : Bool) : (bi b).plain = true := rfl
theorem bi_depth (b : Bool) : (bi b).depth ≤ 1 := by simp [bi, PyData.depth]
theorem cd_plain (r : List Bool) : (cd r).plain = true := plainAll_map bi_plain r
theorem cd_depth (r : List Bool) : (cd r).depth ≤ 3 := by
  have := depthAll_map bi_depth r
  simp only [cd, PyData.depth]
  omega
theorem rows_plain (rs : List (List Bool)) : (PyData.list (rs.map cd)).plain = true := plainAll_map cd_plain rs
theorem rows_depth (rs : List (List Bool)) : (PyData.list (rs.map cd)).depth ≤ 5 := by
  have := depthAll_map cd_depth rs
  simp only [PyData.depth]
  omega
theorem least_ok {d : D} {n : D} {rs : List (List Bool)} (h : m_chosen d n = some (.list (rs.map cd))) : m_least d n = (if 0 < rs.length then pIdx (.list (rs.map cd)) (.int 0) else some .none) := by
  unfold m_least m_least_b
  rw [h]
  simp -implicitDefEqProofs only [Option.bind_some]
  cases rs with
  | nil => rfl
  | cons r rs =>
    have e0 : pIdx (.list ((r :: rs).map cd)) (.int 0) = some (cd r) := pIdx_l (by decide) rfl
    have e1 : pTru (.list ((r :: rs).map cd)) = some true := rfl
    rw [if_pos (by simp only [List.length_cons]; omega), e1, e0]
    rfl
theorem many_ok {d : D} {n : D} {rs : List (List Bool)} (h : m_chosen d n = some (.list (rs.map cd))) : m_how_many d n = some (.int rs.length) := by
  unfold m_how_many m_how_many_b
  rw [h]
  simp -implicitDefEqProofs only [Option.bind_some, pLen_l, List.length_map, Ctl.fin_rt]
/-- the truths of a set of configurations, as the law writes them -/
def bits (n : Nat) (f : (Nat → Bool) → Bool) : D := .list (((Dg.allc n).map fun r => f (Dg.pt 0 r)).map .bool)
theorem filter_range {A B : Type} (xs : List A) (p : A → Bool) (g : A → B) (d : A) : ((List.range xs.length).filter fun i => p (xs.getD i d)).map (fun i => g (xs.getD i d)) = (xs.filter p).map g := by
  have h : (List.range xs.length).map (fun i => xs.getD i d) = xs := by
    apply List.ext_getElem?
    intro i
    by_cases hi : i < xs.length
    · simp [hi]
    · simp [hi]
  have h2 : (xs.filter p).map g = (((List.range xs.length).map (fun i => xs.getD i d)).filter p).map g := by rw [h]
  rw [h2, List.filter_map, List.map_map]
  rfl
theorem fine_ok {n : Nat} (h5 : n ≤ 5) {x : Dg} {f : (Nat → Bool) → Bool} (s : Says n x f) : m__law_fine x.d (bits n f) (.int n) = some (.bool true) := by
  have hh := s.ht h5
  have hl := Dg.allc_len n
  have hf : (fun r => f (Dg.pt 0 r)) = fun r => Dg.ev (Dg.pt 0 r) x := by funext r; rw [s.ev]
  have h1 : m__law_diagram 6 (bits n f) (.int 0) = some x.d := by
    have := diagram_ok n ((Dg.allc n).map fun r => f (Dg.pt 0 r)) 0 6 (by rw [List.length_map]; exact hl) (by omega) (by omega)
    rw [hf, Dg.one s.wf] at this
    unfold bits
    rw [hf]
    exact this
  have h2 := lsame_ok 12 x (by omega)
  have h3 := isd_ok (x := x) (cnt := (n : Int)) (by omega)
  rw [s.wf] at h3
  have hall := all_ok h5
  have hch := chosen_ok h5 s.wf
  have hle := least_ok hch
  have hma := many_ok hch
  have hp : 2 ^ n ≤ 2 ^ 5 := Nat.pow_le_pow_right (by decide) h5
  have hp5 : 2 ^ 5 = 32 := by decide
  have row : ∀ i : Nat, i < 2 ^ n → pIdx (.list ((Dg.allc n).map cd)) (.int (i : Int)) = some (cd ((Dg.allc n).getD i [])) := fun i hi => pIdx_l (by omega) (by simp [hl, hi])
  have bit : ∀ i : Nat, i < 2 ^ n → pIdx (bits n f) (.int (i : Int)) = some (.bool (Dg.ev (Dg.pt 0 ((Dg.allc n).getD i [])) x)) := fun i hi => by
    unfold bits
    rw [hf]
    exact pIdx_l (by omega) (by simp [hl, hi])
  have due : lcI (fun x8 => (pIdx (bits n f) x8).bind pTru) (fun x8 => pIdx (.list ((Dg.allc n).map cd)) x8) (rgU 0 (2 ^ n)) = some (((Dg.allc n).filter fun r => Dg.ev (Dg.pt 0 r) x).map cd) := by
    rw [rgU_map, lcI_map (p := fun i => Dg.ev (Dg.pt 0 ((Dg.allc n).getD i [])) x) (g := fun i => cd ((Dg.allc n).getD i []))]
    · rw [← hl, filter_range (Dg.allc n) (fun r => Dg.ev (Dg.pt 0 r) x) cd []]
    · intro i hi
      rw [bit i (by simpa using hi)]
      rfl
    · intro i hi
      exact row i (by simpa using hi)
  have mem : ∀ i : Nat, i < 2 ^ n → ((Dg.allc n).getD i []).length = n := fun i hi => by
    have hi' : i < (Dg.allc n).length := by omega
    have : (Dg.allc n).getD i [] = (Dg.allc n)[i] := by simp [hi']
    rw [this]
    exact Dg.allc_mem (List.getElem_mem hi')
  have tk : ∀ i : Nat, i < 2 ^ n → m_holds x.d (cd ((Dg.allc n).getD i [])) = some (.bool (Dg.ev (Dg.pt 0 ((Dg.allc n).getD i [])) x)) := fun i hi => holds_ok (mem i hi) s.wf (by omega)
  unfold m__law_fine m__law_fine_b
  simp -implicitDefEqProofs only [h1, h2, h3, hall, Option.bind_some, pTru_bool, Option.map_some, Bool.not_true, Bool.false_eq_true, if_false, pIsNot_b, dBool_bool, beq_self_eq_true, pLen_l, List.length_map, hl]
  rw [pRg1_ok (by omega)]
  simp -implicitDefEqProofs only [Option.bind_some, due, Option.map_some]
  rw [forC_range (st := fun _ => ())]
  · generalize hq : (Dg.allc n).filter (fun r => Dg.ev (Dg.pt 0 r) x) = q at hch hle hma ⊢
    simp -implicitDefEqProofs only [Ctl.seq_nx, hch, hma, hle, Option.bind_some, pLen_l, List.length_map, pNe_int, dBool_bool, decide_true, Bool.not_true, Bool.false_eq_true, if_false, pGt_int, decide_eq_true_eq]
    rw [pNe_refl (Nat.le_trans (rows_depth q) (by decide)) (rows_plain q)]
    simp -implicitDefEqProofs only [Option.bind_some, dBool_bool, Bool.false_eq_true, if_false]
    cases q with
    | nil => rfl
    | cons r q =>
      have e0 : pIdx (.list ((r :: q).map cd)) (.int 0) = some (cd r) := pIdx_l (by decide) rfl
      rw [if_pos (by simp), if_pos (by simp only [List.length_cons]; omega), e0]
      simp -implicitDefEqProofs only [Option.bind_some]
      rw [pEq_refl (Nat.le_trans (cd_depth r) (by decide)) (cd_plain r)]
      rfl
  · intro i hi
    rw [Int.zero_add]
    simp -implicitDefEqProofs only [row i hi, tk i hi, bit i hi, Option.bind_some, PyData.isBool, Bool.not_true, Bool.false_eq_true, if_false, pNe_bool, dBool_bool, decide_true]
end P
namespace P
open PySem PySem.Spec L2 Z
/-! ## one configuration -/
def pdF : List Bool → Nat → Dg
  | [], _ => .leaf true
  | b :: q, i => if b = true then .node i (.leaf false) (pdF q (i + 1)) else .node i (pdF q (i + 1)) (.leaf false)
def mt (g : Nat → Bool) : Nat → List Bool → Bool
  | _, [] => true
  | i, b :: q => (g i == b) && mt g (i + 1) q
theorem pdF_ne : ∀ (r : List Bool) (i : Nat), pdF r i ≠ .leaf false
  | [], i => by simp [pdF]
  | b :: q, i => by cases b <;> simp [pdF]
theorem pdF_wf {n : Int} : ∀ (r : List Bool) (i : Nat), (i : Int) + r.length ≤ n → Dg.wf i n (pdF r i) = true
  | [], i, _ => rfl
  | b :: q, i, h => by
    simp only [List.length_cons] at h
    have ih := pdF_wf (n := n) q (i + 1) (by omega)
    have hn := pdF_ne q (i + 1)
    have ih' : Dg.wf ((i : Int) + 1) n (pdF q (i + 1)) = true := by exact_mod_cast ih
    cases b with
    | true =>
      simp only [pdF, if_true, Dg.wf, ih', Bool.and_true, decide_eq_true (Int.le_refl (i : Int)), Bool.true_and, Bool.and_eq_true, decide_eq_true_eq]
      exact ⟨by omega, by simp [Ne.symm hn]⟩
    | false =>
      simp only [pdF, Bool.false_eq_true, if_false, Dg.wf, ih', Bool.and_true, decide_eq_true (Int.le_refl (i : Int)), Bool.true_and, Bool.and_eq_true, decide_eq_true_eq]
      exact ⟨by omega, by simp [hn]⟩
theorem pdF_ev (g : Nat → Bool) : ∀ (r : List Bool) (i : Nat), Dg.ev g (pdF r i) = mt g i r
  | [], i => rfl
  | b :: q, i => by
    have ih := pdF_ev g q (i + 1)
    cases b with
    | true =>
      simp only [pdF, if_true, Dg.ev, mt, ih]
      cases g i <;> simp
    | false =>
      simp only [pdF, Bool.false_eq_true, if_false, Dg.ev, mt, ih]
      cases g i <;> simp
theorem mt_pt : ∀ (r q p : List Bool), r.length = q.length → mt (Dg.pt 0 (p ++ q)) p.length r = decide (q = r)
  | [], q, p, h => by
    have : q = [] := by cases q with | nil => rfl | cons _ _ => simp at h
    subst this
    rfl
  | b :: r, [], p, h => by simp at h
  | b :: r, c :: q, p, h => by
    have ih := mt_pt r q (p ++ [c]) (by simpa using h)
    have e1 : p ++ [c] ++ q = p ++ c :: q := by simp
    rw [e1, List.length_append, List.length_singleton] at ih
    have e2 : Dg.pt 0 (p ++ c :: q) p.length = c := by simp [Dg.pt]
    simp only [mt, e2, ih]
    by_cases h1 : c = b
    · subst h1; simp
    · simp [h1]
theorem pat_ok {n : Nat} (h5 : n ≤ 5) {r : List Bool} (hr : r.length = n) : ∃ x : Dg, m_diagram_at (cd r) = some x.d ∧ Says n x (fun g => mt g 0 r) := by
  refine ⟨pdF r 0, ?_, by simpa using pdF_wf (n := n) r 0 (by simp [hr]), fun g => pdF_ev g r 0⟩
  have hrg : pRgD (.int ((n : Int) - 1)) (.int (-1)) (.int (-1)) = some ((List.range n).map fun i : Nat => PyData.int (((n : Int) - 1) + (i : Int) * (-1))) := by
    have : n = 0 ∨ n = 1 ∨ n = 2 ∨ n = 3 ∨ n = 4 ∨ n = 5 := by omega
    rcases this with rfl | rfl | rfl | rfl | rfl | rfl <;> rfl
  have hl : pLen (cd r) = some (.int n) := by unfold cd; rw [pLen_t, List.length_map, hr]
  unfold m_diagram_at m_diagram_at_b
  simp -implicitDefEqProofs only [hl, Option.bind_some, pSub_int, hrg]
  rw [show (PyData.bool true) = (pdF (r.drop (n - 0)) (n - 0)).d by rw [List.drop_of_length_le (by omega)]; rfl, forC_rangeE (st := fun i => (pdF (r.drop (n - i)) (n - i)).d)]
  · simp -implicitDefEqProofs only [Ctl.seq_nx, Nat.sub_self, List.drop_zero, Ctl.fin_rt]
  · intro i hi
    have hk : n - (i + 1) < r.length := by omega
    have e1 : (n : Int) - 1 + (i : Int) * (-1) = ((n - (i + 1) : Nat) : Int) := by omega
    have e2 := at_cd hk
    have e3 : r.drop (n - (i + 1)) = r[n - (i + 1)] :: r.drop (n - i) := by
      rw [List.drop_eq_getElem_cons hk]
      congr 2
      omega
    have e4 : Dg.pt 0 r (n - (i + 1)) = r[n - (i + 1)] := by simp [Dg.pt, hk]
    have e5 : n - (i + 1) + 1 = n - i := by omega
    have hb : ∀ b, pEq (bi b) (.int 1) = some (.bool b) := fun b => by cases b <;> rfl
    rw [e1]
    simp -implicitDefEqProofs only [e2, Option.bind_some, hb, dBool_bool, e4]
    rw [e3]
    simp only [pdF, e5]
    generalize pdF (r.drop (n - i)) (n - i) = y
    cases r[n - (i + 1)] <;> rfl
theorem allc_inj : ∀ {c i j : Nat} {r : List Bool}, (Dg.allc c)[i]? = some r → (Dg.allc c)[j]? = some r → i = j
  | 0, i, j, r, h, k => by
    have h1 := (List.getElem?_eq_some_iff.mp h).1
    have h2 := (List.getElem?_eq_some_iff.mp k).1
    simp [Dg.allc] at h1 h2
    omega
  | c + 1, i, j, r, h, k => by
    have hl := Dg.allc_len c
    simp only [Dg.allc] at h k
    by_cases hi : i < 2 ^ c <;> by_cases hj : j < 2 ^ c
    · rw [List.getElem?_append_left (by simp [hl, hi]), List.getElem?_map] at h
      rw [List.getElem?_append_left (by simp [hl, hj]), List.getElem?_map] at k
      obtain ⟨q, h1, h2⟩ := Option.map_eq_some_iff.mp h
      obtain ⟨p, k1, k2⟩ := Option.map_eq_some_iff.mp k
      rw [← h2] at k2
      cases k2
      exact allc_inj h1 k1
    · rw [List.getElem?_append_left (by simp [hl, hi]), List.getElem?_map] at h
      rw [List.getElem?_append_right (by simp [hl]; omega), List.getElem?_map] at k
      obtain ⟨q, h1, h2⟩ := Option.map_eq_some_iff.mp h
      obtain ⟨p, k1, k2⟩ := Option.map_eq_some_iff.mp k
      rw [← h2] at k2
      cases k2
    · rw [List.getElem?_append_right (by simp [hl]; omega), List.getElem?_map] at h
      rw [List.getElem?_append_left (by simp [hl, hj]), List.getElem?_map] at k
      obtain ⟨q, h1, h2⟩ := Option.map_eq_some_iff.mp h
      obtain ⟨p, k1, k2⟩ := Option.map_eq_some_iff.mp k
      rw [← h2] at k2
      cases k2
    · rw [List.getElem?_append_right (by simp [hl]; omega), List.getElem?_map] at h
      rw [List.getElem?_append_right (by simp [hl]; omega), List.getElem?_map] at k
      obtain ⟨q, h1, h2⟩ := Option.map_eq_some_iff.mp h
      obtain ⟨p, k1, k2⟩ := Option.map_eq_some_iff.mp k
      rw [← h2] at k2
      cases k2
      have := allc_inj h1 k1
      simp only [List.length_map, hl] at this
      omega
end P
namespace P
open PySem PySem.Spec L2 Z
/-! ## the law -/
theorem bits_map {n : Nat} {f : (Nat → Bool) → Bool} : PyData.list ((Dg.allc n).map fun r => PyData.bool (f (Dg.pt 0 r))) = bits n f := by unfold bits; rw [List.map_map]; rfl
theorem getD_range {A : Type} (xs : List A) (d : A) : (List.range xs.length).map (fun i => xs.getD i d) = xs := by
  apply List.ext_getElem?
  intro i
  by_cases hi : i < xs.length
  · simp [hi]
  · simp [hi]
theorem bits_range {n : Nat} {f : (Nat → Bool) → Bool} : PyData.list ((List.range (2 ^ n)).map fun i => PyData.bool (f (Dg.pt 0 ((Dg.allc n).getD i [])))) = bits n f := by
  have h := getD_range (Dg.allc n) []
  rw [Dg.allc_len] at h
  rw [← bits_map]
  conv => rhs; rw [← h, List.map_map]
  rfl
theorem bit_at {n i : Nat} {f : (Nat → Bool) → Bool} (h : i < 2 ^ n) : pIdx (bits n f) (.int (i : Int)) = some (.bool (f (Dg.pt 0 ((Dg.allc n).getD i [])))) := by
  have hl := Dg.allc_len n
  unfold bits
  exact pIdx_l (by omega) (by simp [hl, h])
theorem row_at {n i : Nat} (h : i < 2 ^ n) : pIdx (.list ((Dg.allc n).map cd)) (.int (i : Int)) = some (cd ((Dg.allc n).getD i [])) := by
  have hl := Dg.allc_len n
  exact pIdx_l (by omega) (by simp [hl, h])
theorem row_len {n i : Nat} (h : i < 2 ^ n) : ((Dg.allc n).getD i []).length = n ∧ (Dg.allc n)[i]? = some ((Dg.allc n).getD i []) := by
  have hi' : i < (Dg.allc n).length := by rw [Dg.allc_len]; exact h
  have e : (Dg.allc n).getD i [] = (Dg.allc n)[i] := by simp [hi']
  rw [e]
  exact ⟨Dg.allc_mem (List.getElem_mem hi'), List.getElem?_eq_getElem hi'⟩
theorem iter_bits {n : Nat} {f : (Nat → Bool) → Bool} : pIter (bits n f) = some ((Dg.allc n).map fun r => PyData.bool (f (Dg.pt 0 r))) := by
  rw [← bits_map]; rfl
theorem tape0_ok {C : Nat} {ns : List Int} (hb : ∀ z ∈ ns, Builtin.Int.intBits z ≤ C) : TapeOk C (tape0 ns 0) := by
  refine ⟨ns, 0, 0, 1, 0, rfl, fun z hz => bits_lt (hb z hz), Int.le_refl 0, ?_, by decide, by decide⟩
  rw [Int.natAbs_zero]
  exact Nat.two_pow_pos _
theorem same_row {n i j : Nat} (hi : i < 2 ^ n) (hj : j < 2 ^ n) : mt (Dg.pt 0 ((Dg.allc n).getD i [])) 0 ((Dg.allc n).getD j []) = decide (i = j) := by
  have h1 := row_len hi
  have h2 := row_len hj
  have h := mt_pt ((Dg.allc n).getD j []) ((Dg.allc n).getD i []) [] (by rw [h1.1, h2.1])
  simp only [List.nil_append, List.length_nil] at h
  rw [h]
  by_cases e : i = j
  · subst e; simp
  · have : ¬ (Dg.allc n).getD i [] = (Dg.allc n).getD j [] := fun q => e (allc_inj (c := n) h1.2 (by rw [q]; exact h2.2))
    rw [decide_eq_false this, decide_eq_false e]
theorem law_math : ∀ ns : List Int, ns.length ≤ 63 → (∀ z ∈ ns, Builtin.Int.intBits z ≤ 1048576) → m_law ns = some (.bool true) := by
  intro ns _ hb
  have h0 := tape0_ok hb
  have c0 : 64 ≤ 1048576 := by decide
  have c1 : 1048576 ≤ 90000000 := by decide
  generalize 1048576 = C at h0 c0 c1
  obtain ⟨names, t1, e1, ⟨pool, hp, hs⟩, hne, h1⟩ := switches_ok h0 c0 c1
  obtain ⟨ss, rfl, h5, hs5, _⟩ := names_ok hp hs
  have hn0 : 0 < ss.length := by
    cases ss with
    | nil => exact absurd rfl hne
    | cons _ _ => simp
  obtain ⟨f1, s1, t2, e2, f1o, f1h, _, h2⟩ := formula_ok c0 c1 hn0 h5 hs5 h1
  obtain ⟨f2, s2, t3, e3, f2o, f2h, _, h3⟩ := formula_ok c0 c1 hn0 h5 hs5 h2
  obtain ⟨x1, d1, y1⟩ := dof_ok h5 f1 20 f1o (by omega)
  obtain ⟨x2, d2, y2⟩ := dof_ok h5 f2 20 f2o (by omega)
  obtain ⟨x3, d3, y3⟩ := says_neg h5 y1
  obtain ⟨x4, d4, y4⟩ := says_both h5 y1 y2
  obtain ⟨x5, d5, y5⟩ := says_either h5 y1 y2
  have hall := all_ok h5
  have hlen : (Dg.allc ss.length).length = 2 ^ ss.length := Dg.allc_len _
  have hpw : 2 ^ ss.length ≤ 2 ^ 5 := Nat.pow_le_pow_right (by decide) h5
  have hp5 : 2 ^ 5 = 32 := by decide
  have hp0 : 0 < 2 ^ ss.length := Nat.two_pow_pos _
  have tr1 : lcM (fun x14 => m__law_true 20 (.tuple (ss.map .str)) f1.d x14) ((Dg.allc ss.length).map cd) = some ((Dg.allc ss.length).map fun r => PyData.bool (f1.tr ss (Dg.pt 0 r))) :=
    lcM_map fun r hr => true_ok (Dg.allc_mem hr) f1 20 f1o (by omega)
  have tr2 : lcM (fun x14 => m__law_true 20 (.tuple (ss.map .str)) f2.d x14) ((Dg.allc ss.length).map cd) = some ((Dg.allc ss.length).map fun r => PyData.bool (f2.tr ss (Dg.pt 0 r))) :=
    lcM_map fun r hr => true_ok (Dg.allc_mem hr) f2 20 f2o (by omega)
  have b1 := fine_ok h5 y1
  have b2 := fine_ok h5 y2
  have b3 := fine_ok h5 y3
  have b4 := fine_ok h5 y4
  have b5 := fine_ok h5 y5
  have hrg : pRg1 (.int ((2 ^ ss.length : Nat) : Int)) = some ((List.range (2 ^ ss.length)).map fun i : Nat => PyData.int (i : Int)) := by rw [pRg1_ok (by omega), rgU_map]
  generalize hN : ss.length = n at *
  have l3 : lcM (fun x25 => pNot x25) ((Dg.allc n).map fun r => PyData.bool (f1.tr ss (Dg.pt 0 r))) = some ((Dg.allc n).map fun r => PyData.bool (!f1.tr ss (Dg.pt 0 r))) :=
    lcM_map fun r _ => rfl
  have l4 : lcM (fun x33 => (pIdx (bits n fun g => f1.tr ss g) x33).bind fun x34 => (pTru x34).bind fun k35 => if k35 = true then pIdx (bits n fun g => f2.tr ss g) x33 else some x34) ((List.range (2 ^ n)).map fun i : Nat => PyData.int (i : Int)) = some ((List.range (2 ^ n)).map fun i => PyData.bool (f1.tr ss (Dg.pt 0 ((Dg.allc n).getD i [])) && f2.tr ss (Dg.pt 0 ((Dg.allc n).getD i [])))) :=
    lcM_map fun i hi => by
      rw [bit_at (by simpa using hi), bit_at (by simpa using hi)]
      simp only [Option.bind_some, pTru_bool]
      cases f1.tr ss (Dg.pt 0 ((Dg.allc n).getD i [])) <;> rfl
  have l5 : lcM (fun x41 => (pIdx (bits n fun g => f1.tr ss g) x41).bind fun x42 => (pTru x42).bind fun k43 => if k43 = true then some x42 else pIdx (bits n fun g => f2.tr ss g) x41) ((List.range (2 ^ n)).map fun i : Nat => PyData.int (i : Int)) = some ((List.range (2 ^ n)).map fun i => PyData.bool (f1.tr ss (Dg.pt 0 ((Dg.allc n).getD i [])) || f2.tr ss (Dg.pt 0 ((Dg.allc n).getD i [])))) :=
    lcM_map fun i hi => by
      rw [bit_at (by simpa using hi), bit_at (by simpa using hi)]
      simp only [Option.bind_some, pTru_bool]
      cases f1.tr ss (Dg.pt 0 ((Dg.allc n).getD i [])) <;> rfl
  obtain ⟨at_, t4, e4, a0, a1, h4⟩ := take_ok (m := ((2 ^ n : Nat) : Int)) h3 c0 c1 (by omega) (by omega)
  obtain ⟨at', rfl⟩ := Int.eq_ofNat_of_zero_le a0
  have ha : at' < 2 ^ n := by omega
  obtain ⟨sw, t5, e5, w0, w1, h5'⟩ := take_ok (m := (n : Int)) h4 c0 c1 (by omega) (by omega)
  obtain ⟨sw', rfl⟩ := Int.eq_ofNat_of_zero_le w0
  have hw : sw' < n := by omega
  obtain ⟨x6, d6, y6⟩ := pat_ok h5 (row_len ha).1
  obtain ⟨x7, d7, y7⟩ := says_switch h5 hw
  have b6 := fine_ok h5 y6
  have b7 := fine_ok h5 y7
  have l6 : lcM (fun x53 => pEq x53 (.int (at' : Int))) ((List.range (2 ^ n)).map fun i : Nat => PyData.int (i : Int)) = some ((List.range (2 ^ n)).map fun i => PyData.bool (mt (Dg.pt 0 ((Dg.allc n).getD i [])) 0 ((Dg.allc n).getD at' []))) :=
    lcM_map fun i hi => by
      rw [same_row (by simpa using hi) ha, pEq_int]
      have : decide ((i : Int) = (at' : Int)) = decide (i = at') := by
        by_cases q : i = at'
        · rw [decide_eq_true q, decide_eq_true (by omega)]
        · rw [decide_eq_false q, decide_eq_false (by omega)]
      rw [this]
  have hbi : ∀ b, pEq (bi b) (.int 1) = some (.bool b) := fun b => by cases b <;> rfl
  have l7 : lcM (fun x59 => (pIdx x59 (.int (sw' : Int))).bind fun x60 => pEq x60 (.int 1)) ((Dg.allc n).map cd) = some ((Dg.allc n).map fun r => PyData.bool (Dg.pt 0 r sw')) :=
    lcM_map fun r hr => by
      rw [at_cd (by rw [Dg.allc_mem hr]; exact hw)]
      simp only [Option.bind_some, hbi]
  obtain ⟨F, hF⟩ : ∃ f : D → D → Option (D × D), f = fun x65 t66 => (m__law_take t66 (.int 2)).bind fun r69 => (some ((.int 0), r69.2)).bind fun r70 => (pEq r69.1 r70.1).map fun z71 => (z71, r70.2) := ⟨_, rfl⟩
  have hI : ∀ x t, TapeOk C t → ∃ (b : Bool) (t' : D), F x t = some (.bool b, t') ∧ True ∧ TapeOk C t' := fun x t h => by
    obtain ⟨k, t1, e, k0, k1, h1⟩ := take_ok (m := 2) h c0 c1 (by decide) (by decide)
    subst hF
    exact ⟨decide (k = 0), t1, by simp -implicitDefEqProofs only [e, Option.bind_some, pEq_int, Option.map_some], trivial, h1⟩
  obtain ⟨bs, t6, e6, hbl, _, h6⟩ := mapE hI ((Dg.allc n).map cd) t5 h5'
  have hbl2 : bs.length = 2 ^ n := by rw [hbl, List.length_map]; exact hlen
  have dr : ∀ i : Nat, i < 2 ^ n → pIdx (.list (bs.map .bool)) (.int (i : Int)) = some (.bool (bs.getD i false)) := fun i hi => pIdx_l (by omega) (by simp [hbl2, hi])
  obtain ⟨y8, el, x8, hx8, sy8⟩ := forC_rinv (L := Empty) (R := D) (F := fun x74 s73 => (((pIdx (.list (bs.map .bool)) x74).bind pTru).bind fun k78 => if k78 = true then (((pIdx (.list ((Dg.allc n).map cd)) x74).bind fun x75 => m_diagram_at x75).bind fun x76 => m_either s73 x76).bind fun x77 => some (.nx x77) else some (.nx s73) : Option (Ctl D D D))) (enc := fun i : Nat => PyData.int (i : Int)) (n := 2 ^ n)
    (I := fun k s => ∃ x : Dg, s = x.d ∧ Says n x (fun g => (List.range k).any fun j => bs.getD j false && mt g 0 ((Dg.allc n).getD j []))) (s := .bool false)
    ⟨.leaf false, rfl, rfl, fun g => rfl⟩
    (fun i s hi ⟨x, hx, sx⟩ => by
      subst hx
      simp only [dr i hi, Option.bind_some, pTru_bool]
      cases q : bs.getD i false with
      | false =>
        refine ⟨_, rfl, x, rfl, sx.wf, fun g => ?_⟩
        rw [sx.ev, List.range_succ, List.any_append]
        simp only [List.any_cons, List.any_nil, q, Bool.false_and, Bool.or_false]
      | true =>
        obtain ⟨p, dp, sp⟩ := pat_ok h5 (row_len hi).1
        obtain ⟨z, dz, sz⟩ := says_either h5 sx sp
        simp only [row_at hi, Option.bind_some, dp, dz, if_true]
        refine ⟨_, rfl, z, rfl, sz.wf, fun g => ?_⟩
        rw [sz.ev, List.range_succ, List.any_append]
        simp only [List.any_cons, List.any_nil, q, Bool.true_and, Bool.or_false])
  subst hx8
  have b8 := fine_ok h5 sy8
  have hbits : bits n (fun g => (List.range (2 ^ n)).any fun j => bs.getD j false && mt g 0 ((Dg.allc n).getD j [])) = .list (bs.map .bool) := by
    rw [← bits_range]
    have hbs := getD_range bs false
    rw [hbl2] at hbs
    conv => rhs; rw [← hbs, List.map_map]
    refine congrArg PyData.list (List.map_congr_left fun i hi => ?_)
    have hi : i < 2 ^ n := by simpa using hi
    refine congrArg PyData.bool ?_
    show _ = bs.getD i false
    cases q : bs.getD i false with
    | true =>
      rw [List.any_eq_true]
      exact ⟨i, by simpa using hi, by rw [q, same_row hi hi]; simp⟩
    | false =>
      rw [List.any_eq_false]
      intro j hj
      have hj : j < 2 ^ n := by simpa using hj
      rw [same_row hi hj]
      by_cases e : i = j
      · subst e; rw [q]; simp
      · simp [e]
  rw [hbits] at b8
  unfold m_law m_law_b
  rw [← hF]
  have hx0 : ∀ a b : D, pIdx (.tuple [a, b]) (.int 0) = some a := fun _ _ => rfl
  have B1 : PyData.list ((Dg.allc n).map fun r => PyData.bool (f1.tr ss (Dg.pt 0 r))) = bits n (fun g => f1.tr ss g) := bits_map (f := fun g => f1.tr ss g)
  have B2 : PyData.list ((Dg.allc n).map fun r => PyData.bool (f2.tr ss (Dg.pt 0 r))) = bits n (fun g => f2.tr ss g) := bits_map (f := fun g => f2.tr ss g)
  have B3 : PyData.list ((Dg.allc n).map fun r => PyData.bool (!f1.tr ss (Dg.pt 0 r))) = bits n (fun g => !f1.tr ss g) := bits_map (f := fun g => !f1.tr ss g)
  have B4 : PyData.list ((List.range (2 ^ n)).map fun i => PyData.bool (f1.tr ss (Dg.pt 0 ((Dg.allc n).getD i [])) && f2.tr ss (Dg.pt 0 ((Dg.allc n).getD i [])))) = bits n (fun g => f1.tr ss g && f2.tr ss g) := bits_range (f := fun g => f1.tr ss g && f2.tr ss g)
  have B5 : PyData.list ((List.range (2 ^ n)).map fun i => PyData.bool (f1.tr ss (Dg.pt 0 ((Dg.allc n).getD i [])) || f2.tr ss (Dg.pt 0 ((Dg.allc n).getD i [])))) = bits n (fun g => f1.tr ss g || f2.tr ss g) := bits_range (f := fun g => f1.tr ss g || f2.tr ss g)
  have B6 : PyData.list ((List.range (2 ^ n)).map fun i => PyData.bool (mt (Dg.pt 0 ((Dg.allc n).getD i [])) 0 ((Dg.allc n).getD at' []))) = bits n (fun g => mt g 0 ((Dg.allc n).getD at' [])) := bits_range (f := fun g => mt g 0 ((Dg.allc n).getD at' []))
  have B7 : PyData.list ((Dg.allc n).map fun r => PyData.bool (Dg.pt 0 r sw')) = bits n (fun g => g sw') := bits_map (f := fun g => g sw')
  have I1 : pIter (bits n fun g => f1.tr ss g) = some ((Dg.allc n).map fun r => PyData.bool (f1.tr ss (Dg.pt 0 r))) := iter_bits (f := fun g => f1.tr ss g)
  have I2 : pIter (.list ((Dg.allc n).map cd)) = some ((Dg.allc n).map cd) := rfl
  have ra := row_at ha
  simp -implicitDefEqProofs only [e1, Option.bind_some, pLen_t, pLen_l, List.length_map, hN, e2, hx0, Option.map_some, e3, hall, I2, tr1, tr2, d1, d2, B1, B2, b1, b2, pTru_bool, Bool.not_true, Bool.false_eq_true, if_false, d3, I1, l3, B3, b3, d4, hlen, hrg, l4, B4, b4, d5, l5, B5, b5, e4, ra, d6, l6, B6, b6, e5, d7, l7, B7, b7, e6]
  rw [el]
  simp -implicitDefEqProofs only [Ctl.seq_nx, b8, Option.bind_some, Ctl.fin_rt]
end P
namespace P
open PySem PySem.Spec L2 Z
theorem law_ok {E : ME} {f : Addr} {fd : FuncData} (F : Fun E.K "law" "law" s_law f fd) (hd__law_tape : DefAt E "_law_tape" "_law_tape" s__law_tape ["_law_script", "_law_budget"]) (hd__law_mix : DefAt E "_law_mix" "_law_mix" s__law_mix ["_law_number"]) (hd__law_take : DefAt E "_law_take" "_law_take" s__law_take ["_law_tape_here", "_law_many"]) (hd__law_switches : DefAt E "_law_switches" "_law_switches" s__law_switches ["_law_tape_here"]) (hd__law_all : DefAt E "_law_all" "_law_all" s__law_all ["_law_count"]) (hd_switch : DefAt E "switch" "switch" s_switch ["i"]) (hd_negated : DefAt E "negated" "negated" s_negated ["d"]) (hd_same : DefAt E "same" "same" s_same ["d", "e"]) (hd_node : DefAt E "node" "node" s_node ["i", "low", "high"]) (hd_both : DefAt E "both" "both" s_both ["d", "e"]) (hd_either : DefAt E "either" "either" s_either ["d", "e"]) (hd_diagram_of : DefAt E "diagram_of" "diagram_of" s_diagram_of ["switches", "formula"]) (hd_holds : DefAt E "holds" "holds" s_holds ["d", "configuration"]) (hd_chosen : DefAt E "chosen" "chosen" s_chosen ["d", "count"]) (hd_least : DefAt E "least" "least" s_least ["d", "count"]) (hd__law_same : DefAt E "_law_same" "_law_same" s__law_same ["_law_told", "_law_due"]) (hd_is_below : DefAt E "is_below" "is_below" s_is_below ["value", "first", "count"]) (hd_is_diagram : DefAt E "is_diagram" "is_diagram" s_is_diagram ["value", "count"]) (hd_how_many : DefAt E "how_many" "how_many" s_how_many ["d", "count"]) (hd__law_diagram : DefAt E "_law_diagram" "_law_diagram" s__law_diagram ["_law_bits", "_law_i"]) (hd__law_fine : DefAt E "_law_fine" "_law_fine" s__law_fine ["_law_diagram_here", "_law_bits", "_law_count"]) (hd__law_gap : DefAt E "_law_gap" "_law_gap" s__law_gap ["_law_tape_here"]) (hd__law_part : DefAt E "_law_part" "_law_part" s__law_part ["_law_tape_here", "_law_switches_here", "_law_deep"]) (hd__law_both : DefAt E "_law_both" "_law_both" s__law_both ["_law_tape_here", "_law_switches_here", "_law_deep"]) (hd__law_either : DefAt E "_law_either" "_law_either" s__law_either ["_law_tape_here", "_law_switches_here", "_law_deep"]) (hd__law_formula : DefAt E "_law_formula" "_law_formula" s__law_formula ["_law_tape_here", "_law_switches_here"]) (hd__law_true : DefAt E "_law_true" "_law_true" s__law_true ["_law_switches_here", "_law_formula_here", "_law_configuration"]) (hd_diagram_at : DefAt E "diagram_at" "diagram_at" s_diagram_at ["configuration"]) (z_bool : Free E "bool") (z_int : Free E "int") (z_isinstance : Free E "isinstance") (z_len : Free E "len") (z_list : Free E "list") (z_range : Free E "range") (z_tuple : Free E "tuple") : FnOk E.prog E.w E.K E.mg E.base CX0 36 f fd ["_law_script"] (spLaw E.K) := by
  have h__law_mix : FnM E 1 "_law_mix" (CP (g1 m__law_mix)) := f__law_mix (kk := 0) hd__law_mix z_int
  have h__law_take : FnM E 2 "_law_take" (CO1 .l (fun t => g1 (m__law_take t))) := f__law_take (kk := 1) hd__law_take z_int z_len h__law_mix
  have h__law_switches : FnM E 3 "_law_switches" (CO1 .l (fun t => g0 (m__law_switches t))) := f__law_switches (kk := 2) hd__law_switches z_len z_tuple h__law_take
  have h__law_all : FnM E 1 "_law_all" (CP (g1 m__law_all)) := f__law_all (kk := 0) hd__law_all z_range
  have h_switch : FnM E 1 "switch" (CP (g1 m_switch)) := f_switch (kk := 0) hd_switch
  have g_negated := r_negated (E := E) (kk := 0) hd_negated z_isinstance z_tuple 12
  have h_negated : FnM E 12 "negated" (CP (g1 (m_negated 12))) := g_negated
  have h_same : FnM E 1 "same" (CP (g2 m_same)) := f_same (kk := 0) hd_same z_isinstance z_tuple
  have h_node : FnM E 2 "node" (CP (g3 m_node)) := f_node (kk := 1) hd_node h_same
  have g_both := r_both (E := E) (kk := 2) hd_both z_isinstance z_tuple h_node 12
  have h_both : FnM E 14 "both" (CP (g2 (m_both 12))) := g_both
  have h_either : FnM E 15 "either" (CP (g2 m_either)) := f_either (kk := 14) hd_either h_both (h_negated.mono (by decide))
  have g_diagram_of := r_diagram_of (E := E) (kk := 15) hd_diagram_of (h_both.mono (by decide)) h_either (h_negated.mono (by decide)) (h_switch.mono (by decide)) 20
  have h_diagram_of : FnM E 35 "diagram_of" (CP (g2 (m_diagram_of 20))) := g_diagram_of
  have h_holds : FnM E 1 "holds" (CP (g2 m_holds)) := f_holds (kk := 0) hd_holds z_isinstance z_tuple
  have h_chosen : FnM E 1 "chosen" (CP (g2 m_chosen)) := f_chosen (kk := 0) hd_chosen z_isinstance z_range z_tuple
  have h_least : FnM E 2 "least" (CP (g2 m_least)) := f_least (kk := 1) hd_least h_chosen
  have g__law_same := r__law_same (E := E) (kk := 0) hd__law_same z_bool z_isinstance z_len z_tuple 12
  have h__law_same : FnM E 12 "_law_same" (CP (g2 (m__law_same 12))) := g__law_same
  have g_is_below := r_is_below (E := E) (kk := 1) hd_is_below z_bool z_int z_isinstance z_len z_tuple h_same 12
  have h_is_below : FnM E 13 "is_below" (CP (g3 (m_is_below 12))) := g_is_below
  have h_is_diagram : FnM E 14 "is_diagram" (CP (g2 m_is_diagram)) := f_is_diagram (kk := 13) hd_is_diagram h_is_below
  have h_how_many : FnM E 2 "how_many" (CP (g2 m_how_many)) := f_how_many (kk := 1) hd_how_many z_len h_chosen
  have g__law_diagram := r__law_diagram (E := E) (kk := 0) hd__law_diagram z_isinstance z_len z_tuple 6
  have h__law_diagram : FnM E 6 "_law_diagram" (CP (g2 (m__law_diagram 6))) := g__law_diagram
  have h__law_fine : FnM E 15 "_law_fine" (CP (g3 m__law_fine)) := f__law_fine (kk := 14) hd__law_fine z_bool z_isinstance z_len z_range (h__law_all.mono (by decide)) (h__law_diagram.mono (by decide)) (h__law_same.mono (by decide)) (h_chosen.mono (by decide)) (h_holds.mono (by decide)) (h_how_many.mono (by decide)) h_is_diagram (h_least.mono (by decide))
  have h__law_gap : FnM E 3 "_law_gap" (CO1 .l (fun t => g0 (m__law_gap t))) := f__law_gap (kk := 2) hd__law_gap h__law_take
  have g__law_part := r__law_part (E := E) (kk := 3) hd__law_part hd__law_both hd__law_either z_len z_range h__law_gap (h__law_take.mono (by decide)) 9
  have h__law_part : FnM E 12 "_law_part" (CO1 .l (fun t => g2 (m__law_part 9 t))) := g__law_part.1
  have h__law_both : FnM E 12 "_law_both" (CO1 .l (fun t => g2 (m__law_both 9 t))) := g__law_part.2.1
  have h__law_either : FnM E 12 "_law_either" (CO1 .l (fun t => g2 (m__law_either 9 t))) := g__law_part.2.2
  have h__law_formula : FnM E 13 "_law_formula" (CO1 .l (fun t => g1 (m__law_formula t))) := f__law_formula (kk := 12) hd__law_formula z_len h__law_either
  have g__law_true := r__law_true (E := E) (kk := 0) hd__law_true 20
  have h__law_true : FnM E 20 "_law_true" (CP (g3 (m__law_true 20))) := g__law_true
  have h_diagram_at : FnM E 1 "diagram_at" (CP (g1 m_diagram_at)) := f_diagram_at (kk := 0) hd_diagram_at z_len z_range
  exact law_end (f_law (kk := 35) F z_len z_range (h__law_all.mono (by decide)) (h__law_fine.mono (by decide)) (h__law_formula.mono (by decide)) (h__law_switches.mono (by decide)) (h__law_take.mono (by decide)) (h__law_true.mono (by decide)) (h_both.mono (by decide)) (h_diagram_at.mono (by decide)) h_diagram_of (h_either.mono (by decide)) (h_negated.mono (by decide)) (h_switch.mono (by decide)) (f__law_tape (kk := 34) hd__law_tape z_list)) law_math

theorem all_mk {l : PySem.W.OpenLaw} {w : World} {K : PySem.W.Frag} {h : Heap} {mg : Str → Option Value} (X : K.In h) (G : h.Ns mainGlobals mg) {f0 f1 f2 f3 f4 f5 f6 f7 f8 f9 f10 f11 f12 f13 f14 f15 f16 f17 f18 f19 f20 f21 f22 f23 f24 f25 f26 f27 f28 fl : Addr} {od0 an0 od1 an1 od2 an2 od3 an3 od4 an4 od5 an5 od6 an6 od7 an7 od8 an8 od9 an9 od10 an10 od11 an11 od12 an12 od13 an13 od14 an14 od15 an15 od16 an16 od17 an17 od18 an18 od19 an19 od20 an20 od21 an21 od22 an22 od23 an23 od24 an24 od25 an25 od26 an26 od27 an27 od28 an28 : Option Addr} {sl0 sl1 sl2 sl3 sl4 sl5 sl6 sl7 sl8 sl9 sl10 sl11 sl12 sl13 sl14 sl15 sl16 sl17 sl18 sl19 sl20 sl21 sl22 sl23 sl24 sl25 sl26 sl27 sl28 : Array (Option Value)} {oc0 kV0 dc0 pm0 cd0 ct0 oc1 kV1 dc1 pm1 cd1 ct1 oc2 kV2 dc2 pm2 cd2 ct2 oc3 kV3 dc3 pm3 cd3 ct3 oc4 kV4 dc4 pm4 cd4 ct4 oc5 kV5 dc5 pm5 cd5 ct5 oc6 kV6 dc6 pm6 cd6 ct6 oc7 kV7 dc7 pm7 cd7 ct7 oc8 kV8 dc8 pm8 cd8 ct8 oc9 kV9 dc9 pm9 cd9 ct9 oc10 kV10 dc10 pm10 cd10 ct10 oc11 kV11 dc11 pm11 cd11 ct11 oc12 kV12 dc12 pm12 cd12 ct12 oc13 kV13 dc13 pm13 cd13 ct13 oc14 kV14 dc14 pm14 cd14 ct14 oc15 kV15 dc15 pm15 cd15 ct15 oc16 kV16 dc16 pm16 cd16 ct16 oc17 kV17 dc17 pm17 cd17 ct17 oc18 kV18 dc18 pm18 cd18 ct18 oc19 kV19 dc19 pm19 cd19 ct19 oc20 kV20 dc20 pm20 cd20 ct20 oc21 kV21 dc21 pm21 cd21 ct21 oc22 kV22 dc22 pm22 cd22 ct22 oc23 kV23 dc23 pm23 cd23 ct23 oc24 kV24 dc24 pm24 cd24 ct24 oc25 kV25 dc25 pm25 cd25 ct25 oc26 kV26 dc26 pm26 cd26 ct26 oc27 kV27 dc27 pm27 cd27 ct27 oc28 kV28 dc28 pm28 cd28 ct28 : Value} (hfl : mg "law" = some (.ref fl))
    (a0 : PySem.W.nsIn K mainGlobals "_law_tape" = some (some (.ref f0))) (l0 : K.lookup f0 = some ⟨oc0, od0, .func (PySem.W.fnOf "_law_tape" "_law_tape" (defArgs s__law_tape) (defBody s__law_tape) (defScope s__law_tape) .none kV0 dc0 pm0 an0 cd0 ct0), sl0⟩) (c0 : PySem.W.codeIn K cd0 "_law_tape" = true) (k0 : PySem.W.keepIn K (.ref f0) = true)
    (a1 : PySem.W.nsIn K mainGlobals "_law_mix" = some (some (.ref f1))) (l1 : K.lookup f1 = some ⟨oc1, od1, .func (PySem.W.fnOf "_law_mix" "_law_mix" (defArgs s__law_mix) (defBody s__law_mix) (defScope s__law_mix) .none kV1 dc1 pm1 an1 cd1 ct1), sl1⟩) (c1 : PySem.W.codeIn K cd1 "_law_mix" = true) (k1 : PySem.W.keepIn K (.ref f1) = true)
    (a2 : PySem.W.nsIn K mainGlobals "_law_take" = some (some (.ref f2))) (l2 : K.lookup f2 = some ⟨oc2, od2, .func (PySem.W.fnOf "_law_take" "_law_take" (defArgs s__law_take) (defBody s__law_take) (defScope s__law_take) .none kV2 dc2 pm2 an2 cd2 ct2), sl2⟩) (c2 : PySem.W.codeIn K cd2 "_law_take" = true) (k2 : PySem.W.keepIn K (.ref f2) = true)
    (a3 : PySem.W.nsIn K mainGlobals "_law_switches" = some (some (.ref f3))) (l3 : K.lookup f3 = some ⟨oc3, od3, .func (PySem.W.fnOf "_law_switches" "_law_switches" (defArgs s__law_switches) (defBody s__law_switches) (defScope s__law_switches) .none kV3 dc3 pm3 an3 cd3 ct3), sl3⟩) (c3 : PySem.W.codeIn K cd3 "_law_switches" = true) (k3 : PySem.W.keepIn K (.ref f3) = true)
    (a4 : PySem.W.nsIn K mainGlobals "_law_all" = some (some (.ref f4))) (l4 : K.lookup f4 = some ⟨oc4, od4, .func (PySem.W.fnOf "_law_all" "_law_all" (defArgs s__law_all) (defBody s__law_all) (defScope s__law_all) .none kV4 dc4 pm4 an4 cd4 ct4), sl4⟩) (c4 : PySem.W.codeIn K cd4 "_law_all" = true) (k4 : PySem.W.keepIn K (.ref f4) = true)
    (a5 : PySem.W.nsIn K mainGlobals "switch" = some (some (.ref f5))) (l5 : K.lookup f5 = some ⟨oc5, od5, .func (PySem.W.fnOf "switch" "switch" (defArgs s_switch) (defBody s_switch) (defScope s_switch) .none kV5 dc5 pm5 an5 cd5 ct5), sl5⟩) (c5 : PySem.W.codeIn K cd5 "switch" = true) (k5 : PySem.W.keepIn K (.ref f5) = true)
    (a6 : PySem.W.nsIn K mainGlobals "negated" = some (some (.ref f6))) (l6 : K.lookup f6 = some ⟨oc6, od6, .func (PySem.W.fnOf "negated" "negated" (defArgs s_negated) (defBody s_negated) (defScope s_negated) .none kV6 dc6 pm6 an6 cd6 ct6), sl6⟩) (c6 : PySem.W.codeIn K cd6 "negated" = true) (k6 : PySem.W.keepIn K (.ref f6) = true)
    (a7 : PySem.W.nsIn K mainGlobals "same" = some (some (.ref f7))) (l7 : K.lookup f7 = some ⟨oc7, od7, .func (PySem.W.fnOf "same" "same" (defArgs s_same) (defBody s_same) (defScope s_same) .none kV7 dc7 pm7 an7 cd7 ct7), sl7⟩) (c7 : PySem.W.codeIn K cd7 "same" = true) (k7 : PySem.W.keepIn K (.ref f7) = true)
    (a8 : PySem.W.nsIn K mainGlobals "node" = some (some (.ref f8))) (l8 : K.lookup f8 = some ⟨oc8, od8, .func (PySem.W.fnOf "node" "node" (defArgs s_node) (defBody s_node) (defScope s_node) .none kV8 dc8 pm8 an8 cd8 ct8), sl8⟩) (c8 : PySem.W.codeIn K cd8 "node" = true) (k8 : PySem.W.keepIn K (.ref f8) = true)
    (a9 : PySem.W.nsIn K mainGlobals "both" = some (some (.ref f9))) (l9 : K.lookup f9 = some ⟨oc9, od9, .func (PySem.W.fnOf "both" "both" (defArgs s_both) (defBody s_both) (defScope s_both) .none kV9 dc9 pm9 an9 cd9 ct9), sl9⟩) (c9 : PySem.W.codeIn K cd9 "both" = true) (k9 : PySem.W.keepIn K (.ref f9) = true)
    (a10 : PySem.W.nsIn K mainGlobals "either" = some (some (.ref f10))) (l10 : K.lookup f10 = some ⟨oc10, od10, .func (PySem.W.fnOf "either" "either" (defArgs s_either) (defBody s_either) (defScope s_either) .none kV10 dc10 pm10 an10 cd10 ct10), sl10⟩) (c10 : PySem.W.codeIn K cd10 "either" = true) (k10 : PySem.W.keepIn K (.ref f10) = true)
    (a11 : PySem.W.nsIn K mainGlobals "diagram_of" = some (some (.ref f11))) (l11 : K.lookup f11 = some ⟨oc11, od11, .func (PySem.W.fnOf "diagram_of" "diagram_of" (defArgs s_diagram_of) (defBody s_diagram_of) (defScope s_diagram_of) .none kV11 dc11 pm11 an11 cd11 ct11), sl11⟩) (c11 : PySem.W.codeIn K cd11 "diagram_of" = true) (k11 : PySem.W.keepIn K (.ref f11) = true)
    (a12 : PySem.W.nsIn K mainGlobals "holds" = some (some (.ref f12))) (l12 : K.lookup f12 = some ⟨oc12, od12, .func (PySem.W.fnOf "holds" "holds" (defArgs s_holds) (defBody s_holds) (defScope s_holds) .none kV12 dc12 pm12 an12 cd12 ct12), sl12⟩) (c12 : PySem.W.codeIn K cd12 "holds" = true) (k12 : PySem.W.keepIn K (.ref f12) = true)
    (a13 : PySem.W.nsIn K mainGlobals "chosen" = some (some (.ref f13))) (l13 : K.lookup f13 = some ⟨oc13, od13, .func (PySem.W.fnOf "chosen" "chosen" (defArgs s_chosen) (defBody s_chosen) (defScope s_chosen) .none kV13 dc13 pm13 an13 cd13 ct13), sl13⟩) (c13 : PySem.W.codeIn K cd13 "chosen" = true) (k13 : PySem.W.keepIn K (.ref f13) = true)
    (a14 : PySem.W.nsIn K mainGlobals "least" = some (some (.ref f14))) (l14 : K.lookup f14 = some ⟨oc14, od14, .func (PySem.W.fnOf "least" "least" (defArgs s_least) (defBody s_least) (defScope s_least) .none kV14 dc14 pm14 an14 cd14 ct14), sl14⟩) (c14 : PySem.W.codeIn K cd14 "least" = true) (k14 : PySem.W.keepIn K (.ref f14) = true)
    (a15 : PySem.W.nsIn K mainGlobals "_law_same" = some (some (.ref f15))) (l15 : K.lookup f15 = some ⟨oc15, od15, .func (PySem.W.fnOf "_law_same" "_law_same" (defArgs s__law_same) (defBody s__law_same) (defScope s__law_same) .none kV15 dc15 pm15 an15 cd15 ct15), sl15⟩) (c15 : PySem.W.codeIn K cd15 "_law_same" = true) (k15 : PySem.W.keepIn K (.ref f15) = true)
    (a16 : PySem.W.nsIn K mainGlobals "is_below" = some (some (.ref f16))) (l16 : K.lookup f16 = some ⟨oc16, od16, .func (PySem.W.fnOf "is_below" "is_below" (defArgs s_is_below) (defBody s_is_below) (defScope s_is_below) .none kV16 dc16 pm16 an16 cd16 ct16), sl16⟩) (c16 : PySem.W.codeIn K cd16 "is_below" = true) (k16 : PySem.W.keepIn K (.ref f16) = true)
    (a17 : PySem.W.nsIn K mainGlobals "is_diagram" = some (some (.ref f17))) (l17 : K.lookup f17 = some ⟨oc17, od17, .func (PySem.W.fnOf "is_diagram" "is_diagram" (defArgs s_is_diagram) (defBody s_is_diagram) (defScope s_is_diagram) .none kV17 dc17 pm17 an17 cd17 ct17), sl17⟩) (c17 : PySem.W.codeIn K cd17 "is_diagram" = true) (k17 : PySem.W.keepIn K (.ref f17) = true)
    (a18 : PySem.W.nsIn K mainGlobals "how_many" = some (some (.ref f18))) (l18 : K.lookup f18 = some ⟨oc18, od18, .func (PySem.W.fnOf "how_many" "how_many" (defArgs s_how_many) (defBody s_how_many) (defScope s_how_many) .none kV18 dc18 pm18 an18 cd18 ct18), sl18⟩) (c18 : PySem.W.codeIn K cd18 "how_many" = true) (k18 : PySem.W.keepIn K (.ref f18) = true)
    (a19 : PySem.W.nsIn K mainGlobals "_law_diagram" = some (some (.ref f19))) (l19 : K.lookup f19 = some ⟨oc19, od19, .func (PySem.W.fnOf "_law_diagram" "_law_diagram" (defArgs s__law_diagram) (defBody s__law_diagram) (defScope s__law_diagram) .none kV19 dc19 pm19 an19 cd19 ct19), sl19⟩) (c19 : PySem.W.codeIn K cd19 "_law_diagram" = true) (k19 : PySem.W.keepIn K (.ref f19) = true)
    (a20 : PySem.W.nsIn K mainGlobals "_law_fine" = some (some (.ref f20))) (l20 : K.lookup f20 = some ⟨oc20, od20, .func (PySem.W.fnOf "_law_fine" "_law_fine" (defArgs s__law_fine) (defBody s__law_fine) (defScope s__law_fine) .none kV20 dc20 pm20 an20 cd20 ct20), sl20⟩) (c20 : PySem.W.codeIn K cd20 "_law_fine" = true) (k20 : PySem.W.keepIn K (.ref f20) = true)
    (a21 : PySem.W.nsIn K mainGlobals "_law_gap" = some (some (.ref f21))) (l21 : K.lookup f21 = some ⟨oc21, od21, .func (PySem.W.fnOf "_law_gap" "_law_gap" (defArgs s__law_gap) (defBody s__law_gap) (defScope s__law_gap) .none kV21 dc21 pm21 an21 cd21 ct21), sl21⟩) (c21 : PySem.W.codeIn K cd21 "_law_gap" = true) (k21 : PySem.W.keepIn K (.ref f21) = true)
    (a22 : PySem.W.nsIn K mainGlobals "_law_part" = some (some (.ref f22))) (l22 : K.lookup f22 = some ⟨oc22, od22, .func (PySem.W.fnOf "_law_part" "_law_part" (defArgs s__law_part) (defBody s__law_part) (defScope s__law_part) .none kV22 dc22 pm22 an22 cd22 ct22), sl22⟩) (c22 : PySem.W.codeIn K cd22 "_law_part" = true) (k22 : PySem.W.keepIn K (.ref f22) = true)
    (a23 : PySem.W.nsIn K mainGlobals "_law_both" = some (some (.ref f23))) (l23 : K.lookup f23 = some ⟨oc23, od23, .func (PySem.W.fnOf "_law_both" "_law_both" (defArgs s__law_both) (defBody s__law_both) (defScope s__law_both) .none kV23 dc23 pm23 an23 cd23 ct23), sl23⟩) (c23 : PySem.W.codeIn K cd23 "_law_both" = true) (k23 : PySem.W.keepIn K (.ref f23) = true)
    (a24 : PySem.W.nsIn K mainGlobals "_law_either" = some (some (.ref f24))) (l24 : K.lookup f24 = some ⟨oc24, od24, .func (PySem.W.fnOf "_law_either" "_law_either" (defArgs s__law_either) (defBody s__law_either) (defScope s__law_either) .none kV24 dc24 pm24 an24 cd24 ct24), sl24⟩) (c24 : PySem.W.codeIn K cd24 "_law_either" = true) (k24 : PySem.W.keepIn K (.ref f24) = true)
    (a25 : PySem.W.nsIn K mainGlobals "_law_formula" = some (some (.ref f25))) (l25 : K.lookup f25 = some ⟨oc25, od25, .func (PySem.W.fnOf "_law_formula" "_law_formula" (defArgs s__law_formula) (defBody s__law_formula) (defScope s__law_formula) .none kV25 dc25 pm25 an25 cd25 ct25), sl25⟩) (c25 : PySem.W.codeIn K cd25 "_law_formula" = true) (k25 : PySem.W.keepIn K (.ref f25) = true)
    (a26 : PySem.W.nsIn K mainGlobals "_law_true" = some (some (.ref f26))) (l26 : K.lookup f26 = some ⟨oc26, od26, .func (PySem.W.fnOf "_law_true" "_law_true" (defArgs s__law_true) (defBody s__law_true) (defScope s__law_true) .none kV26 dc26 pm26 an26 cd26 ct26), sl26⟩) (c26 : PySem.W.codeIn K cd26 "_law_true" = true) (k26 : PySem.W.keepIn K (.ref f26) = true)
    (a27 : PySem.W.nsIn K mainGlobals "diagram_at" = some (some (.ref f27))) (l27 : K.lookup f27 = some ⟨oc27, od27, .func (PySem.W.fnOf "diagram_at" "diagram_at" (defArgs s_diagram_at) (defBody s_diagram_at) (defScope s_diagram_at) .none kV27 dc27 pm27 an27 cd27 ct27), sl27⟩) (c27 : PySem.W.codeIn K cd27 "diagram_at" = true) (k27 : PySem.W.keepIn K (.ref f27) = true)
    (a28 : PySem.W.nsIn K mainGlobals "law" = some (some (.ref f28))) (l28 : K.lookup f28 = some ⟨oc28, od28, .func (PySem.W.fnOf "law" "law" (defArgs s_law) (defBody s_law) (defScope s_law) .none kV28 dc28 pm28 an28 cd28 ct28), sl28⟩) (c28 : PySem.W.codeIn K cd28 "law" = true) (k28 : PySem.W.keepIn K (.ref f28) = true)
    (z0 : PySem.W.nsIn K mainGlobals "bool" = some none)
    (z1 : PySem.W.nsIn K mainGlobals "int" = some none)
    (z2 : PySem.W.nsIn K mainGlobals "isinstance" = some none)
    (z3 : PySem.W.nsIn K mainGlobals "len" = some none)
    (z4 : PySem.W.nsIn K mainGlobals "list" = some none)
    (z5 : PySem.W.nsIn K mainGlobals "range" = some none)
    (z6 : PySem.W.nsIn K mainGlobals "tuple" = some none) :
    ∃ fd : FuncData, (∀ (s : Shared) (v : Value), BindsTo s fd ⟨[v], []⟩ [("_law_script", v)]) ∧ ∀ base : Heap, K.In base → base.Ns mainGlobals mg → FnOk l.prog w K mg base CX0 36 fl fd ["_law_script"] (spLaw K) := by
  have e := hfl.symm.trans (PySem.W.mg_of X G a28)
  cases e
  have F := fun_mk (st := s_law) l28 c28 k28
  refine ⟨PySem.W.fnOf "law" "law" (defArgs s_law) (defBody s_law) (defScope s_law) .none kV28 dc28 pm28 an28 cd28 ct28, fun s v => .of_eq rfl, fun base _ _ => ?_⟩
  let E : ME := ⟨l.prog, w, K, mg, base⟩
  have hd__law_tape : DefAt E "_law_tape" "_law_tape" s__law_tape ["_law_script", "_law_budget"] := def_at (E := E) X G (fun _ _ _ _ _ _ us hl => match us, hl with | [_, _], _ => rfl) a0 l0 c0 k0
  have hd__law_mix : DefAt E "_law_mix" "_law_mix" s__law_mix ["_law_number"] := def_at (E := E) X G (fun _ _ _ _ _ _ us hl => match us, hl with | [_], _ => rfl) a1 l1 c1 k1
  have hd__law_take : DefAt E "_law_take" "_law_take" s__law_take ["_law_tape_here", "_law_many"] := def_at (E := E) X G (fun _ _ _ _ _ _ us hl => match us, hl with | [_, _], _ => rfl) a2 l2 c2 k2
  have hd__law_switches : DefAt E "_law_switches" "_law_switches" s__law_switches ["_law_tape_here"] := def_at (E := E) X G (fun _ _ _ _ _ _ us hl => match us, hl with | [_], _ => rfl) a3 l3 c3 k3
  have hd__law_all : DefAt E "_law_all" "_law_all" s__law_all ["_law_count"] := def_at (E := E) X G (fun _ _ _ _ _ _ us hl => match us, hl with | [_], _ => rfl) a4 l4 c4 k4
  have hd_switch : DefAt E "switch" "switch" s_switch ["i"] := def_at (E := E) X G (fun _ _ _ _ _ _ us hl => match us, hl with | [_], _ => rfl) a5 l5 c5 k5
  have hd_negated : DefAt E "negated" "negated" s_negated ["d"] := def_at (E := E) X G (fun _ _ _ _ _ _ us hl => match us, hl with | [_], _ => rfl) a6 l6 c6 k6
  have hd_same : DefAt E "same" "same" s_same ["d", "e"] := def_at (E := E) X G (fun _ _ _ _ _ _ us hl => match us, hl with | [_, _], _ => rfl) a7 l7 c7 k7
  have hd_node : DefAt E "node" "node" s_node ["i", "low", "high"] := def_at (E := E) X G (fun _ _ _ _ _ _ us hl => match us, hl with | [_, _, _], _ => rfl) a8 l8 c8 k8
  have hd_both : DefAt E "both" "both" s_both ["d", "e"] := def_at (E := E) X G (fun _ _ _ _ _ _ us hl => match us, hl with | [_, _], _ => rfl) a9 l9 c9 k9
  have hd_either : DefAt E "either" "either" s_either ["d", "e"] := def_at (E := E) X G (fun _ _ _ _ _ _ us hl => match us, hl with | [_, _], _ => rfl) a10 l10 c10 k10
  have hd_diagram_of : DefAt E "diagram_of" "diagram_of" s_diagram_of ["switches", "formula"] := def_at (E := E) X G (fun _ _ _ _ _ _ us hl => match us, hl with | [_, _], _ => rfl) a11 l11 c11 k11
  have hd_holds : DefAt E "holds" "holds" s_holds ["d", "configuration"] := def_at (E := E) X G (fun _ _ _ _ _ _ us hl => match us, hl with | [_, _], _ => rfl) a12 l12 c12 k12
  have hd_chosen : DefAt E "chosen" "chosen" s_chosen ["d", "count"] := def_at (E := E) X G (fun _ _ _ _ _ _ us hl => match us, hl with | [_, _], _ => rfl) a13 l13 c13 k13
  have hd_least : DefAt E "least" "least" s_least ["d", "count"] := def_at (E := E) X G (fun _ _ _ _ _ _ us hl => match us, hl with | [_, _], _ => rfl) a14 l14 c14 k14
  have hd__law_same : DefAt E "_law_same" "_law_same" s__law_same ["_law_told", "_law_due"] := def_at (E := E) X G (fun _ _ _ _ _ _ us hl => match us, hl with | [_, _], _ => rfl) a15 l15 c15 k15
  have hd_is_below : DefAt E "is_below" "is_below" s_is_below ["value", "first", "count"] := def_at (E := E) X G (fun _ _ _ _ _ _ us hl => match us, hl with | [_, _, _], _ => rfl) a16 l16 c16 k16
  have hd_is_diagram : DefAt E "is_diagram" "is_diagram" s_is_diagram ["value", "count"] := def_at (E := E) X G (fun _ _ _ _ _ _ us hl => match us, hl with | [_, _], _ => rfl) a17 l17 c17 k17
  have hd_how_many : DefAt E "how_many" "how_many" s_how_many ["d", "count"] := def_at (E := E) X G (fun _ _ _ _ _ _ us hl => match us, hl with | [_, _], _ => rfl) a18 l18 c18 k18
  have hd__law_diagram : DefAt E "_law_diagram" "_law_diagram" s__law_diagram ["_law_bits", "_law_i"] := def_at (E := E) X G (fun _ _ _ _ _ _ us hl => match us, hl with | [_, _], _ => rfl) a19 l19 c19 k19
  have hd__law_fine : DefAt E "_law_fine" "_law_fine" s__law_fine ["_law_diagram_here", "_law_bits", "_law_count"] := def_at (E := E) X G (fun _ _ _ _ _ _ us hl => match us, hl with | [_, _, _], _ => rfl) a20 l20 c20 k20
  have hd__law_gap : DefAt E "_law_gap" "_law_gap" s__law_gap ["_law_tape_here"] := def_at (E := E) X G (fun _ _ _ _ _ _ us hl => match us, hl with | [_], _ => rfl) a21 l21 c21 k21
  have hd__law_part : DefAt E "_law_part" "_law_part" s__law_part ["_law_tape_here", "_law_switches_here", "_law_deep"] := def_at (E := E) X G (fun _ _ _ _ _ _ us hl => match us, hl with | [_, _, _], _ => rfl) a22 l22 c22 k22
  have hd__law_both : DefAt E "_law_both" "_law_both" s__law_both ["_law_tape_here", "_law_switches_here", "_law_deep"] := def_at (E := E) X G (fun _ _ _ _ _ _ us hl => match us, hl with | [_, _, _], _ => rfl) a23 l23 c23 k23
  have hd__law_either : DefAt E "_law_either" "_law_either" s__law_either ["_law_tape_here", "_law_switches_here", "_law_deep"] := def_at (E := E) X G (fun _ _ _ _ _ _ us hl => match us, hl with | [_, _, _], _ => rfl) a24 l24 c24 k24
  have hd__law_formula : DefAt E "_law_formula" "_law_formula" s__law_formula ["_law_tape_here", "_law_switches_here"] := def_at (E := E) X G (fun _ _ _ _ _ _ us hl => match us, hl with | [_, _], _ => rfl) a25 l25 c25 k25
  have hd__law_true : DefAt E "_law_true" "_law_true" s__law_true ["_law_switches_here", "_law_formula_here", "_law_configuration"] := def_at (E := E) X G (fun _ _ _ _ _ _ us hl => match us, hl with | [_, _, _], _ => rfl) a26 l26 c26 k26
  have hd_diagram_at : DefAt E "diagram_at" "diagram_at" s_diagram_at ["configuration"] := def_at (E := E) X G (fun _ _ _ _ _ _ us hl => match us, hl with | [_], _ => rfl) a27 l27 c27 k27
  have z_bool : Free E "bool" := free_at (E := E) X G z0
  have z_int : Free E "int" := free_at (E := E) X G z1
  have z_isinstance : Free E "isinstance" := free_at (E := E) X G z2
  have z_len : Free E "len" := free_at (E := E) X G z3
  have z_list : Free E "list" := free_at (E := E) X G z4
  have z_range : Free E "range" := free_at (E := E) X G z5
  have z_tuple : Free E "tuple" := free_at (E := E) X G z6
  exact law_ok (E := E) F hd__law_tape hd__law_mix hd__law_take hd__law_switches hd__law_all hd_switch hd_negated hd_same hd_node hd_both hd_either hd_diagram_of hd_holds hd_chosen hd_least hd__law_same hd_is_below hd_is_diagram hd_how_many hd__law_diagram hd__law_fine hd__law_gap hd__law_part hd__law_both hd__law_either hd__law_formula hd__law_true hd_diagram_at z_bool z_int z_isinstance z_len z_list z_range z_tuple

theorem walk {l : PySem.W.OpenLaw} {q : Program} {loose : List Str} {XP : (Str → Option Value) → Heap → Prop} {YP : World → Heap → Prop} {d : DefRec} {K : Params → PySem.W.Frag} (hn : l.most = some 63) (hdf : d.params.defaults = [])
    (hY : ∀ (w : World) (h : Heap), YP w h → (K w.params).In h)
    (F : ∀ (w : World) (mg : Str → Option Value) (fa : Addr) (h : Heap), (K w.params).In h → h.Ns mainGlobals mg → mg d.name = some (.ref fa) →
      ∃ fd : FuncData, (∀ (s : Shared) (u : Value), BindsTo s fd ⟨[u], []⟩ [("_law_script", u)]) ∧ ∀ base : Heap, (K w.params).In base → base.Ns mainGlobals mg → FnOk l.prog w (K w.params) mg base CX0 36 fa fd ["_law_script"] (spLaw (K w.params))) :
    PySem.W.WalkO q loose XP YP l.row.toRowW d [] (fun f vs => PySem.call f vs) :=
  L2.walk_ofB (n := 63) (k := 36) (x := "_law_script") (CX := fun _ => CX0) (sp := fun w => spLaw (K w.params)) hn (by decide) hdf ⟨rfl, by decide, by decide⟩ hY F (fun _ _ a ns hl hb ho hS => ⟨a, ns, rfl, hS, hl, hb, ho, fun _ => rfl⟩) fun _ _ _ _ _ z => z

end P
open PySem PySem.W PyProof.Rows
set_option maxRecDepth 100000 in
set_option maxHeartbeats 0 in
theorem PySem.Challenge.cw_oncefolded_k01_whole_diagrams_holds : PySem.Challenge.rw_oncefolded_k01_whole_diagrams.Holds := by
  w_on; o_law; k_head; (case hw => w_witness2)
  k_fill
  refine P.walk (l := PySem.Challenge.rw_oncefolded_k01_whole_diagrams) rfl rfl (fun w h Y => PySem.W.kIn_of Y) ?F
  case F =>
    intro w mg fa h KX G hmg
    refine' P.all_mk KX G hmg ?a0 ?l0 ?c0 ?k0 ?a1 ?l1 ?c1 ?k1 ?a2 ?l2 ?c2 ?k2 ?a3 ?l3 ?c3 ?k3 ?a4 ?l4 ?c4 ?k4 ?a5 ?l5 ?c5 ?k5 ?a6 ?l6 ?c6 ?k6 ?a7 ?l7 ?c7 ?k7 ?a8 ?l8 ?c8 ?k8 ?a9 ?l9 ?c9 ?k9 ?a10 ?l10 ?c10 ?k10 ?a11 ?l11 ?c11 ?k11 ?a12 ?l12 ?c12 ?k12 ?a13 ?l13 ?c13 ?k13 ?a14 ?l14 ?c14 ?k14 ?a15 ?l15 ?c15 ?k15 ?a16 ?l16 ?c16 ?k16 ?a17 ?l17 ?c17 ?k17 ?a18 ?l18 ?c18 ?k18 ?a19 ?l19 ?c19 ?k19 ?a20 ?l20 ?c20 ?k20 ?a21 ?l21 ?c21 ?k21 ?a22 ?l22 ?c22 ?k22 ?a23 ?l23 ?c23 ?k23 ?a24 ?l24 ?c24 ?k24 ?a25 ?l25 ?c25 ?k25 ?a26 ?l26 ?c26 ?k26 ?a27 ?l27 ?c27 ?k27 ?a28 ?l28 ?c28 ?k28 ?z0 ?z1 ?z2 ?z3 ?z4 ?z5 ?z6
    (case a0 => k_is); (case l0 => k_is); (case c0 => k_is); (case k0 => k_is)
    (case a1 => k_is); (case l1 => k_is); (case c1 => k_is); (case k1 => k_is)
    (case a2 => k_is); (case l2 => k_is); (case c2 => k_is); (case k2 => k_is)
    (case a3 => k_is); (case l3 => k_is); (case c3 => k_is); (case k3 => k_is)
    (case a4 => k_is); (case l4 => k_is); (case c4 => k_is); (case k4 => k_is)
    (case a5 => k_is); (case l5 => k_is); (case c5 => k_is); (case k5 => k_is)
    (case a6 => k_is); (case l6 => k_is); (case c6 => k_is); (case k6 => k_is)
    (case a7 => k_is); (case l7 => k_is); (case c7 => k_is); (case k7 => k_is)
    (case a8 => k_is); (case l8 => k_is); (case c8 => k_is); (case k8 => k_is)
    (case a9 => k_is); (case l9 => k_is); (case c9 => k_is); (case k9 => k_is)
    (case a10 => k_is); (case l10 => k_is); (case c10 => k_is); (case k10 => k_is)
    (case a11 => k_is); (case l11 => k_is); (case c11 => k_is); (case k11 => k_is)
    (case a12 => k_is); (case l12 => k_is); (case c12 => k_is); (case k12 => k_is)
    (case a13 => k_is); (case l13 => k_is); (case c13 => k_is); (case k13 => k_is)
    (case a14 => k_is); (case l14 => k_is); (case c14 => k_is); (case k14 => k_is)
    (case a15 => k_is); (case l15 => k_is); (case c15 => k_is); (case k15 => k_is)
    (case a16 => k_is); (case l16 => k_is); (case c16 => k_is); (case k16 => k_is)
    (case a17 => k_is); (case l17 => k_is); (case c17 => k_is); (case k17 => k_is)
    (case a18 => k_is); (case l18 => k_is); (case c18 => k_is); (case k18 => k_is)
    (case a19 => k_is); (case l19 => k_is); (case c19 => k_is); (case k19 => k_is)
    (case a20 => k_is); (case l20 => k_is); (case c20 => k_is); (case k20 => k_is)
    (case a21 => k_is); (case l21 => k_is); (case c21 => k_is); (case k21 => k_is)
    (case a22 => k_is); (case l22 => k_is); (case c22 => k_is); (case k22 => k_is)
    (case a23 => k_is); (case l23 => k_is); (case c23 => k_is); (case k23 => k_is)
    (case a24 => k_is); (case l24 => k_is); (case c24 => k_is); (case k24 => k_is)
    (case a25 => k_is); (case l25 => k_is); (case c25 => k_is); (case k25 => k_is)
    (case a26 => k_is); (case l26 => k_is); (case c26 => k_is); (case k26 => k_is)
    (case a27 => k_is); (case l27 => k_is); (case c27 => k_is); (case k27 => k_is)
    (case a28 => k_is); (case l28 => k_is); (case c28 => k_is); (case k28 => k_is)
    (case z0 => k_is)
    (case z1 => k_is)
    (case z2 => k_is)
    (case z3 => k_is)
    (case z4 => k_is)
    (case z5 => k_is)
    (case z6 => k_is)
#print axioms PySem.Challenge.cw_oncefolded_k01_whole_diagrams_holds

import PyProof.Rows.All
import Wide.All
import OpenK.AllK
import Wide.FinOn
import HandS.ForMost
import KE.DataEq
import KE.DataCmp
import KE.LtData
import HandS.TupAny
import HandS.TupMul
import HandS.Style
import HandS.Codes
import KE.GoesEnum
import HandS.Defaults
import HandS.List
import HandS.More
import HandS.IsInst
import HandS.TupSets
import KE.DataAny
import KE.DataMinMax
import PyProof.ListStr
import PyProof.TupleOfStr
import PySem.Challenge.RW_foldsflat_k41_whole_words_of_folds
import KE.KStateDown
import HandS.Head0
import HandS.Head1
import HandS.Head2
import HandS.HeadEnd
import HandS.HeadHook1
import HandS.HeadHook2
import HandS.HeadHook3
import HandS.HeadHook4
set_option Elab.async false
set_option linter.all false
set_option maxRecDepth 100000
set_option maxHeartbeats 1000000
set_option autoImplicit false
/-! FFCore: the evaluator's values, and how they lie in the abstract heap. -/
namespace FF
open PySem PySem.Spec PyProof.Rows L2

abbrev D := PyData
inductive Ob where
  | lst (xs : List D)
  | dct (kvs : List (D × D))
def Ob.d : Ob → D
  | .lst xs => .list xs
  | .dct kvs => .dict kvs
inductive Val where
  | d (x : D)
  | ref (n : Nat)
inductive Sl where
  | un
  | val (v : Val)
  | own (o : Ob)
inductive EV where
  | v (x : Val)
  | o (o : Ob)
def EV.val : EV → Val
  | .v x => x
  | .o w => .d w.d
abbrev Hh := List Ob
abbrev Ev := List Sl → Hh → Option (EV × Hh)

/-! ### how frozen data lie -/
def WrT (K : PySem.W.Frag) (a : Addr) (xs : List V) : Prop :=
  ∃ (o : Obj) (its : Array Value) (n : Nat), K.lookup a = some o ∧ o.cls = .type "tuple" ∧ o.data = .seq its n ∧ its.size ≤ sizeLine ∧ Vals xs its.toList
def ZL (_K : PySem.W.Frag) (Z : Addr → Prop) (H : Hp) (a : Addr) (xs : List V) : Prop := Z a ∧ Rd H a (.lst xs)
def ZT (K : PySem.W.Frag) (Z : Addr → Prop) (H : Hp) (a : Addr) (xs : List V) : Prop := (Z a ∧ Rd H a (.tup xs)) ∨ WrT K a xs
def kD : Key → D
  | .inl i => .int i
  | .inr x => .str x
mutual
inductive DZ (K : PySem.W.Frag) (Z : Addr → Prop) (H : Hp) : V → D → Prop
  | non : DZ K Z H .non .none
  | bl (b : Bool) : DZ K Z H (.bl b) (.bool b)
  | int (i : Int) : DZ K Z H (.int i) (.int i)
  | str (x : Str) : DZ K Z H (.str x) (.str x)
  | lst {a : Addr} {xs : List V} {ds : List D} : ZL K Z H a xs → DZs K Z H xs ds → DZ K Z H (.ref a) (.list ds)
  | tup {a : Addr} {xs : List V} {ds : List D} : ZT K Z H a xs → DZs K Z H xs ds → DZ K Z H (.ref a) (.tuple ds)
  | dct {a : Addr} {kvs : List (Key × V)} {ds : List (D × D)} : Z a → Rd H a (.dK kvs) → DZk K Z H kvs ds → DZ K Z H (.ref a) (.dict ds)
inductive DZs (K : PySem.W.Frag) (Z : Addr → Prop) (H : Hp) : List V → List D → Prop
  | nil : DZs K Z H [] []
  | cons {v : V} {vs : List V} {d : D} {ds : List D} : DZ K Z H v d → DZs K Z H vs ds → DZs K Z H (v :: vs) (d :: ds)
inductive DZk (K : PySem.W.Frag) (Z : Addr → Prop) (H : Hp) : List (Key × V) → List (D × D) → Prop
  | nil : DZk K Z H [] []
  | cons {k : Key} {v : V} {vs : List (Key × V)} {d : D} {ds : List (D × D)} : DZ K Z H v d → DZk K Z H vs ds → DZk K Z H ((k, v) :: vs) ((kD k, d) :: ds)
end
section
variable {K : PySem.W.Frag} {Z Z' : Addr → Prop} {H H' : Hp}
theorem ZL.mono {a : Addr} {xs : List V} (hz : ∀ a, Z a → Z' a) (hr : ∀ a u, Z a → Rd H a u → Rd H' a u) (h : ZL K Z H a xs) : ZL K Z' H' a xs := ⟨hz a h.1, hr a _ h.1 h.2⟩
theorem ZT.mono {a : Addr} {xs : List V} (hz : ∀ a, Z a → Z' a) (hr : ∀ a u, Z a → Rd H a u → Rd H' a u) (h : ZT K Z H a xs) : ZT K Z' H' a xs := by
  rcases h with ⟨z, r⟩ | h
  · exact .inl ⟨hz a z, hr a _ z r⟩
  · exact .inr h
theorem ZL.sq {a : Addr} {xs : List V} (h : ZL K Z H a xs) : SqL K H a xs := .inl h.2
theorem ZT.sq {a : Addr} {xs : List V} (h : ZT K Z H a xs) : SqT K H a xs := by
  rcases h with ⟨_, r⟩ | h
  · exact .inl r
  · exact .inr h
mutual
theorem DZ.mono (hz : ∀ a, Z a → Z' a) (hr : ∀ a u, Z a → Rd H a u → Rd H' a u) : ∀ {v : V} {d : D}, DZ K Z H v d → DZ K Z' H' v d
  | _, _, .non => .non
  | _, _, .bl b => .bl b
  | _, _, .int i => .int i
  | _, _, .str x => .str x
  | _, _, .lst a b => .lst (a.mono hz hr) (DZs.mono hz hr b)
  | _, _, .tup a b => .tup (a.mono hz hr) (DZs.mono hz hr b)
  | _, _, .dct z r k => .dct (hz _ z) (hr _ _ z r) (DZk.mono hz hr k)
theorem DZs.mono (hz : ∀ a, Z a → Z' a) (hr : ∀ a u, Z a → Rd H a u → Rd H' a u) : ∀ {v : List V} {d : List D}, DZs K Z H v d → DZs K Z' H' v d
  | _, _, .nil => .nil
  | _, _, .cons a b => .cons (DZ.mono hz hr a) (DZs.mono hz hr b)
theorem DZk.mono (hz : ∀ a, Z a → Z' a) (hr : ∀ a u, Z a → Rd H a u → Rd H' a u) : ∀ {v : List (Key × V)} {d : List (D × D)}, DZk K Z H v d → DZk K Z' H' v d
  | _, _, .nil => .nil
  | _, _, .cons a b => .cons (DZ.mono hz hr a) (DZk.mono hz hr b)
end
theorem DZs.length : ∀ {vs : List V} {ds : List D}, DZs K Z H vs ds → vs.length = ds.length
  | _, _, .nil => rfl
  | _, _, .cons _ b => by simp [DZs.length b]
theorem DZk.length : ∀ {vs : List (Key × V)} {ds : List (D × D)}, DZk K Z H vs ds → vs.length = ds.length
  | _, _, .nil => rfl
  | _, _, .cons _ b => by simp [DZk.length b]
theorem DZs.get : ∀ {vs : List V} {ds : List D} {i : Nat} {d : D}, DZs K Z H vs ds → ds[i]? = some d → ∃ v, vs[i]? = some v ∧ DZ K Z H v d
  | _, _, _, _, .nil, e => by simp at e
  | _, _, 0, _, .cons a _, e => by simp at e; subst e; exact ⟨_, rfl, a⟩
  | _, _, i + 1, d, .cons _ b, e => by
    obtain ⟨v, h1, h2⟩ := DZs.get (i := i) (d := d) b (by simpa using e)
    exact ⟨v, by simpa using h1, h2⟩
theorem DZs.getV : ∀ {vs : List V} {ds : List D} {i : Nat} {v : V}, DZs K Z H vs ds → vs[i]? = some v → ∃ d, ds[i]? = some d ∧ DZ K Z H v d
  | _, _, _, _, .nil, e => by simp at e
  | _, _, 0, _, .cons a _, e => by simp at e; subst e; exact ⟨_, rfl, a⟩
  | _, _, i + 1, d, .cons _ b, e => by
    obtain ⟨v, h1, h2⟩ := DZs.getV (i := i) (v := d) b (by simpa using e)
    exact ⟨v, by simpa using h1, h2⟩
theorem DZs.append : ∀ {vs ws : List V} {ds es : List D}, DZs K Z H vs ds → DZs K Z H ws es → DZs K Z H (vs ++ ws) (ds ++ es)
  | _, _, _, _, .nil, h => h
  | _, _, _, _, .cons a b, h => .cons a (DZs.append b h)
theorem DZs.take : ∀ {vs : List V} {ds : List D} (n : Nat), DZs K Z H vs ds → DZs K Z H (vs.take n) (ds.take n)
  | _, _, 0, _ => .nil
  | _, _, _ + 1, .nil => .nil
  | _, _, n + 1, .cons a b => .cons a (DZs.take n b)
theorem DZs.drop : ∀ {vs : List V} {ds : List D} (n : Nat), DZs K Z H vs ds → DZs K Z H (vs.drop n) (ds.drop n)
  | _, _, 0, h => h
  | _, _, _ + 1, .nil => .nil
  | _, _, n + 1, .cons _ b => DZs.drop n b
theorem DZs.rev {vs : List V} {ds : List D} (h : DZs K Z H vs ds) : DZs K Z H vs.reverse ds.reverse := by
  have go : ∀ {vs : List V} {ds : List D} {as : List V} {bs : List D}, DZs K Z H vs ds → DZs K Z H as bs → DZs K Z H (vs.reverseAux as) (ds.reverseAux bs) := by
    intro vs
    induction vs with
    | nil => intro ds as bs h k; cases h; exact k
    | cons v vs ih =>
      intro ds as bs h k
      cases h with
      | cons a b =>
        have q := ih b (DZs.cons a k)
        exact q
  exact go h .nil
theorem DZs.set : ∀ {vs : List V} {ds : List D} (i : Nat) {v : V} {d : D}, DZs K Z H vs ds → DZ K Z H v d → DZs K Z H (vs.set i v) (ds.set i d)
  | _, _, _, _, _, .nil, _ => .nil
  | _, _, 0, _, _, .cons _ b, h => .cons h b
  | _, _, i + 1, _, _, .cons a b, h => .cons a (DZs.set i b h)
end

section
variable {K : PySem.W.Frag} {Z : Addr → Prop} {H : Hp}
mutual
theorem DZ.dp : ∀ {v : V} {d : D}, DZ K Z H v d → d.plain = true → Dp K H v d
  | _, _, .non, _ => .non
  | _, _, .bl b, _ => .bl b
  | _, _, .int i, _ => .int i
  | _, _, .str x, _ => .str x
  | _, _, .lst a b, h => .lst a.sq (DZs.dp b (by simpa only [PyData.plain] using h))
  | _, _, .tup a b, h => .tup a.sq (DZs.dp b (by simpa only [PyData.plain] using h))
  | _, _, .dct _ _ _, h => absurd h (by simp [PyData.plain])
theorem DZs.dp : ∀ {v : List V} {d : List D}, DZs K Z H v d → PyData.plainAll d = true → DpAll K H v d
  | _, _, .nil, _ => .nil
  | _, _, .cons a b, h => by
    rw [PyData.plainAll, Bool.and_eq_true] at h
    exact .cons (DZ.dp a h.1) (DZs.dp b h.2)
end
end

/-! ### mutable things, growth, the relation of states -/
def RepOb (K : PySem.W.Frag) (Z : Addr → Prop) (H : Hp) : Ob → Addr → Prop
  | .lst xs, a => ∃ vs, H a = some (.lst vs) ∧ DZs K Z H vs xs
  | .dct kvs, a => ∃ ks, H a = some (.dK ks) ∧ DZk K Z H ks kvs
def RepV (K : PySem.W.Frag) (Z : Addr → Prop) (ρ : List Addr) (H : Hp) : Val → V → Prop
  | .d x, v => DZ K Z H v x
  | .ref n, v => ∃ a, ρ[n]? = some a ∧ v = .ref a
structure HeapRep (K : PySem.W.Frag) (Z : Addr → Prop) (ρ : List Addr) (hh : Hh) (H : Hp) : Prop where
  len : ρ.length = hh.length
  at_ : ∀ (n : Nat) (a : Addr) (o : Ob), ρ[n]? = some a → hh[n]? = some o → RepOb K Z H o a ∧ ¬ Z a
  nd : ρ.Nodup
  zt : ∀ a, Z a → H a ≠ none
structure Grow (Z : Addr → Prop) (ρ : List Addr) (H : Hp) (Z' : Addr → Prop) (ρ' : List Addr) (H' : Hp) : Prop where
  z : ∀ a, Z a → Z' a
  rd : ∀ a u, Z a → Rd H a u → Rd H' a u
  fr : ∀ a o, H a = some o → ¬ Z a → a ∉ ρ → H' a = some o ∧ ¬ Z' a
  pre : ∃ more, ρ' = ρ ++ more ∧ ∀ a ∈ more, H a = none
theorem Grow.refl (Z : Addr → Prop) (ρ : List Addr) (H : Hp) : Grow Z ρ H Z ρ H :=
  ⟨fun _ h => h, fun _ _ _ h => h, fun _ _ h n _ => ⟨h, n⟩, ⟨[], by simp, fun _ h => nomatch h⟩⟩
theorem RepOb.some {K : PySem.W.Frag} {Z : Addr → Prop} {H : Hp} {o : Ob} {a : Addr} (h : RepOb K Z H o a) : ∃ u, H a = some u := by
  cases o with
  | lst xs => obtain ⟨vs, h, _⟩ := h; exact ⟨_, h⟩
  | dct ks => obtain ⟨vs, h, _⟩ := h; exact ⟨_, h⟩
section
variable {K : PySem.W.Frag} {Z Z1 Z2 Z' : Addr → Prop} {ρ ρ1 ρ2 ρ' : List Addr} {H H1 H2 H' : Hp} {hh hh1 hh' : Hh}
theorem HeapRep.tr (h : HeapRep K Z ρ hh H) {a : Addr} (ha : a ∈ ρ) : ∃ u, H a = some u := by
  obtain ⟨n, hn, e⟩ := List.getElem_of_mem ha
  have h2 : n < hh.length := by rw [← h.len]; exact hn
  exact (h.at_ n a hh[n] (by rw [List.getElem?_eq_getElem hn, e]) (List.getElem?_eq_getElem h2)).1.some
theorem HeapRep.notZ (h : HeapRep K Z ρ hh H) {a : Addr} (ha : a ∈ ρ) : ¬ Z a := by
  obtain ⟨n, hn, e⟩ := List.getElem_of_mem ha
  have h2 : n < hh.length := by rw [← h.len]; exact hn
  exact (h.at_ n a hh[n] (by rw [List.getElem?_eq_getElem hn, e]) (List.getElem?_eq_getElem h2)).2
/-- what is tracked stays tracked -/
theorem Grow.tr (g : Grow Z ρ H Z' ρ' H') (h : HeapRep K Z' ρ' hh' H') {a : Addr} (ha : H a ≠ none) : H' a ≠ none := by
  by_cases z : Z a
  · exact h.zt a (g.z a z)
  · by_cases r : a ∈ ρ
    · obtain ⟨more, e, _⟩ := g.pre
      obtain ⟨u, hu⟩ := h.tr (a := a) (by rw [e]; exact List.mem_append_left _ r)
      rw [hu]; simp
    · cases q : H a with
      | none => exact absurd q ha
      | some o => rw [(g.fr a o q z r).1]; simp
theorem Grow.trans (a : Grow Z ρ H Z1 ρ1 H1) (h1 : HeapRep K Z1 ρ1 hh1 H1) (b : Grow Z1 ρ1 H1 Z2 ρ2 H2) : Grow Z ρ H Z2 ρ2 H2 := by
  obtain ⟨m1, e1, n1⟩ := a.pre
  obtain ⟨m2, e2, n2⟩ := b.pre
  refine ⟨fun x h => b.z x (a.z x h), fun x u z r => b.rd x u (a.z x z) (a.rd x u z r), fun x o h z r => ?_, ⟨m1 ++ m2, by rw [e2, e1, List.append_assoc], fun x hx => ?_⟩⟩
  · obtain ⟨h', z'⟩ := a.fr x o h z r
    refine b.fr x o h' z' fun hm => ?_
    rw [e1] at hm
    rcases List.mem_append.mp hm with hm | hm
    · exact r hm
    · rw [n1 x hm] at h; cases h
  · rcases List.mem_append.mp hx with hx | hx
    · exact n1 x hx
    · cases q : H x with
      | none => rfl
      | some o => exact absurd (n2 x hx) (a.tr h1 (by rw [q]; simp))
theorem DZ.grow (g : Grow Z ρ H Z' ρ' H') {v : V} {d : D} (h : DZ K Z H v d) : DZ K Z' H' v d := h.mono g.z g.rd
theorem DZs.grow (g : Grow Z ρ H Z' ρ' H') {v : List V} {d : List D} (h : DZs K Z H v d) : DZs K Z' H' v d := h.mono g.z g.rd
theorem DZk.grow (g : Grow Z ρ H Z' ρ' H') {v : List (Key × V)} {d : List (D × D)} (h : DZk K Z H v d) : DZk K Z' H' v d := h.mono g.z g.rd
theorem RepV.grow (g : Grow Z ρ H Z' ρ' H') {x : Val} {v : V} (h : RepV K Z ρ H x v) : RepV K Z' ρ' H' x v := by
  cases x with
  | d x => exact DZ.grow g h
  | ref n =>
    obtain ⟨a, e, r⟩ := h
    obtain ⟨more, e2, _⟩ := g.pre
    refine ⟨a, ?_, r⟩
    rw [e2, List.getElem?_append_left (List.getElem?_eq_some_iff.mp e).1]
    exact e
/-- an own thing that is not among the heap's -/
theorem RepOb.grow (g : Grow Z ρ H Z' ρ' H') {o : Ob} {a : Addr} (h : RepOb K Z H o a) (z : ¬ Z a) (r : a ∉ ρ) : RepOb K Z' H' o a ∧ ¬ Z' a := by
  cases o with
  | lst xs =>
    obtain ⟨vs, e, q⟩ := h
    obtain ⟨e', z'⟩ := g.fr a _ e z r
    exact ⟨⟨vs, e', q.grow g⟩, z'⟩
  | dct ks =>
    obtain ⟨vs, e, q⟩ := h
    obtain ⟨e', z'⟩ := g.fr a _ e z r
    exact ⟨⟨vs, e', q.grow g⟩, z'⟩
theorem Grow.out (g : Grow Z ρ H Z' ρ' H') {a : Addr} {o : HO} (h : H a = some o) (r : a ∉ ρ) : a ∉ ρ' := by
  obtain ⟨more, e, n⟩ := g.pre
  rw [e]
  intro hm
  rcases List.mem_append.mp hm with hm | hm
  · exact r hm
  · rw [n a hm] at h; cases h
end

/-- the ghost of one activation: its state at the entry -/
structure G where
  K : PySem.W.Frag
  Z : Addr → Prop
  ρ : List Addr
  H : Hp
def Own (g : G) (Z : Addr → Prop) (ρ : List Addr) (H : Hp) (o : Ob) (a : Addr) : Prop := RepOb g.K Z H o a ∧ ¬ Z a ∧ a ∉ ρ ∧ g.H a = none
structure Rel (g : G) (Z : Addr → Prop) (ρ : List Addr) (st : List Sl) (hh : Hh) (σ : L2.St) (H : Hp) : Prop where
  grow : Grow g.Z g.ρ g.H Z ρ H
  heap : HeapRep g.K Z ρ hh H
  len : st.length = σ.length
  slv : ∀ (i : Nat) (v : Val), st[i]? = some (.val v) → ∃ x, σ[i]? = some (some x) ∧ RepV g.K Z ρ H v x
  slo : ∀ (i : Nat) (o : Ob), st[i]? = some (.own o) → ∃ a, σ[i]? = some (some (.ref a)) ∧ Own g Z ρ H o a
  sld : ∀ (i j : Nat) (o o' : Ob) (a : Addr), i ≠ j → st[i]? = some (.own o) → st[j]? = some (.own o') → σ[i]? = some (some (.ref a)) → σ[j]? ≠ some (some (.ref a))
section
variable {g : G} {Z Z' : Addr → Prop} {ρ ρ' : List Addr} {st : List Sl} {hh hh' : Hh} {σ : L2.St} {H H' : Hp}
theorem Rel.step (R : Rel g Z ρ st hh σ H) (gr : Grow Z ρ H Z' ρ' H') (h : HeapRep g.K Z' ρ' hh' H') : Rel g Z' ρ' st hh' σ H' where
  grow := R.grow.trans R.heap gr
  heap := h
  len := R.len
  slv := fun i v e => let ⟨x, a, b⟩ := R.slv i v e; ⟨x, a, b.grow gr⟩
  slo := fun i o e => by
    obtain ⟨a, e2, r, z, n, f⟩ := R.slo i o e
    obtain ⟨u, hu⟩ := r.some
    obtain ⟨r', z'⟩ := r.grow gr z n
    exact ⟨a, e2, r', z', gr.out hu n, f⟩
  sld := R.sld
end
/-- growth by new things alone -/
structure Pure (Z : Addr → Prop) (H : Hp) (Z' : Addr → Prop) (H' : Hp) : Prop where
  z : ∀ a, Z a → Z' a
  s : ∀ a o, H a = some o → H' a = some o
  n : ∀ a, Z' a → Z a ∨ H a = none
  t : ∀ a, Z' a → H' a ≠ none
section
variable {K : PySem.W.Frag} {g : G} {Z Z1 Z' : Addr → Prop} {ρ : List Addr} {st : List Sl} {hh : Hh} {σ : L2.St} {H H1 H' : Hp}
theorem Pure.rd (p : Pure Z H Z' H') : ∀ a u, Rd H a u → Rd H' a u := fun a u r => by
  rcases r with r | ⟨o, r⟩
  · exact .inl (p.s _ _ r)
  · exact .inr ⟨o, p.s _ _ r⟩
theorem Pure.grow (p : Pure Z H Z' H') (ρ : List Addr) : Grow Z ρ H Z' ρ H' where
  z := p.z
  rd := fun a u _ => p.rd a u
  fr := fun a o e z _ => ⟨p.s a o e, fun q => by
    rcases p.n a q with q | q
    · exact z q
    · rw [q] at e; cases e⟩
  pre := ⟨[], by simp, fun _ h => nomatch h⟩
theorem Pure.refl (h : ∀ a, Z a → H a ≠ none) : Pure Z H Z H := ⟨fun _ h => h, fun _ _ h => h, fun _ h => .inl h, h⟩
theorem Pure.trans (p : Pure Z H Z1 H1) (q : Pure Z1 H1 Z' H') : Pure Z H Z' H' :=
  ⟨fun a h => q.z a (p.z a h), fun a o h => q.s a o (p.s a o h), (fun a h => by
    rcases q.n a h with h | h
    · exact p.n a h
    · right
      cases e : H a with
      | none => rfl
      | some o => rw [p.s a o e] at h; cases h), q.t⟩
theorem RepOb.pure (p : Pure Z H Z' H') {o : Ob} {a : Addr} (h : RepOb K Z H o a) : RepOb K Z' H' o a := by
  cases o with
  | lst xs => obtain ⟨vs, e, q⟩ := h; exact ⟨vs, p.s _ _ e, q.mono p.z fun a u _ => p.rd a u⟩
  | dct ks => obtain ⟨vs, e, q⟩ := h; exact ⟨vs, p.s _ _ e, q.mono p.z fun a u _ => p.rd a u⟩
theorem HeapRep.pure (h : HeapRep K Z ρ hh H) (p : Pure Z H Z' H') : HeapRep K Z' ρ hh H' where
  len := h.len
  at_ := fun n a o e1 e2 => by
    obtain ⟨r, z⟩ := h.at_ n a o e1 e2
    refine ⟨r.pure p, fun q => ?_⟩
    obtain ⟨u, hu⟩ := r.some
    rcases p.n a q with q | q
    · exact z q
    · rw [q] at hu; cases hu
  nd := h.nd
  zt := p.t
theorem Rel.pure (R : Rel g Z ρ st hh σ H) (p : Pure Z H Z' H') : Rel g Z' ρ st hh σ H' := R.step (p.grow ρ) (R.heap.pure p)
/-- a new thing laid: left own, or frozen at once -/
theorem Pure.new {p : Addr} {o : HO} (zt : ∀ a, Z a → H a ≠ none) (hp : H p = none) : Pure Z H Z (upd H p o) where
  z := fun _ h => h
  s := fun a u e => by rw [upd_ne (ne_of_none e hp)]; exact e
  n := fun _ h => .inl h
  t := fun a h => by
    by_cases e : a = p
    · subst e; rw [upd_same]; simp
    · rw [upd_ne e]; exact zt a h
theorem Pure.newZ {p : Addr} {o : HO} (zt : ∀ a, Z a → H a ≠ none) (hp : H p = none) : Pure Z H (fun a => Z a ∨ a = p) (upd H p o) where
  z := fun _ h => .inl h
  s := fun a u e => by rw [upd_ne (ne_of_none e hp)]; exact e
  n := fun a h => by
    rcases h with h | h
    · exact .inl h
    · subst h; exact .inr hp
  t := fun a h => by
    by_cases e : a = p
    · subst e; rw [upd_same]; simp
    · rw [upd_ne e]
      rcases h with h | h
      · exact zt a h
      · exact absurd h e
/-- what an expression gives -/
def RepEV (K : PySem.W.Frag) (Z : Addr → Prop) (ρ : List Addr) (H0 H : Hp) : EV → V → Prop
  | .v x, v => RepV K Z ρ H x v
  | .o w, v => ∃ a, v = .ref a ∧ RepOb K Z H w a ∧ ¬ Z a ∧ a ∉ ρ ∧ H0 a = none
/-- freezing an own thing -/
def frz (Z : Addr → Prop) (a : Addr) : Addr → Prop := fun b => Z b ∨ b = a
theorem RepOb.freeze {o : Ob} {a : Addr} (h : RepOb K Z H o a) : DZ K (frz Z a) H (.ref a) o.d := by
  cases o with
  | lst xs =>
    obtain ⟨vs, e, q⟩ := h
    exact .lst ⟨.inr rfl, .inl e⟩ (q.mono (fun _ h => .inl h) fun _ _ _ r => r)
  | dct ks =>
    obtain ⟨vs, e, q⟩ := h
    exact .dct (.inr rfl) (.inl e) (q.mono (fun _ h => .inl h) fun _ _ _ r => r)
theorem HeapRep.freeze (h : HeapRep K Z ρ hh H) {a : Addr} (r : a ∉ ρ) (t : H a ≠ none) : HeapRep K (frz Z a) ρ hh H where
  len := h.len
  at_ := fun n b o e1 e2 => by
    obtain ⟨q, z⟩ := h.at_ n b o e1 e2
    refine ⟨?_, fun w => ?_⟩
    · cases o with
      | lst xs => obtain ⟨vs, e, q⟩ := q; exact ⟨vs, e, q.mono (fun _ h => .inl h) fun _ _ _ r => r⟩
      | dct ks => obtain ⟨vs, e, q⟩ := q; exact ⟨vs, e, q.mono (fun _ h => .inl h) fun _ _ _ r => r⟩
    · rcases w with w | w
      · exact z w
      · subst w; exact r (List.mem_of_getElem? e1)
  nd := h.nd
  zt := fun b w => by
    rcases w with w | w
    · exact h.zt b w
    · subst w; exact t
end
end FF

set_option Elab.async false
set_option linter.all false
set_option maxRecDepth 100000
set_option maxHeartbeats 1000000
set_option autoImplicit false
/-! FFExpr: the readings, names, constants, displays, operators, tests. -/
namespace FF
open PySem PySem.Spec PyProof.Rows L2

abbrev Dv := List Sl → Hh → Option (D × Hh)
abbrev Vv := List Sl → Hh → Option (Val × Hh)
def EV.data : EV → Option D
  | .v (.d d) => some d
  | .o w => some w.d
  | _ => none
def dv (m : Ev) : Dv := fun st hh => (m st hh).bind fun r => r.1.data.map fun d => (d, r.2)
def vv (m : Ev) : Vv := fun st hh => (m st hh).map fun r => (r.1.val, r.2)
def ev (m : Dv) : Ev := fun st hh => (m st hh).map fun r => (.v (.d r.1), r.2)

/-! ### weakening -/
theorem PEw {X : Cx} {e : Expr} {t t' : TE} (h : PE X e t) (w : ∀ σ H Q, t' σ H Q → t σ H Q) : PE X e t' := ⟨fun pins s σ H Q I q => h.run pins s σ H Q I (w σ H Q q)⟩
theorem PTw {X : Cx} {e : Expr} {t t' : TT} (h : PT X e t) (w : ∀ σ H Q, t' σ H Q → t σ H Q) : PT X e t' := ⟨fun pins s σ H Q I q => h.run pins s σ H Q I (w σ H Q q)⟩
theorem PWw {X : Cx} {e : Expr} {t t' : TT} (h : PW X e t) (w : ∀ σ H Q, t' σ H Q → t σ H Q) : PW X e t' := ⟨fun wh pins s σ H Q I q => h.run wh pins s σ H Q I (w σ H Q q)⟩
theorem PAw {X : Cx} {e : List Expr} {t t' : TA} (h : PA X e t) (w : ∀ σ H Q, t' σ H Q → t σ H Q) : PA X e t' := ⟨fun pos pins s σ H Q I q => h.run pos pins s σ H Q I (w σ H Q q)⟩
theorem PSw {X : Cx} {e : Stmt} {t t' : TS} (h : PS X e t) (w : ∀ D σ H, t' D σ H → t D σ H) : PS X e t' := ⟨fun pins s σ H D I q => h.run pins s σ H D I (w D σ H q)⟩
theorem PSsw {X : Cx} {e : List Stmt} {t t' : TS} (h : PSs X e t) (w : ∀ D σ H, t' D σ H → t D σ H) : PSs X e t' := ⟨fun pins s σ H D I q => h.run pins s σ H D I (w D σ H q)⟩

/-! ### readings -/
/-- what a value is now: frozen, or a thing of one's own -/
def RepC (g : G) (Z : Addr → Prop) (ρ : List Addr) (H : Hp) (d : D) (x : V) : Prop := DZ g.K Z H x d ∨ ∃ a o, x = .ref a ∧ Ob.d o = d ∧ RepOb g.K Z H o a ∧ ¬ Z a ∧ a ∉ ρ
def tI (g : G) (m : Ev) : TE := fun σ H Q => ∃ Z ρ st hh e hh', Rel g Z ρ st hh σ H ∧ m st hh = some (e, hh') ∧
  ∀ Z' ρ' x H', Rel g Z' ρ' st hh' σ H' → Grow Z ρ H Z' ρ' H' → RepEV g.K Z' ρ' H H' e x → Q x H'
def tV (g : G) (m : Vv) : TE := fun σ H Q => ∃ Z ρ st hh e hh', Rel g Z ρ st hh σ H ∧ m st hh = some (e, hh') ∧
  ∀ Z' ρ' x H', Rel g Z' ρ' st hh' σ H' → Grow Z ρ H Z' ρ' H' → RepV g.K Z' ρ' H' e x → Q x H'
def tD (g : G) (m : Dv) : TE := fun σ H Q => ∃ Z ρ st hh e hh', Rel g Z ρ st hh σ H ∧ m st hh = some (e, hh') ∧
  ∀ Z' ρ' x H', Rel g Z' ρ' st hh' σ H' → Grow Z ρ H Z' ρ' H' → DZ g.K Z' H' x e → Q x H'
def tC (g : G) (m : Dv) : TE := fun σ H Q => ∃ Z ρ st hh e hh', Rel g Z ρ st hh σ H ∧ m st hh = some (e, hh') ∧
  ∀ Z' ρ' x H', Rel g Z' ρ' st hh' σ H' → Grow Z ρ H Z' ρ' H' → RepC g Z' ρ' H' e x → Q x H'
def tB (g : G) (m : Dv) : TT := fun σ H Q => ∃ Z ρ st hh b hh', Rel g Z ρ st hh σ H ∧ m st hh = some (.bool b, hh') ∧
  ∀ Z' ρ' H', Rel g Z' ρ' st hh' σ H' → Grow Z ρ H Z' ρ' H' → Q b H'
section
variable {g : G} {Z Z' : Addr → Prop} {ρ ρ' : List Addr} {st : List Sl} {hh hh' : Hh} {σ : L2.St} {H H' : Hp} {a : Addr} {o : Ob} {d : D} {x : V}
theorem RepC.grow (gr : Grow Z ρ H Z' ρ' H') (h : RepC g Z ρ H d x) : RepC g Z' ρ' H' d x := by
  rcases h with h | ⟨a, o, e, e2, r, z, n⟩
  · exact .inl (h.grow gr)
  · obtain ⟨u, hu⟩ := r.some
    obtain ⟨r', z'⟩ := r.grow gr z n
    exact .inr ⟨a, o, e, e2, r', z', gr.out hu n⟩
theorem Rel.tracked (R : Rel g Z ρ st hh σ H) {i : Nat} {o : Ob} {a : Addr} (h : st[i]? = some (.own o)) (e : σ[i]? = some (some (.ref a))) : H a ≠ none := by
  obtain ⟨b, e2, r, _⟩ := R.slo i o h
  rw [e] at e2; cases e2
  obtain ⟨u, hu⟩ := r.some
  rw [hu]; simp
theorem Rel.newG (R : Rel g Z ρ st hh σ H) (h : H a = none) : g.H a = none := by
  cases q : g.H a with
  | none => rfl
  | some u => exact absurd h (R.grow.tr R.heap (by rw [q]; simp))
/-- a thing of one's own that is in no slot is frozen -/
theorem Rel.freeze (R : Rel g Z ρ st hh σ H) (r : RepOb g.K Z H o a) (z : ¬ Z a) (n : a ∉ ρ) (f : g.H a = none) (sl : ∀ (i : Nat) (w : Ob), st[i]? = some (.own w) → σ[i]? ≠ some (some (.ref a))) : Rel g (frz Z a) ρ st hh σ H where
  grow := ⟨fun b h => .inl (R.grow.z b h), R.grow.rd, fun b u e zb nb => ⟨(R.grow.fr b u e zb nb).1, fun q => by
    rcases q with q | q
    · exact (R.grow.fr b u e zb nb).2 q
    · subst q; rw [f] at e; cases e⟩, R.grow.pre⟩
  heap := R.heap.freeze n (by obtain ⟨u, hu⟩ := r.some; rw [hu]; simp)
  len := R.len
  slv := fun i v e => by
    obtain ⟨y, h1, h2⟩ := R.slv i v e
    refine ⟨y, h1, ?_⟩
    cases v with
    | d d => exact DZ.mono (fun _ h => .inl h) (fun _ _ _ r => r) h2
    | ref k => exact h2
  slo := fun i w e => by
    obtain ⟨b, h1, q, zb, nb, fb⟩ := R.slo i w e
    refine ⟨b, h1, ?_, fun y => ?_, nb, fb⟩
    · cases w with
      | lst xs => obtain ⟨vs, e, q⟩ := q; exact ⟨vs, e, q.mono (fun _ h => .inl h) fun _ _ _ r => r⟩
      | dct ks => obtain ⟨vs, e, q⟩ := q; exact ⟨vs, e, q.mono (fun _ h => .inl h) fun _ _ _ r => r⟩
    · rcases y with y | y
      · exact zb y
      · subst y; exact sl i w e h1
  sld := R.sld
theorem Grow.freeze {H0 : Hp} {Z0 : Addr → Prop} {ρ0 : List Addr} (gr : Grow Z0 ρ0 H0 Z ρ H) (f : H0 a = none) : Grow Z0 ρ0 H0 (frz Z a) ρ H :=
  ⟨fun b h => .inl (gr.z b h), gr.rd, fun b u e zb nb => ⟨(gr.fr b u e zb nb).1, fun q => by
    rcases q with q | q
    · exact (gr.fr b u e zb nb).2 q
    · subst q; rw [f] at e; cases e⟩, gr.pre⟩
end
section
variable {X : Cx} {g : G} {e : Expr} {m : Ev}
theorem pe_v (h : PE X e (tI g m)) : PE X e (tV g (vv m)) := by
  refine PEw h fun σ H Q ⟨Z, ρ, st, hh, w, hh', R, e1, P⟩ => ?_
  unfold vv at e1
  obtain ⟨r, e2, e3⟩ := Option.map_eq_some_iff.mp e1
  obtain ⟨r1, r2⟩ := r
  simp only [Prod.mk.injEq] at e3
  obtain ⟨rfl, rfl⟩ := e3
  refine ⟨Z, ρ, st, hh, r1, r2, R, e2, fun Z' ρ' x H' R' G' E => ?_⟩
  cases r1 with
  | v y => exact P Z' ρ' x H' R' G' E
  | o y =>
    obtain ⟨a, rfl, r, z, n, f⟩ := E
    exact P (frz Z' a) ρ' _ H' (R'.freeze r z n (R.newG f) fun i w h1 h2 => R.tracked h1 h2 f) (G'.freeze f) r.freeze
theorem pe_d (h : PE X e (tI g m)) : PE X e (tD g (dv m)) := by
  refine PEw h fun σ H Q ⟨Z, ρ, st, hh, w, hh', R, e1, P⟩ => ?_
  unfold dv at e1
  obtain ⟨r, e2, e3⟩ := Option.bind_eq_some_iff.mp e1
  obtain ⟨r1, r2⟩ := r
  obtain ⟨d, e4, e5⟩ := Option.map_eq_some_iff.mp e3
  simp only [Prod.mk.injEq] at e5
  obtain ⟨rfl, rfl⟩ := e5
  refine ⟨Z, ρ, st, hh, r1, r2, R, e2, fun Z' ρ' x H' R' G' E => ?_⟩
  cases r1 with
  | v y =>
    cases y with
    | d y => cases e4; exact P Z' ρ' x H' R' G' E
    | ref k => cases e4
  | o y =>
    cases e4
    obtain ⟨a, rfl, r, z, n, f⟩ := E
    exact P (frz Z' a) ρ' _ H' (R'.freeze r z n (R.newG f) fun i w h1 h2 => R.tracked h1 h2 f) (G'.freeze f) r.freeze
theorem pe_c (h : PE X e (tI g m)) : PE X e (tC g (dv m)) := by
  refine PEw h fun σ H Q ⟨Z, ρ, st, hh, w, hh', R, e1, P⟩ => ?_
  unfold dv at e1
  obtain ⟨r, e2, e3⟩ := Option.bind_eq_some_iff.mp e1
  obtain ⟨r1, r2⟩ := r
  obtain ⟨d, e4, e5⟩ := Option.map_eq_some_iff.mp e3
  simp only [Prod.mk.injEq] at e5
  obtain ⟨rfl, rfl⟩ := e5
  refine ⟨Z, ρ, st, hh, r1, r2, R, e2, fun Z' ρ' x H' R' G' E => P Z' ρ' x H' R' G' ?_⟩
  cases r1 with
  | v y =>
    cases y with
    | d y => cases e4; exact .inl E
    | ref k => cases e4
  | o y =>
    cases e4
    obtain ⟨a, rfl, r, z, n, f⟩ := E
    exact .inr ⟨a, y, rfl, rfl, r, z, n⟩
end

/-! ### names and constants -/
def eVar (i : Nat) : Ev := fun st hh => match st[i]? with
  | some (.val v) => some (.v v, hh)
  | _ => none
/-- what a slot holds, looked at -/
def pk (i : Nat) : Dv := fun st hh => match st[i]? with
  | some (.val (.d d)) => some (d, hh)
  | some (.own o) => some (o.d, hh)
  | _ => none
def eC (d : D) : Ev := fun _ hh => some (.v (.d d), hh)
section
variable {X : Cx} {g : G}
theorem x_var (i : Nat) {x : Str} {pos : Pos} (hN : X.N[i]? = some x) (hv : Vis X.env.scope x) (hd : (x == ("__debug__" : Str)) = false) (hcd : (x == ("__classdict__" : Str)) = false) : PE X (.Name x pos) (tI g (eVar i)) := by
  refine PEw (pe_var hN hv hd hcd) fun σ H Q ⟨Z, ρ, st, hh, w, hh', R, e1, P⟩ => ?_
  unfold eVar at e1
  split at e1
  · rename_i v hv
    cases e1
    obtain ⟨y, h1, h2⟩ := R.slv i v hv
    exact ⟨y, h1, P Z ρ y H R (Grow.refl Z ρ H) h2⟩
  · cases e1
theorem x_pk (i : Nat) {x : Str} {pos : Pos} (hN : X.N[i]? = some x) (hv : Vis X.env.scope x) (hd : (x == ("__debug__" : Str)) = false) (hcd : (x == ("__classdict__" : Str)) = false) : PE X (.Name x pos) (tC g (pk i)) := by
  refine PEw (pe_var hN hv hd hcd) fun σ H Q ⟨Z, ρ, st, hh, w, hh', R, e1, P⟩ => ?_
  unfold pk at e1
  split at e1
  · rename_i v hv
    cases e1
    obtain ⟨y, h1, h2⟩ := R.slv i _ hv
    exact ⟨y, h1, P Z ρ y H R (Grow.refl Z ρ H) (.inl h2)⟩
  · rename_i o ho
    cases e1
    obtain ⟨a, h1, r, z, n, _⟩ := R.slo i o ho
    exact ⟨_, h1, P Z ρ _ H R (Grow.refl Z ρ H) (.inr ⟨a, o, rfl, rfl, r, z, n⟩)⟩
  · cases e1
theorem x_con {e : Expr} {v : V} {d : D} (h : PE X e (L2.tC v)) (hd : ∀ Z H, DZ g.K Z H v d) : PE X e (tI g (eC d)) := by
  refine PEw h fun σ H Q ⟨Z, ρ, st, hh, w, hh', R, e1, P⟩ => ?_
  cases e1
  exact P Z ρ v H R (Grow.refl Z ρ H) (hd Z H)
theorem x_int {i j pos} : PE X (.Constant (.int i) j pos) (tI g (eC (.int i))) := x_con pe_int fun _ _ => .int i
theorem x_bl {b j pos} : PE X (.Constant (.bool b) j pos) (tI g (eC (.bool b))) := x_con pe_bl fun _ _ => .bl b
theorem x_non {j pos} : PE X (.Constant .none j pos) (tI g (eC .none)) := x_con pe_non fun _ _ => .non
theorem x_str {x j pos} : PE X (.Constant (.str x) j pos) (tI g (eC (.str x))) := x_con pe_str fun _ _ => .str x
/-- a constant of the module -/
theorem x_glob {x : Str} {v : V} {u : Value} {d : D} {pos : Pos} (hg : Gl X x) (hm : X.mg x = some u) (r : RelV v u) (hd : ∀ Z H, DZ g.K Z H v d) (hdb : (x == ("__debug__" : Str)) = false := by decide) : PE X (.Name x pos) (tI g (eC d)) :=
  x_con (pe_glob hg hm r hdb) hd
end

/-! ### argument lists -/
def evd : List Dv → List Sl → Hh → Option (List D × Hh)
  | [], _, hh => some ([], hh)
  | m :: ms, st, hh => (m st hh).bind fun r => (evd ms st r.2).map fun q => (r.1 :: q.1, q.2)
def evv : List Vv → List Sl → Hh → Option (List Val × Hh)
  | [], _, hh => some ([], hh)
  | m :: ms, st, hh => (m st hh).bind fun r => (evv ms st r.2).map fun q => (r.1 :: q.1, q.2)
theorem evd_length : ∀ {ms : List Dv} {st : List Sl} {hh hh' : Hh} {ds : List D}, evd ms st hh = some (ds, hh') → ds.length = ms.length
  | [], _, _, _, _, h => by cases h; rfl
  | m :: ms, st, hh, hh', ds, h => by
    obtain ⟨r, _, h2⟩ := Option.bind_eq_some_iff.mp h
    obtain ⟨q, h3, h4⟩ := Option.map_eq_some_iff.mp h2
    cases h4
    simp [evd_length (ds := q.1) (hh' := q.2) h3]
inductive RepVs (K : PySem.W.Frag) (Z : Addr → Prop) (ρ : List Addr) (H : Hp) : List Val → List V → Prop
  | nil : RepVs K Z ρ H [] []
  | cons {a : Val} {v : V} {as : List Val} {vs : List V} : RepV K Z ρ H a v → RepVs K Z ρ H as vs → RepVs K Z ρ H (a :: as) (v :: vs)
inductive RepCs (g : G) (Z : Addr → Prop) (ρ : List Addr) (H : Hp) : List D → List V → Prop
  | nil : RepCs g Z ρ H [] []
  | cons {a : D} {v : V} {as : List D} {vs : List V} : RepC g Z ρ H a v → RepCs g Z ρ H as vs → RepCs g Z ρ H (a :: as) (v :: vs)
def aD (g : G) (ms : List Dv) : TA := fun σ H Q => ∃ Z ρ st hh ds hh', Rel g Z ρ st hh σ H ∧ evd ms st hh = some (ds, hh') ∧
  ∀ Z' ρ' xs H', Rel g Z' ρ' st hh' σ H' → Grow Z ρ H Z' ρ' H' → DZs g.K Z' H' xs ds → Q xs H'
def aC (g : G) (ms : List Dv) : TA := fun σ H Q => ∃ Z ρ st hh ds hh', Rel g Z ρ st hh σ H ∧ evd ms st hh = some (ds, hh') ∧
  ∀ Z' ρ' xs H', Rel g Z' ρ' st hh' σ H' → Grow Z ρ H Z' ρ' H' → RepCs g Z' ρ' H' ds xs → Q xs H'
def aV (g : G) (ms : List Vv) : TA := fun σ H Q => ∃ Z ρ st hh ds hh', Rel g Z ρ st hh σ H ∧ evv ms st hh = some (ds, hh') ∧
  ∀ Z' ρ' xs H', Rel g Z' ρ' st hh' σ H' → Grow Z ρ H Z' ρ' H' → RepVs g.K Z' ρ' H' ds xs → Q xs H'
section
variable {X : Cx} {g : G} {e : Expr} {es : List Expr}
theorem a_nilD : PA X [] (aD g []) := by
  refine PAw pa_nil fun σ H Q ⟨Z, ρ, st, hh, ds, hh', R, e1, P⟩ => ?_
  cases e1
  exact P Z ρ [] H R (Grow.refl Z ρ H) .nil
theorem a_nilC : PA X [] (aC g []) := by
  refine PAw pa_nil fun σ H Q ⟨Z, ρ, st, hh, ds, hh', R, e1, P⟩ => ?_
  cases e1
  exact P Z ρ [] H R (Grow.refl Z ρ H) .nil
theorem a_nilV : PA X [] (aV g []) := by
  refine PAw pa_nil fun σ H Q ⟨Z, ρ, st, hh, ds, hh', R, e1, P⟩ => ?_
  cases e1
  exact P Z ρ [] H R (Grow.refl Z ρ H) .nil
theorem a_consD {m : Dv} {ms : List Dv} (h : PE X e (tD g m)) (hr : PA X es (aD g ms)) (hs : starEach (e :: es) X.env = (false, eval e X.env) :: starEach es X.env := by rfl) : PA X (e :: es) (aD g (m :: ms)) := by
  refine PAw (pa_cons h hr hs) fun σ H Q ⟨Z, ρ, st, hh, ds, hh', R, e1, P⟩ => ?_
  obtain ⟨⟨d, h1⟩, e2, e3⟩ := Option.bind_eq_some_iff.mp e1
  obtain ⟨⟨ds1, h2⟩, e4, e5⟩ := Option.map_eq_some_iff.mp e3
  cases e5
  refine ⟨Z, ρ, st, hh, d, h1, R, e2, fun Z1 ρ1 x H1 R1 G1 D1 => ⟨Z1, ρ1, st, h1, ds1, h2, R1, e4, fun Z2 ρ2 xs H2 R2 G2 D2 => ?_⟩⟩
  exact P Z2 ρ2 (x :: xs) H2 R2 (G1.trans R1.heap G2) (.cons (D1.grow G2) D2)
theorem a_consC {m : Dv} {ms : List Dv} (h : PE X e (tC g m)) (hr : PA X es (aC g ms)) (hs : starEach (e :: es) X.env = (false, eval e X.env) :: starEach es X.env := by rfl) : PA X (e :: es) (aC g (m :: ms)) := by
  refine PAw (pa_cons h hr hs) fun σ H Q ⟨Z, ρ, st, hh, ds, hh', R, e1, P⟩ => ?_
  obtain ⟨⟨d, h1⟩, e2, e3⟩ := Option.bind_eq_some_iff.mp e1
  obtain ⟨⟨ds1, h2⟩, e4, e5⟩ := Option.map_eq_some_iff.mp e3
  cases e5
  refine ⟨Z, ρ, st, hh, d, h1, R, e2, fun Z1 ρ1 x H1 R1 G1 D1 => ⟨Z1, ρ1, st, h1, ds1, h2, R1, e4, fun Z2 ρ2 xs H2 R2 G2 D2 => ?_⟩⟩
  exact P Z2 ρ2 (x :: xs) H2 R2 (G1.trans R1.heap G2) (.cons (D1.grow G2) D2)
theorem a_consV {m : Vv} {ms : List Vv} (h : PE X e (tV g m)) (hr : PA X es (aV g ms)) (hs : starEach (e :: es) X.env = (false, eval e X.env) :: starEach es X.env := by rfl) : PA X (e :: es) (aV g (m :: ms)) := by
  refine PAw (pa_cons h hr hs) fun σ H Q ⟨Z, ρ, st, hh, ds, hh', R, e1, P⟩ => ?_
  obtain ⟨⟨d, h1⟩, e2, e3⟩ := Option.bind_eq_some_iff.mp e1
  obtain ⟨⟨ds1, h2⟩, e4, e5⟩ := Option.map_eq_some_iff.mp e3
  cases e5
  refine ⟨Z, ρ, st, hh, d, h1, R, e2, fun Z1 ρ1 x H1 R1 G1 D1 => ⟨Z1, ρ1, st, h1, ds1, h2, R1, e4, fun Z2 ρ2 xs H2 R2 G2 D2 => ?_⟩⟩
  exact P Z2 ρ2 (x :: xs) H2 R2 (G1.trans R1.heap G2) (.cons (D1.grow G2) D2)
end

/-! ### displays -/
def eTup (ms : List Dv) : Ev := fun st hh => (evd ms st hh).map fun r => (.v (.d (.tuple r.1)), r.2)
def eLst (ms : List Dv) : Ev := fun st hh => (evd ms st hh).map fun r => (.o (.lst r.1), r.2)
section
variable {X : Cx} {g : G} {es : List Expr} {ms : List Dv} {pos : Pos}
theorem small_line {n : Nat} (h : n ≤ 4000) : n ≤ sizeLine := by rw [sizeLine_eq]; omega
theorem x_tup {k : Nat} (h : PA X es (aD g ms)) (hl : ms.length ≤ 4000 := by decide) : PE X (.Tuple es k pos) (tI g (eTup ms)) := by
  refine PEw (pe_tup h) fun σ H Q ⟨Z, ρ, st, hh, w, hh', R, e1, P⟩ => ?_
  obtain ⟨⟨ds, h1⟩, e2, e3⟩ := Option.map_eq_some_iff.mp e1
  cases e3
  refine ⟨Z, ρ, st, hh, ds, h1, R, e2, fun Z1 ρ1 xs H1 R1 G1 D1 => ⟨small_line (by rw [D1.length, evd_length e2]; exact hl), fun p np => ?_⟩⟩
  have pu := Pure.newZ (o := .tup xs) R1.heap.zt np
  refine P _ ρ1 _ _ (R1.pure pu) (G1.trans R1.heap (pu.grow ρ1)) ?_
  exact .tup (.inl ⟨.inr rfl, .inl upd_same⟩) (D1.mono pu.z fun a u _ => pu.rd a u)
theorem x_lst (h : PA X es (aD g ms)) (hl : ms.length ≤ 4000 := by decide) : PE X (.List es pos) (tI g (eLst ms)) := by
  refine PEw (pe_lst h) fun σ H Q ⟨Z, ρ, st, hh, w, hh', R, e1, P⟩ => ?_
  obtain ⟨⟨ds, h1⟩, e2, e3⟩ := Option.map_eq_some_iff.mp e1
  cases e3
  refine ⟨Z, ρ, st, hh, ds, h1, R, e2, fun Z1 ρ1 xs H1 R1 G1 D1 => ⟨small_line (by rw [D1.length, evd_length e2]; exact hl), fun p np => ?_⟩⟩
  have pu := Pure.new (o := .lst xs) R1.heap.zt np
  refine P _ ρ1 _ _ (R1.pure pu) (G1.trans R1.heap (pu.grow ρ1)) ?_
  refine ⟨p, rfl, ⟨xs, upd_same, D1.mono pu.z fun a u _ => pu.rd a u⟩, fun z => R1.heap.zt p z np, fun hm => ?_, ?_⟩
  · obtain ⟨u, hu⟩ := R1.heap.tr hm
    rw [np] at hu; cases hu
  · cases q : H p with
    | none => rfl
    | some u => exact absurd np (G1.tr R1.heap (by rw [q]; simp))
end

/-! ### operators by values -/
/-- what an operation of two values asks -/
def rOp (g : G) (f : D → D → Option EV) : R2 := fun x y H Q => ∃ Z ρ a b e, (∀ c, Z c → H c ≠ none) ∧ (∀ c, c ∈ ρ → H c ≠ none) ∧ RepC g Z ρ H a x ∧ RepC g Z ρ H b y ∧ f a b = some e ∧
  ∀ Z' z H', Pure Z H Z' H' → RepEV g.K Z' ρ H H' e z → Q z H'
def eBin (f : D → D → Option EV) (a b : Dv) : Ev := fun st hh => (a st hh).bind fun r => (b st r.2).bind fun q => (f r.1 q.1).map fun e => (e, q.2)
def rUn (g : G) (f : D → Option EV) : V → Hp → VK → Prop := fun x H Q => ∃ Z ρ a e, (∀ c, Z c → H c ≠ none) ∧ (∀ c, c ∈ ρ → H c ≠ none) ∧ RepC g Z ρ H a x ∧ f a = some e ∧
  ∀ Z' z H', Pure Z H Z' H' → RepEV g.K Z' ρ H H' e z → Q z H'
def eUn (f : D → Option EV) (a : Dv) : Ev := fun st hh => (a st hh).bind fun r => (f r.1).map fun e => (e, r.2)
theorem HeapRep.trk {K : PySem.W.Frag} {Z : Addr → Prop} {ρ : List Addr} {hh : Hh} {H : Hp} (h : HeapRep K Z ρ hh H) : ∀ c, c ∈ ρ → H c ≠ none := fun c hc e => by
  obtain ⟨u, hu⟩ := h.tr hc
  rw [e] at hu; cases hu
theorem RepEV.back {K : PySem.W.Frag} {Z : Addr → Prop} {ρ : List Addr} {H0 H1 H : Hp} {e : EV} {v : V} (h : RepEV K Z ρ H1 H e v) (b : ∀ a, H1 a = none → H0 a = none) : RepEV K Z ρ H0 H e v := by
  cases e with
  | v x => exact h
  | o w =>
    obtain ⟨a, e, r, z, n, f⟩ := h
    exact ⟨a, e, r, z, n, b a f⟩
theorem Grow.back {Z Z' : Addr → Prop} {ρ ρ' : List Addr} {H H' : Hp} {K : PySem.W.Frag} {hh : Hh} (gr : Grow Z ρ H Z' ρ' H') (h : HeapRep K Z' ρ' hh H') : ∀ a, H' a = none → H a = none := fun a e => by
  cases q : H a with
  | none => rfl
  | some u => exact absurd e (gr.tr h (by rw [q]; simp))
section
variable {X : Cx} {g : G} {a b : Expr} {ma mb : Dv} {pos : Pos}
theorem bin_read {f : D → D → Option EV} {σ : L2.St} {H : Hp} {Q : VK} (h : tI g (eBin f ma mb) σ H Q) : tOp (rOp g f) (tC g ma) (tC g mb) σ H Q := by
  obtain ⟨Z, ρ, st, hh, w, hh', R, e1, P⟩ := h
  obtain ⟨⟨d, h1⟩, e2, e3⟩ := Option.bind_eq_some_iff.mp e1
  obtain ⟨⟨d2, h2⟩, e4, e5⟩ := Option.bind_eq_some_iff.mp e3
  obtain ⟨w', e6, e7⟩ := Option.map_eq_some_iff.mp e5
  cases e7
  refine ⟨Z, ρ, st, hh, d, h1, R, e2, fun Z1 ρ1 x H1 R1 G1 D1 => ⟨Z1, ρ1, st, h1, d2, h2, R1, e4, fun Z2 ρ2 y H2 R2 G2 D2 => ?_⟩⟩
  refine ⟨Z2, ρ2, d, d2, w, R2.heap.zt, R2.heap.trk, D1.grow G2, D2, e6, fun Z3 z H3 pu rv => ?_⟩
  have G12 := G1.trans R1.heap G2
  have R3 := R2.pure pu
  exact P Z3 ρ2 z H3 R3 (G12.trans R2.heap (pu.grow ρ2)) (rv.back (G12.back R2.heap))
theorem un_read {f : D → Option EV} {σ : L2.St} {H : Hp} {Q : VK} (h : tI g (eUn f ma) σ H Q) : tUn (rUn g f) (tC g ma) σ H Q := by
  obtain ⟨Z, ρ, st, hh, w, hh', R, e1, P⟩ := h
  obtain ⟨⟨d, h1⟩, e2, e3⟩ := Option.bind_eq_some_iff.mp e1
  obtain ⟨w', e6, e7⟩ := Option.map_eq_some_iff.mp e3
  cases e7
  refine ⟨Z, ρ, st, hh, d, h1, R, e2, fun Z1 ρ1 x H1 R1 G1 D1 => ?_⟩
  refine ⟨Z1, ρ1, d, w, R1.heap.zt, R1.heap.trk, D1, e6, fun Z3 z H3 pu rv => ?_⟩
  exact P Z3 ρ1 z H3 (R1.pure pu) (G1.trans R1.heap (pu.grow ρ1)) (rv.back (G1.back R1.heap))
theorem x_bin {op : Operator} {f : D → D → Option EV} (ho : OpR X (binaryOp op) (rOp g f)) (ha : PE X a (tC g ma)) (hb : PE X b (tC g mb)) : PE X (.BinOp a op b pos) (tI g (eBin f ma mb)) :=
  PEw (pe_op ho ha hb) fun _ _ _ h => bin_read h
theorem x_un {op : UnaryOp} {f : D → Option EV} (ho : UnR X (unaryOp op) (rUn g f)) (ha : PE X a (tC g ma)) : PE X (.UnaryOp op a pos) (tI g (eUn f ma)) :=
  PEw (pe_un ho ha) fun _ _ _ h => un_read h
theorem x_cmp {op : CmpOp} {f : D → D → Option EV} (ho : OpR X (compareOp op) (rOp g f)) (ha : PE X a (tC g ma)) (hb : PE X b (tC g mb)) (hm : behindInMarks op b = false) : PE X (.Compare a [op] [b] pos) (tI g (eBin f ma mb)) :=
  PEw (pe_cmpR ho ha hb hm) fun _ _ _ h => bin_read h
end
end FF

set_option Elab.async false
set_option linter.all false
set_option maxRecDepth 100000
set_option maxHeartbeats 1000000
set_option autoImplicit false
/-! FFOps: what the operators give, on data. -/
namespace FF
open PySem PySem.Spec PyProof.Rows L2

def fits (n : Nat) : Bool := decide (n ≤ 16777216)
theorem fits_iff {n : Nat} : fits n = true ↔ n ≤ sizeLine := by rw [sizeLine_eq]; unfold fits; exact decide_eq_true_iff
mutual
/-- no dict within, nested below n -/
def pl : Nat → D → Bool
  | _, .none => true
  | _, .bool _ => true
  | _, .int _ => true
  | _, .str _ => true
  | 0, _ => false
  | n + 1, .list xs => plAll n xs
  | n + 1, .tuple xs => plAll n xs
  | _ + 1, .dict _ => false
def plAll : Nat → List D → Bool
  | _, [] => true
  | n, x :: xs => pl n x && plAll n xs
end
theorem plAll_cons {n : Nat} {x : D} {xs : List D} : plAll n (x :: xs) = (pl n x && plAll n xs) := by rw [plAll]
mutual
theorem pl_plain : ∀ (d : D) (n : Nat), pl n d = true → d.plain = true ∧ d.depth ≤ n
  | .none, _, _ => ⟨rfl, by simp [PyData.depth]⟩
  | .bool _, _, _ => ⟨rfl, by simp [PyData.depth]⟩
  | .int _, _, _ => ⟨rfl, by simp [PyData.depth]⟩
  | .str _, _, _ => ⟨rfl, by simp [PyData.depth]⟩
  | .list xs, 0, h => by simp [pl] at h
  | .list xs, n + 1, h => by
    obtain ⟨a, b⟩ := plAll_plain xs n (by simpa only [pl] using h)
    refine ⟨by simpa only [PyData.plain] using a, by simp only [PyData.depth]; omega⟩
  | .tuple xs, 0, h => by simp [pl] at h
  | .tuple xs, n + 1, h => by
    obtain ⟨a, b⟩ := plAll_plain xs n (by simpa only [pl] using h)
    refine ⟨by simpa only [PyData.plain] using a, by simp only [PyData.depth]; omega⟩
  | .dict xs, 0, h => by simp [pl] at h
  | .dict xs, n + 1, h => by simp [pl] at h
theorem plAll_plain : ∀ (d : List D) (n : Nat), plAll n d = true → PyData.plainAll d = true ∧ PyData.depthAll d ≤ n
  | [], _, _ => ⟨rfl, by simp [PyData.depthAll]⟩
  | x :: xs, n, h => by
    rw [plAll_cons, Bool.and_eq_true] at h
    obtain ⟨a, b⟩ := pl_plain x n h.1
    obtain ⟨c, e⟩ := plAll_plain xs n h.2
    refine ⟨by rw [PyData.plainAll, a, c]; rfl, by simp only [PyData.depthAll]; omega⟩
end

/-! ### giving results -/
section
variable {g : G} {Z : Addr → Prop} {ρ : List Addr} {H : Hp} {Q : VK} {d : D} {x : V} {vs : List V} {ds : List D}
theorem give_d (zt : ∀ c, Z c → H c ≠ none) (P : ∀ Z' z H', Pure Z H Z' H' → RepEV g.K Z' ρ H H' (.v (.d d)) z → Q z H') (h : DZ g.K Z H x d) : Q x H := P Z x H (Pure.refl zt) h
theorem give_lst (zt : ∀ c, Z c → H c ≠ none) (tr : ∀ c, c ∈ ρ → H c ≠ none) (P : ∀ Z' z H', Pure Z H Z' H' → RepEV g.K Z' ρ H H' (.o (.lst ds)) z → Q z H') (h : DZs g.K Z H vs ds) : ∀ p, H p = none → Q (.ref p) (upd H p (.lst vs)) := fun p np => by
  have pu := Pure.new (o := .lst vs) zt np
  exact P Z _ _ pu ⟨p, rfl, ⟨vs, upd_same, h.mono pu.z fun a u _ => pu.rd a u⟩, fun z => zt p z np, fun m => tr p m np, np⟩
theorem give_tup (zt : ∀ c, Z c → H c ≠ none) (P : ∀ Z' z H', Pure Z H Z' H' → RepEV g.K Z' ρ H H' (.v (.d (.tuple ds))) z → Q z H') (h : DZs g.K Z H vs ds) : ∀ p, H p = none → Q (.ref p) (upd H p (.tup vs)) := fun p np => by
  have pu := Pure.newZ (o := .tup vs) zt np
  exact P _ _ _ pu (.tup (.inl ⟨.inr rfl, .inl upd_same⟩) (h.mono pu.z fun a u _ => pu.rd a u))
/-- a list as it is now -/
theorem RepC.lst {g : G} (h : RepC g Z ρ H (.list ds) x) : ∃ a vs, x = .ref a ∧ Rd H a (.lst vs) ∧ DZs g.K Z H vs ds := by
  rcases h with h | ⟨a, o, e, e2, r, _⟩
  · cases h with
    | lst a b => exact ⟨_, _, rfl, a.2, b⟩
  · cases o with
    | lst xs =>
      cases e2
      obtain ⟨vs, h1, h2⟩ := r
      exact ⟨a, vs, e, .inl h1, h2⟩
    | dct ks => cases e2
theorem RepC.tup {g : G} (h : RepC g Z ρ H (.tuple ds) x) : ∃ a vs, x = .ref a ∧ SqT g.K H a vs ∧ DZs g.K Z H vs ds := by
  rcases h with h | ⟨a, o, e, e2, r, _⟩
  · cases h with
    | tup a b => exact ⟨_, _, rfl, a.sq, b⟩
  · cases o with
    | lst xs => cases e2
    | dct ks => cases e2
theorem RepC.int {g : G} {i : Int} (h : RepC g Z ρ H (.int i) x) : x = .int i := by
  rcases h with h | ⟨a, o, e, e2, r, _⟩
  · cases h; rfl
  · cases o <;> cases e2
theorem RepC.bool {g : G} {i : Bool} (h : RepC g Z ρ H (.bool i) x) : x = .bl i := by
  rcases h with h | ⟨a, o, e, e2, r, _⟩
  · cases h; rfl
  · cases o <;> cases e2
theorem RepC.str {g : G} {i : Str} (h : RepC g Z ρ H (.str i) x) : x = .str i := by
  rcases h with h | ⟨a, o, e, e2, r, _⟩
  · cases h; rfl
  · cases o <;> cases e2
theorem RepC.none_ {g : G} (h : RepC g Z ρ H .none x) : x = .non := by
  rcases h with h | ⟨a, o, e, e2, r, _⟩
  · cases h; rfl
  · cases o <;> cases e2
theorem RepC.dz {g : G} (h : RepC g Z ρ H d x) (n : ∀ xs, d ≠ .list xs) (n2 : ∀ xs, d ≠ .dict xs) : DZ g.K Z H x d := by
  rcases h with h | ⟨a, o, e, e2, r, _⟩
  · exact h
  · cases o with
    | lst xs => exact absurd e2.symm (n xs)
    | dct xs => exact absurd e2.symm (n2 xs)
theorem RepC.dp {g : G} (h : RepC g Z ρ H d x) (p : d.plain = true) : Dp g.K H x d := by
  rcases h with h | ⟨a, o, e, e2, r, _⟩
  · exact h.dp p
  · cases o with
    | lst xs =>
      cases e2; subst e
      obtain ⟨vs, h1, h2⟩ := r
      have p : PyData.plain (.list xs) = true := p
      exact .lst (.inl (.inl h1)) (h2.dp (by simpa only [PyData.plain] using p))
    | dct ks =>
      cases e2
      have p : PyData.plain (.dict ks) = true := p
      simp [PyData.plain] at p
end
/-- what a context must give -/
structure Ox (g : G) (X : Cx) : Prop where
  k : X.K = g.K
  calm : X.calm = true
  un : X.A.units + 100 < cLine

/-! ### arithmetic -/
def I64 : Int := 18446744073709551616
def mulOk (i j : Int) : Bool := (decide (-I64 < i) && decide (i < I64)) || (decide (-I64 < j) && decide (j < I64))
def bAdd : D → D → Option EV
  | .int a, .int b => some (.v (.d (.int (a + b))))
  | .int a, .bool b => some (.v (.d (.int (a + b2i b))))
  | .str a, .str b => if fits (a.length + b.length) then some (.v (.d (.str (a ++ b)))) else none
  | .tuple a, .tuple b => if fits (a.length + b.length) then some (.v (.d (.tuple (a ++ b)))) else none
  | .list a, .list b => if fits (a.length + b.length) then some (.o (.lst (a ++ b))) else none
  | _, _ => none
def bSub : D → D → Option EV
  | .int a, .int b => some (.v (.d (.int (a - b))))
  | _, _ => none
/-- a text, so many times -/
def strRep (x : Str) (n : Nat) : Str := ⟨(List.replicate n x.cps.toList).flatten.toArray⟩
def bMul : D → D → Option EV
  | .int a, .int b => if mulOk a b then some (.v (.d (.int (a * b)))) else none
  | .list a, .int b => if decide (b ≤ 1000000) && decide (-1000000 ≤ b) && fits (a.length * b.toNat) then some (.o (.lst (List.replicate b.toNat a).flatten)) else none
  | .tuple a, .int b => if decide (2 ≤ b) && decide (b ≤ 1000) && decide (a.length ≤ 1000) && decide (a ≠ []) then some (.v (.d (.tuple (List.replicate b.toNat a).flatten))) else none
  | .str a, .int b => if decide (b ≤ 1000000) && decide (-1000000 ≤ b) && fits (a.length * b.toNat) then some (.v (.d (.str (strRep a b.toNat)))) else none
  | _, _ => none
def bDiv : D → D → Option EV
  | .int a, .int b => if decide (0 < b) && decide (b < 1073741824) then some (.v (.d (.int (a / b)))) else none
  | _, _ => none
def bMod : D → D → Option EV
  | .int a, .int b => if decide (0 < b) then some (.v (.d (.int (a % b)))) else none
  | _, _ => none
def bPow : D → D → Option EV
  | .int a, .int b => if decide (0 ≤ b) && decide (b ≤ 1000) && decide (a.natAbs < 1000) then some (.v (.d (.int (a ^ b.toNat)))) else none
  | _, _ => none
def uNeg : D → Option EV
  | .int a => some (.v (.d (.int (-a))))
  | _ => none
section
variable {X : Cx} {g : G}
theorem DZs.nil_iff {K : PySem.W.Frag} {Z : Addr → Prop} {H : Hp} {vs : List V} {ds : List D} (h : DZs K Z H vs ds) : vs = [] ↔ ds = [] := by cases h <;> simp
/-- list + list, whatever list is read -/
theorem cat_rd {pins : List (Addr × Obj)} {s : Shared} {σ : L2.St} {H : Hp} {l b : Addr} {xs zs : List V} {Q : VK} (I : Inv X pins σ H s) (hH : Rd H l (.lst xs)) (hB : Rd H b (.lst zs)) (hz : xs.length + zs.length ≤ sizeLine)
    (q : ∀ p, H p = none → Q (.ref p) (upd H p (.lst (xs ++ zs)))) : wpAny (model X.prog X.w) X.A (binaryOp .Add (.ref l) (.ref b)) (EP X pins σ Q) X.xe s := by
  obtain ⟨z, its, n, r, e⟩ := hH.ok I.hok
  obtain ⟨z2, its2, n2, r2, e2⟩ := hB.ok I.hok
  have hl := r.length
  have hl2 := r2.length
  refine PySem.P.add_list e e2 ?_ (by rw [List.size_toArray, List.size_toArray]; omega)
  have ea : its.toArray ++ its2.toArray = (its ++ its2).toArray := by simp
  rw [ea]
  exact ⟨.ref _, _, I.lnew (t' := s.toks) (r.append r2) (by rw [List.length_append]; omega), rfl, q _ I.fresh⟩
theorem o_add (O : Ox g X) : OpR X (binaryOp .Add) (rOp g bAdd) := by
  intro pins s σ H x y v u Q I rx ry ⟨Z, ρ, a, b, e, zt, tr, ha, hb, hf, P⟩
  unfold bAdd at hf
  split at hf
  · cases hf; cases ha.int; cases hb.int
    exact op_add pins s σ H _ _ v u Q I rx ry ⟨_, _, rfl, rfl, give_d zt P (.int _)⟩
  · cases hf; cases ha.int; cases hb.bool
    exact op_add_ib pins s σ H _ _ v u Q I rx ry ⟨_, _, rfl, rfl, give_d zt P (.int _)⟩
  · split at hf
    · rename_i c
      cases hf; cases ha.str; cases hb.str
      exact op_add_str pins s σ H _ _ v u Q I rx ry ⟨_, _, rfl, rfl, fits_iff.mp c, give_d zt P (.str _)⟩
    · cases hf
  · split at hf
    · rename_i xs ys c
      cases hf
      have c := fits_iff.mp c
      obtain ⟨p, vs, rfl, h1, h2⟩ := ha.tup
      obtain ⟨q, ws, rfl, h3, h4⟩ := hb.tup
      rw [← O.k] at h1 h3
      refine op_catA pins s σ H _ _ v u Q I rx ry ⟨p, q, vs, ws, rfl, rfl, h1, h3, by rw [h2.length, h4.length]; exact c, fun e => ?_, fun _ e => ?_, fun _ _ => ?_⟩
      · have e' := h2.nil_iff.mp e
        subst e'
        exact give_d zt P (hb.dz (fun _ => PyData.noConfusion) (fun _ => PyData.noConfusion))
      · have e' := h4.nil_iff.mp e
        subst e'
        rw [List.append_nil] at P
        exact give_d zt P (ha.dz (fun _ => PyData.noConfusion) (fun _ => PyData.noConfusion))
      · exact give_tup zt P (h2.append h4)
    · cases hf
  · split at hf
    · rename_i xs ys c
      cases hf
      have c := fits_iff.mp c
      obtain ⟨p, vs, rfl, h1, h2⟩ := ha.lst
      obtain ⟨q, ws, rfl, h3, h4⟩ := hb.lst
      cases rx; cases ry
      exact cat_rd I h1 h3 (by rw [h2.length, h4.length]; exact c) (give_lst zt tr P (h2.append h4))
    · cases hf
  · cases hf
theorem o_sub : OpR X (binaryOp .Sub) (rOp g bSub) := by
  intro pins s σ H x y v u Q I rx ry ⟨Z, ρ, a, b, e, zt, tr, ha, hb, hf, P⟩
  unfold bSub at hf
  split at hf
  · cases hf; cases ha.int; cases hb.int
    exact op_sub pins s σ H _ _ v u Q I rx ry ⟨_, _, rfl, rfl, give_d zt P (.int _)⟩
  · cases hf
theorem o_div : OpR X (binaryOp .FloorDiv) (rOp g bDiv) := by
  intro pins s σ H x y v u Q I rx ry ⟨Z, ρ, a, b, e, zt, tr, ha, hb, hf, P⟩
  unfold bDiv at hf
  split at hf
  · split at hf
    · rename_i c
      rw [Bool.and_eq_true, decide_eq_true_eq, decide_eq_true_eq] at c
      cases hf; cases ha.int; cases hb.int
      exact op_fdiv pins s σ H _ _ v u Q I rx ry ⟨_, _, rfl, rfl, c, give_d zt P (.int _)⟩
    · cases hf
  · cases hf
theorem o_mod : OpR X (binaryOp .Mod) (rOp g bMod) := by
  intro pins s σ H x y v u Q I rx ry ⟨Z, ρ, a, b, e, zt, tr, ha, hb, hf, P⟩
  unfold bMod at hf
  split at hf
  · split at hf
    · rename_i c
      rw [decide_eq_true_eq] at c
      cases hf; cases ha.int; cases hb.int
      exact op_mod pins s σ H _ _ v u Q I rx ry ⟨_, _, rfl, rfl, c, give_d zt P (.int _)⟩
    · cases hf
  · cases hf
theorem o_pow : OpR X (binaryOp .Pow) (rOp g bPow) := by
  intro pins s σ H x y v u Q I rx ry ⟨Z, ρ, a, b, e, zt, tr, ha, hb, hf, P⟩
  unfold bPow at hf
  split at hf
  · split at hf
    · rename_i c
      rw [Bool.and_eq_true, Bool.and_eq_true, decide_eq_true_eq, decide_eq_true_eq, decide_eq_true_eq] at c
      cases hf; cases ha.int; cases hb.int
      exact op_pow pins s σ H _ _ v u Q I rx ry ⟨_, _, rfl, rfl, ⟨c.1.1, by omega, by omega⟩, give_d zt P (.int _)⟩
    · cases hf
  · cases hf
theorem o_neg : UnR X (unaryOp .USub) (rUn g uNeg) := by
  intro pins s σ H x v Q I rx ⟨Z, ρ, a, e, zt, tr, ha, hf, P⟩
  unfold uNeg at hf
  split at hf
  · cases hf; cases ha.int
    exact un_neg pins s σ H _ v Q I rx ⟨_, rfl, give_d zt P (.int _)⟩
  · cases hf
end
end FF

set_option Elab.async false
set_option linter.all false
set_option maxRecDepth 100000
set_option maxHeartbeats 1000000
set_option autoImplicit false
/-! FFOps2: products and comparisons, on data. -/
namespace FF
open PySem PySem.Spec PyProof.Rows L2
section
variable {K : PySem.W.Frag} {Z : Addr → Prop} {H : Hp}
theorem DZs.rep {vs : List V} {ds : List D} (h : DZs K Z H vs ds) : ∀ n : Nat, DZs K Z H (List.replicate n vs).flatten (List.replicate n ds).flatten
  | 0 => .nil
  | n + 1 => by
    rw [List.replicate_succ, List.replicate_succ, List.flatten_cons, List.flatten_cons]
    exact h.append (DZs.rep h n)
end
section
variable {X : Cx} {g : G}
theorem I64_eq : I64 = 2 ^ 64 := by decide
theorem mulOk_C {i j : Int} (h : mulOk i j = true) : CMul i j := by
  unfold mulOk at h
  rw [Bool.or_eq_true, Bool.and_eq_true, Bool.and_eq_true, decide_eq_true_eq, decide_eq_true_eq, decide_eq_true_eq, decide_eq_true_eq, I64_eq] at h
  exact h
/-- list * int, whatever list is read -/
theorem rep_rd {pins : List (Addr × Obj)} {s : Shared} {σ : L2.St} {H : Hp} {l : Addr} {k : Int} {t : Tok} {xs : List V} {Q : VK} (I : Inv X pins σ H s) (hH : Rd H l (.lst xs)) (h1 : -(2 ^ 63) ≤ k) (h2 : k < 2 ^ 63) (hz : xs.length * k.toNat ≤ sizeLine)
    (q : ∀ p, H p = none → Q (.ref p) (upd H p (.lst (List.replicate k.toNat xs).flatten))) : wpAny (model X.prog X.w) X.A (binaryOp .Mult (.ref l) (.int k t)) (EP X pins σ Q) X.xe s := by
  obtain ⟨z, its, n, r, e⟩ := hH.ok I.hok
  have hl := r.length
  have hlen : its.toArray.size * k.toNat ≤ sizeLine := by rw [List.size_toArray, ← hl]; exact hz
  have hcap : ¬ its.toArray.size * k.toNat > (2 ^ 63 - 1) / 8 := by
    have : (sizeLine : Nat) ≤ (2 ^ 63 - 1) / 8 := by decide
    omega
  have hfit : ¬ (!Builtin.List.listFitsIndex k) = true := by
    rw [fitsIndex_both h1 h2]
    exact Bool.false_ne_true
  have hlong : ¬ Builtin.List.listTooLong (its.toArray.size * k.toNat) = true := by
    rw [notLongL hlen]
    exact Bool.false_ne_true
  have hnew : List.foldl (fun x1 x2 => x1 ++ x2) #[] (List.replicate (if its.toArray.isEmpty = true then 0 else k.toNat) its.toArray) = (List.replicate k.toNat its).flatten.toArray := by
    have f0 : ∀ m : Nat, List.foldl (fun x1 x2 => x1 ++ x2) #[] (List.replicate m its.toArray) = (List.replicate m its).flatten.toArray := fun m => by
      have := foldl_rep its m []
      rw [List.nil_append] at this
      exact this
    rw [f0]
    cases its with
    | nil => simp
    | cons a r' => rw [if_neg (by simp)]
  refine wpAny_binaryOp_repeat_ref (T := "list") (U := "int") (by decide) ⟨_, e, rfl⟩ (fun s' => typeIs_int s' k t) noFill_list_mul F.fills_int_mul F.slot_int_rmul repeat_list F.slot_int_index.lookup
    (call_meets F.slot_int_rmul (typeIs_int s k t) F.entry_int_rmul (F.args_int_rmul_2 _ _) (int___rmul___int_list k t l its.toArray n)
      ⟨e, rfl, ⟨_, e, rfl⟩, call_meets F.slot_list_mul ⟨_, e, rfl⟩ F.entry_list_mul (F.args_list_mul_2 _ _) (AutoListH.list___mul___list_int_3 l its.toArray n k t hfit hcap hlong) ⟨e, ?_⟩⟩)
  rw [hnew]
  exact ⟨.ref _, _, I.lnew (t' := s.toks) (r.rep k.toNat) (by rw [PyProof.Rows.lm_len_rep_flat, Nat.mul_comm]; exact hz), rfl, q _ I.fresh⟩
theorem foldl_arr {α : Type} : ∀ (l : List (Array α)) (a : Array α), (l.foldl (fun x y => x ++ y) a).toList = a.toList ++ (l.map Array.toList).flatten
  | [], a => by simp
  | b :: l, a => by rw [List.foldl_cons, foldl_arr l (a ++ b)]; simp
theorem mul_rep (x : Str) (n : Int) : Txt.mul x n = strRep x n.toNat := by
  obtain ⟨c⟩ := x
  unfold Txt.mul strRep
  by_cases h : n < 1
  · rw [if_pos h, show n.toNat = 0 by omega]
    rfl
  · rw [if_neg h]
    by_cases h2 : (n == 1 || Str.length ⟨c⟩ == 0) = true
    · rw [if_pos h2]
      rw [Bool.or_eq_true] at h2
      rcases h2 with h2 | h2
      · have e : n = 1 := eq_of_beq h2
        subst e
        simp
      · have e : c.size = 0 := eq_of_beq h2
        have e2 : c = #[] := Array.eq_empty_of_size_eq_zero e
        subst e2
        simp
    · rw [if_neg h2]
      congr 1
      apply Array.toList_inj.mp
      rw [foldl_arr]
      simp
theorem o_mul (O : Ox g X) : OpR X (binaryOp .Mult) (rOp g bMul) := by
  intro pins s σ H x y v u Q I rx ry ⟨Z, ρ, a, b, e, zt, tr, ha, hb, hf, P⟩
  unfold bMul at hf
  split at hf
  · split at hf
    · rename_i c
      cases hf; cases ha.int; cases hb.int
      exact op_mul pins s σ H _ _ v u Q I rx ry ⟨_, _, rfl, rfl, mulOk_C c, give_d zt P (.int _)⟩
    · cases hf
  · split at hf
    · rename_i c
      rw [Bool.and_eq_true, Bool.and_eq_true, decide_eq_true_eq, decide_eq_true_eq] at c
      obtain ⟨⟨c1, c2⟩, c3⟩ := c
      cases hf
      obtain ⟨p, vs, rfl, h1, h2⟩ := ha.lst
      cases hb.int
      cases rx
      obtain ⟨t, rfl⟩ := ry
      exact rep_rd I h1 (by omega) (by omega) (by rw [h2.length]; exact fits_iff.mp c3) (give_lst zt tr P (h2.rep _))
    · cases hf
  · split at hf
    · rename_i c
      rw [Bool.and_eq_true, Bool.and_eq_true, Bool.and_eq_true, decide_eq_true_eq, decide_eq_true_eq, decide_eq_true_eq, decide_eq_true_eq] at c
      obtain ⟨⟨⟨c1, c2⟩, c3⟩, c4⟩ := c
      cases hf
      obtain ⟨p, vs, rfl, h1, h2⟩ := ha.tup
      cases hb.int
      rw [← O.k] at h1
      exact op_repT pins s σ H _ _ v u Q I rx ry ⟨p, _, vs, rfl, rfl, h1, fun e => c4 (h2.nil_iff.mp e), c1, c2, by rw [h2.length]; exact c3, give_tup zt P (h2.rep _)⟩
    · cases hf
  · split at hf
    · rename_i c
      rw [Bool.and_eq_true, Bool.and_eq_true, decide_eq_true_eq, decide_eq_true_eq] at c
      obtain ⟨⟨c1, c2⟩, c3⟩ := c
      have c3 := of_decide_eq_true c3
      cases hf
      cases ha.str; cases hb.int
      obtain ⟨t, rfl⟩ := rx
      obtain ⟨t', rfl⟩ := ry
      refine PySem.SB.mul (PyProof.Rows.mulOk_of _ (Int.toNat _) (Nat.le_refl _) (by omega) (by omega) (by omega) c3) fun t' k => ?_
      rw [mul_rep]
      exact ⟨.str _, H, I.tok _, ⟨_, rfl⟩, give_d zt P (.str _)⟩
    · cases hf
  · cases hf

/-! ### comparisons -/
def bEq (x y : D) : Option EV := if pl 20 x && pl 20 y then some (.v (.d (.bool (PyData.eqv x y)))) else none
def bNe (x y : D) : Option EV := if pl 20 x && pl 20 y then some (.v (.d (.bool (!PyData.eqv x y)))) else none
def notNone : D → Bool
  | .none => false
  | _ => true
def cmpOk (x y : D) : Bool := pl 20 x && pl 20 y && PySem.W.alike x y && notNone x
def bLt (x y : D) : Option EV := if cmpOk x y then some (.v (.d (.bool (PySem.W.dataLt x y)))) else none
def bGt (x y : D) : Option EV := if cmpOk x y then some (.v (.d (.bool (PySem.W.dataLt y x)))) else none
def bLe (x y : D) : Option EV := if cmpOk x y then some (.v (.d (.bool (!PySem.W.dataLt y x)))) else none
def bGe (x y : D) : Option EV := if cmpOk x y then some (.v (.d (.bool (!PySem.W.dataLt x y)))) else none
def bInB : D → D → Option Bool
  | x, .list ys => if pl 20 x && plAll 20 ys then some (ys.any fun y => PyData.eqv y x) else none
  | x, .tuple ys => if pl 20 x && plAll 20 ys then some (ys.any fun y => PyData.eqv y x) else none
  | .str x, .str y => if x.cps.size = 1 then some (y.cps.toList.contains (x.cps.toList.headD 0)) else none
  | _, _ => none
def bIn (x y : D) : Option EV := (bInB x y).map fun b => .v (.d (.bool b))
def bNotIn (x y : D) : Option EV := (bInB x y).map fun b => .v (.d (.bool !b))
def isNone : D → Bool
  | .none => true
  | _ => false
def bIsB : D → D → Option Bool
  | x, .none => some (isNone x)
  | .bool a, .bool b => some (a == b)
  | _, _ => none
def bIs (x y : D) : Option EV := (bIsB x y).map fun b => .v (.d (.bool b))
def bIsNot (x y : D) : Option EV := (bIsB x y).map fun b => .v (.d (.bool !b))
theorem reads2 {pins : List (Addr × Obj)} {s : Shared} {σ : L2.St} {H : Hp} {Z : Addr → Prop} {ρ : List Addr} {x : V} {v : Value} {d : D} (O : Ox g X) (I : Inv X pins σ H s) (rx : RelV x v) (h : RepC g Z ρ H d x) (p : pl 20 d = true) :
    (∃ as, Reads s.heap v d as) ∧ d.plain = true ∧ d.depth ≤ 20 := by
  obtain ⟨a, b⟩ := pl_plain d 20 p
  have dp := h.dp a
  rw [← O.k] at dp
  exact ⟨Dp.reads I d x v dp rx, a, b⟩
theorem bl_end {pins : List (Addr × Obj)} {s : Shared} {σ : L2.St} {H : Hp} {Q : VK} {b : Bool} (I : Inv X pins σ H s) (q : Q (.bl b) H) : EP X pins σ Q (.bool b) s := ⟨.bl b, H, I, rfl, q⟩
theorem o_eq (O : Ox g X) : OpR X (compareOp .Eq) (rOp g bEq) := by
  intro pins s σ H x y v u Q I rx ry ⟨Z, ρ, a, b, e, zt, tr, ha, hb, hf, P⟩
  unfold bEq at hf
  split at hf
  · rename_i c
    rw [Bool.and_eq_true] at c
    cases hf
    obtain ⟨⟨as, r1⟩, p1, d1⟩ := reads2 O I rx ha c.1
    obtain ⟨⟨bs, r2⟩, p2, d2⟩ := reads2 O I ry hb c.2
    have := O.un
    exact SeqAt.eq_plain r1 r2 p1 p2 (by omega) (bl_end I (give_d zt P (.bl _)))
  · cases hf
theorem o_ne (O : Ox g X) : OpR X (compareOp .NotEq) (rOp g bNe) := by
  intro pins s σ H x y v u Q I rx ry ⟨Z, ρ, a, b, e, zt, tr, ha, hb, hf, P⟩
  unfold bNe at hf
  split at hf
  · rename_i c
    rw [Bool.and_eq_true] at c
    cases hf
    obtain ⟨⟨as, r1⟩, p1, d1⟩ := reads2 O I rx ha c.1
    obtain ⟨⟨bs, r2⟩, p2, d2⟩ := reads2 O I ry hb c.2
    have := O.un
    exact SeqAt.ne_plain r1 r2 p1 p2 (by omega) (bl_end I (give_d zt P (.bl _)))
  · cases hf
theorem cmp_facts {pins : List (Addr × Obj)} {s : Shared} {σ : L2.St} {H : Hp} {Z : Addr → Prop} {ρ : List Addr} {x y : V} {v u : Value} {a b : D} (O : Ox g X) (I : Inv X pins σ H s) (rx : RelV x v) (ry : RelV y u) (ha : RepC g Z ρ H a x) (hb : RepC g Z ρ H b y) (c : cmpOk a b = true) :
    ∃ as bs, Reads s.heap v a as ∧ Reads s.heap u b bs ∧ PySem.W.alike a b = true ∧ a ≠ .none ∧ X.A.units + min a.depth b.depth < cLine := by
  unfold cmpOk at c
  rw [Bool.and_eq_true, Bool.and_eq_true, Bool.and_eq_true] at c
  obtain ⟨⟨⟨c1, c2⟩, c3⟩, c4⟩ := c
  obtain ⟨⟨as, r1⟩, p1, d1⟩ := reads2 O I rx ha c1
  obtain ⟨⟨bs, r2⟩, p2, d2⟩ := reads2 O I ry hb c2
  have := O.un
  exact ⟨as, bs, r1, r2, c3, (fun e => by rw [e] at c4; cases c4), by omega⟩
theorem o_lt (O : Ox g X) : OpR X (compareOp .Lt) (rOp g bLt) := by
  intro pins s σ H x y v u Q I rx ry ⟨Z, ρ, a, b, e, zt, tr, ha, hb, hf, P⟩
  unfold bLt at hf
  split at hf
  · rename_i c
    cases hf
    obtain ⟨as, bs, r1, r2, al, nn, hu⟩ := cmp_facts O I rx ry ha hb c
    exact PySem.W.lt_data r1 r2 al nn hu (bl_end I (give_d zt P (.bl _)))
  · cases hf
theorem o_gt (O : Ox g X) : OpR X (compareOp .Gt) (rOp g bGt) := by
  intro pins s σ H x y v u Q I rx ry ⟨Z, ρ, a, b, e, zt, tr, ha, hb, hf, P⟩
  unfold bGt at hf
  split at hf
  · rename_i c
    cases hf
    obtain ⟨as, bs, r1, r2, al, nn, hu⟩ := cmp_facts O I rx ry ha hb c
    exact PySem.W.gt_data r1 r2 al nn hu (bl_end I (give_d zt P (.bl _)))
  · cases hf
theorem o_le (O : Ox g X) : OpR X (compareOp .LtE) (rOp g bLe) := by
  intro pins s σ H x y v u Q I rx ry ⟨Z, ρ, a, b, e, zt, tr, ha, hb, hf, P⟩
  unfold bLe at hf
  split at hf
  · rename_i c
    cases hf
    obtain ⟨as, bs, r1, r2, al, nn, hu⟩ := cmp_facts O I rx ry ha hb c
    exact PySem.W.le_data r1 r2 al nn hu (bl_end I (give_d zt P (.bl _)))
  · cases hf
theorem o_ge (O : Ox g X) : OpR X (compareOp .GtE) (rOp g bGe) := by
  intro pins s σ H x y v u Q I rx ry ⟨Z, ρ, a, b, e, zt, tr, ha, hb, hf, P⟩
  unfold bGe at hf
  split at hf
  · rename_i c
    cases hf
    obtain ⟨as, bs, r1, r2, al, nn, hu⟩ := cmp_facts O I rx ry ha hb c
    exact PySem.W.ge_data r1 r2 al nn hu (bl_end I (give_d zt P (.bl _)))
  · cases hf
theorem one_sign {x : Str} (h : x.cps.size = 1) : x = ⟨[x.cps.toList.headD 0].toArray⟩ := by
  obtain ⟨⟨l⟩⟩ := x
  match l, h with
  | [c], _ => rfl
theorem seq_list {pins : List (Addr × Obj)} {s : Shared} {σ : L2.St} {H : Hp} {Z : Addr → Prop} {ρ : List Addr} {x : V} {v : Value} {ys : List D} (O : Ox g X) (I : Inv X pins σ H s) (rx : RelV x v) (h : RepC g Z ρ H (.list ys) x) (p : plAll 20 ys = true) :
    (∃ as, Reads s.heap v (.list ys) as) ∧ PyData.plainAll ys = true ∧ PyData.depthAll ys ≤ 20 := by
  obtain ⟨a, b⟩ := plAll_plain ys 20 p
  have dp := h.dp (by simpa only [PyData.plain] using a)
  rw [← O.k] at dp
  exact ⟨Dp.reads I _ x v dp rx, a, b⟩
theorem seq_tup {pins : List (Addr × Obj)} {s : Shared} {σ : L2.St} {H : Hp} {Z : Addr → Prop} {ρ : List Addr} {x : V} {v : Value} {ys : List D} (O : Ox g X) (I : Inv X pins σ H s) (rx : RelV x v) (h : RepC g Z ρ H (.tuple ys) x) (p : plAll 20 ys = true) :
    (∃ as, Reads s.heap v (.tuple ys) as) ∧ PyData.plainAll ys = true ∧ PyData.depthAll ys ≤ 20 := by
  obtain ⟨a, b⟩ := plAll_plain ys 20 p
  have dp := h.dp (by simpa only [PyData.plain] using a)
  rw [← O.k] at dp
  exact ⟨Dp.reads I _ x v dp rx, a, b⟩
theorem o_in (O : Ox g X) : OpR X (compareOp .In) (rOp g bIn) := by
  intro pins s σ H x y v u Q I rx ry ⟨Z, ρ, a, b, e, zt, tr, ha, hb, hf, P⟩
  obtain ⟨k, hk, rfl⟩ := Option.map_eq_some_iff.mp hf
  have := O.un
  unfold bInB at hk
  split at hk
  · split at hk
    · rename_i c
      rw [Bool.and_eq_true] at c
      cases hk
      obtain ⟨⟨as, r1⟩, p1, d1⟩ := reads2 O I rx ha c.1
      obtain ⟨⟨bs, r2⟩, p2, d2⟩ := seq_list O I ry hb c.2
      exact SeqAt.in_list_data r2 r1 p2 p1 (by omega) (bl_end I (give_d zt P (.bl _)))
    · cases hk
  · split at hk
    · rename_i c
      rw [Bool.and_eq_true] at c
      cases hk
      obtain ⟨⟨as, r1⟩, p1, d1⟩ := reads2 O I rx ha c.1
      obtain ⟨⟨bs, r2⟩, p2, d2⟩ := seq_tup O I ry hb c.2
      exact SeqAt.in_tuple_data r2 r1 p2 p1 (by omega) (bl_end I (give_d zt P (.bl _)))
    · cases hk
  · split at hk
    · rename_i i j c
      cases hk; cases ha.str; cases hb.str
      refine op_in_str pins s σ H _ _ v u Q I rx ry ⟨_, _, rfl, rfl, ?_⟩
      rw [one_sign c]
      have e := SX.in_one j.cps.toList (i.cps.toList.headD 0)
      rw [show SX.S j.cps.toList = j from rfl, show SX.S [i.cps.toList.headD 0] = ⟨[i.cps.toList.headD 0].toArray⟩ from rfl] at e
      rw [e]
      have e2 : decide (i.cps.toList.headD 0 ∈ j.cps.toList) = j.cps.toList.contains (i.cps.toList.headD 0) := by simp
      rw [e2]
      exact give_d zt P (.bl _)
    · cases hk
  · cases hk
theorem o_notIn (O : Ox g X) : OpR X (compareOp .NotIn) (rOp g bNotIn) := by
  intro pins s σ H x y v u Q I rx ry ⟨Z, ρ, a, b, e, zt, tr, ha, hb, hf, P⟩
  obtain ⟨k, hk, rfl⟩ := Option.map_eq_some_iff.mp hf
  have := O.un
  unfold bInB at hk
  split at hk
  · split at hk
    · rename_i c
      rw [Bool.and_eq_true] at c
      cases hk
      obtain ⟨⟨as, r1⟩, p1, d1⟩ := reads2 O I rx ha c.1
      obtain ⟨⟨bs, r2⟩, p2, d2⟩ := seq_list O I ry hb c.2
      exact SeqAt.notIn_list_data r2 r1 p2 p1 (by omega) (bl_end I (give_d zt P (.bl _)))
    · cases hk
  · split at hk
    · rename_i c
      rw [Bool.and_eq_true] at c
      cases hk
      obtain ⟨⟨as, r1⟩, p1, d1⟩ := reads2 O I rx ha c.1
      obtain ⟨⟨bs, r2⟩, p2, d2⟩ := seq_tup O I ry hb c.2
      exact SeqAt.notIn_tuple_data r2 r1 p2 p1 (by omega) (bl_end I (give_d zt P (.bl _)))
    · cases hk
  · split at hk
    · rename_i i j c
      cases hk; cases ha.str; cases hb.str
      refine op_notIn_str pins s σ H _ _ v u Q I rx ry ⟨_, _, rfl, rfl, ?_⟩
      rw [one_sign c]
      have e := SX.in_one j.cps.toList (i.cps.toList.headD 0)
      rw [show SX.S j.cps.toList = j from rfl, show SX.S [i.cps.toList.headD 0] = ⟨[i.cps.toList.headD 0].toArray⟩ from rfl] at e
      rw [e]
      have e2 : decide (i.cps.toList.headD 0 ∈ j.cps.toList) = j.cps.toList.contains (i.cps.toList.headD 0) := by simp
      rw [e2]
      exact give_d zt P (.bl _)
    · cases hk
  · cases hk
theorem isNone_dec {Z : Addr → Prop} {ρ : List Addr} {H : Hp} {d : D} {x : V} (h : RepC g Z ρ H d x) : decide (x = .non) = isNone d := by
  rcases h with h | ⟨a, o, rfl, e2, r, _⟩
  · cases h <;> rfl
  · cases o <;> cases e2 <;> rfl
theorem o_is : OpR X (compareOp .Is) (rOp g bIs) := by
  intro pins s σ H x y v u Q I rx ry ⟨Z, ρ, a, b, e, zt, tr, ha, hb, hf, P⟩
  obtain ⟨k, hk, rfl⟩ := Option.map_eq_some_iff.mp hf
  unfold bIsB at hk
  split at hk
  · cases hk; cases hb.none_
    refine op_isN pins s σ H _ _ v u Q I rx ry ⟨rfl, ?_⟩
    rw [isNone_dec ha]
    exact give_d zt P (.bl _)
  · rename_i i j
    cases hk; cases ha.bool; cases hb.bool
    refine op_isBl pins s σ H _ _ v u Q I rx ry ?_
    first
      | exact ⟨_, _, rfl, rfl, give_d zt P (.bl _)⟩
      | (refine ⟨_, _, rfl, rfl, ?_⟩; rw [show decide (i = j) = (i == j) by cases i <;> cases j <;> rfl]; exact give_d zt P (.bl _))
  · cases hk
theorem o_isNot : OpR X (compareOp .IsNot) (rOp g bIsNot) := by
  intro pins s σ H x y v u Q I rx ry ⟨Z, ρ, a, b, e, zt, tr, ha, hb, hf, P⟩
  obtain ⟨k, hk, rfl⟩ := Option.map_eq_some_iff.mp hf
  unfold bIsB at hk
  split at hk
  · cases hk; cases hb.none_
    refine op_notN pins s σ H _ _ v u Q I rx ry ⟨rfl, ?_⟩
    rw [isNone_dec ha]
    exact give_d zt P (.bl _)
  · rename_i i j
    cases hk; cases ha.bool; cases hb.bool
    refine op_notBl pins s σ H _ _ v u Q I rx ry ⟨_, _, rfl, rfl, ?_⟩
    rw [show decide (i = j) = (i == j) by cases i <;> cases j <;> rfl]
    exact give_d zt P (.bl _)
  · cases hk
end
end FF

set_option Elab.async false
set_option linter.all false
set_option maxRecDepth 100000
set_option maxHeartbeats 1000000
set_option autoImplicit false
/-! FFSub: tests, and, or, not, if; subscripts; dicts of numbers and texts looked at. -/
namespace FF
open PySem PySem.Spec PyProof.Rows L2
section
variable {X : Cx} {g : G} {e a b c : Expr} {m ma mb mc : Ev} {rest : List Expr} {pos : Pos}
theorem data_bool {w : EV} {b : Bool} (h : w.data = some (.bool b)) : w = .v (.d (.bool b)) := by
  cases w with
  | v y =>
    cases y with
    | d y => cases h; rfl
    | ref k => cases h
  | o y => cases y <;> cases h
theorem dv_some {st : List Sl} {hh hh' : Hh} {d : D} (h : dv m st hh = some (d, hh')) : ∃ w, m st hh = some (w, hh') ∧ w.data = some d := by
  unfold dv at h
  obtain ⟨r, e2, e3⟩ := Option.bind_eq_some_iff.mp h
  obtain ⟨r1, r2⟩ := r
  obtain ⟨d, e4, e5⟩ := Option.map_eq_some_iff.mp e3
  simp only [Prod.mk.injEq] at e5
  obtain ⟨rfl, rfl⟩ := e5
  exact ⟨r1, e2, e4⟩
theorem tB_tI {σ : L2.St} {H : Hp} {Q : Bool → Hp → Prop} (h : tB g (dv m) σ H Q) : tI g m σ H (fun x H' => ∃ k, x = .bl k ∧ Q k H') := by
  obtain ⟨Z, ρ, st, hh, b, hh', R, e1, P⟩ := h
  obtain ⟨w, e2, e3⟩ := dv_some e1
  cases data_bool e3
  refine ⟨Z, ρ, st, hh, _, hh', R, e2, fun Z' ρ' x H' R' G' E => ?_⟩
  have E : DZ g.K Z' H' x (.bool b) := E
  cases E
  exact ⟨b, rfl, P Z' ρ' H' R' G'⟩
theorem x_test (h : PE X e (tI g m)) (he : ∀ whole, isTrue e X.env whole = (do let v ← whole; standAt e.pos; holding [v] (truthy v)) := by intro _; rfl) : PT X e (tB g (dv m)) :=
  PTw (pt_val h he) fun _ _ _ q => tB_tI q
theorem x_tcmp {op : CmpOp} {f : D → D → Option EV} {ma mb : Dv} (ho : OpR X (compareOp op) (rOp g f)) (ha : PE X a (tC g ma)) (hb : PE X b (tC g mb)) (hm : behindInMarks op b = false) : PT X (.Compare a [op] [b] pos) (tB g (dv (eBin f ma mb))) :=
  PTw (pt_cmpR ho ha hb hm) fun σ H Q q => by
    show tOp _ _ _ σ H _
    exact bin_read (tB_tI q)
/-- a op b op' c -/
def eChain (f f' : D → D → Option EV) (a b c : Dv) : Ev := fun st hh => (a st hh).bind fun r => (b st r.2).bind fun q => (f r.1 q.1).bind fun k => match k with
  | .v (.d (.bool true)) => (c st q.2).bind fun s => (f' q.1 s.1).map fun e => (e, s.2)
  | .v (.d (.bool false)) => some (.v (.d (.bool false)), q.2)
  | _ => none
theorem chain_read {f f' : D → D → Option EV} {ma mb mc : Dv} {σ : L2.St} {H : Hp} {Q : VK} (h : tI g (eChain f f' ma mb mc) σ H Q) : tChain (rOp g f) (rOp g f') (tC g ma) (tC g mb) (tC g mc) σ H Q := by
  obtain ⟨Z, ρ, st, hh, w, hh', R, e1, P⟩ := h
  obtain ⟨⟨d, h1⟩, e2, e3⟩ := Option.bind_eq_some_iff.mp e1
  obtain ⟨⟨d2, h2⟩, e4, e5⟩ := Option.bind_eq_some_iff.mp e3
  obtain ⟨k, e6, e7⟩ := Option.bind_eq_some_iff.mp e5
  refine ⟨Z, ρ, st, hh, d, h1, R, e2, fun Z1 ρ1 x H1 R1 G1 D1 => ⟨Z1, ρ1, st, h1, d2, h2, R1, e4, fun Z2 ρ2 y H2 R2 G2 D2 => ?_⟩⟩
  refine ⟨Z2, ρ2, d, d2, k, R2.heap.zt, R2.heap.trk, D1.grow G2, D2, e6, fun Z3 z H3 pu rv => ?_⟩
  have G12 := G1.trans R1.heap G2
  have R3 := R2.pure pu
  have G13 := G12.trans R2.heap (pu.grow ρ2)
  split at e7
  · have rv : DZ g.K Z3 H3 z (.bool true) := rv
    cases rv
    refine ⟨true, rfl, ?_⟩
    refine iteT ?_
    obtain ⟨⟨d3, h3⟩, e8, e9⟩ := Option.bind_eq_some_iff.mp e7
    obtain ⟨w', e10, e11⟩ := Option.map_eq_some_iff.mp e9
    cases e11
    refine ⟨Z3, ρ2, st, h2, d3, h3, R3, e8, fun Z4 ρ4 x4 H4 R4 G4 D4 => ?_⟩
    refine ⟨Z4, ρ4, d2, d3, w, R4.heap.zt, R4.heap.trk, (D2.grow (pu.grow ρ2)).grow G4, D4, e10, fun Z5 z5 H5 pu5 rv5 => ?_⟩
    have G14 := G13.trans R3.heap G4
    exact P Z5 ρ4 z5 H5 (R4.pure pu5) (G14.trans R4.heap (pu5.grow ρ4)) (rv5.back (G14.back R4.heap))
  · have rv : DZ g.K Z3 H3 z (.bool false) := rv
    cases rv
    cases e7
    refine ⟨false, rfl, ?_⟩
    refine iteF ?_
    exact P Z3 ρ2 _ H3 R3 G13 (.bl false)
  · cases e7
theorem x_chain {op op' : CmpOp} {f f' : D → D → Option EV} {ma mb mc : Dv} (ho : OpR X (compareOp op) (rOp g f)) (ho' : OpR X (compareOp op') (rOp g f')) (ha : PE X a (tC g ma)) (hb : PE X b (tC g mb)) (hc : PE X c (tC g mc))
    (hm : lastMarks [op, op'] [b, c] = false := by with_unfolding_all rfl) : PE X (.Compare a [op, op'] [b, c] pos) (tI g (eChain f f' ma mb mc)) :=
  PEw (pe_chain ho ho' ha hb hc hm) fun _ _ _ h => chain_read h
theorem x_tchain {op op' : CmpOp} {f f' : D → D → Option EV} {ma mb mc : Dv} (ho : OpR X (compareOp op) (rOp g f)) (ho' : OpR X (compareOp op') (rOp g f')) (ha : PE X a (tC g ma)) (hb : PE X b (tC g mb)) (hc : PE X c (tC g mc))
    (hm : lastMarks [op, op'] [b, c] = false := by with_unfolding_all rfl) : PT X (.Compare a [op, op'] [b, c] pos) (tB g (dv (eChain f f' ma mb mc))) :=
  PTw (pt_chain ho ho' ha hb hc hm) fun σ H Q q => by
    show tChain _ _ _ _ _ σ H _
    exact chain_read (tB_tI q)
/-! ### and, or, not, if -/
def eAnd (a : Dv) (b : Ev) : Ev := fun st hh => (a st hh).bind fun r => match r.1 with
  | .bool true => b st r.2
  | .bool false => some (.v (.d (.bool false)), r.2)
  | _ => none
def eOr (a : Dv) (b : Ev) : Ev := fun st hh => (a st hh).bind fun r => match r.1 with
  | .bool true => some (.v (.d (.bool true)), r.2)
  | .bool false => b st r.2
  | _ => none
def eNot (a : Dv) : Ev := fun st hh => (a st hh).bind fun r => match r.1 with
  | .bool k => some (.v (.d (.bool !k)), r.2)
  | _ => none
def eIte (c : Dv) (a b : Ev) : Ev := fun st hh => (c st hh).bind fun r => match r.1 with
  | .bool true => a st r.2
  | .bool false => b st r.2
  | _ => none
theorem x_one {op} (h : PE X a (tI g m)) : PE X (.BoolOp op [a] pos) (tI g m) := pe_one h
/-- the rest of an expression, from a later state -/
theorem tI_later {Z Z1 : Addr → Prop} {ρ ρ1 : List Addr} {st : List Sl} {h1 hh' : Hh} {σ : L2.St} {H H1 : Hp} {w : EV} {Q : VK} (R1 : Rel g Z1 ρ1 st h1 σ H1) (G1 : Grow Z ρ H Z1 ρ1 H1) (e : m st h1 = some (w, hh'))
    (P : ∀ Z' ρ' x H', Rel g Z' ρ' st hh' σ H' → Grow Z ρ H Z' ρ' H' → RepEV g.K Z' ρ' H H' w x → Q x H') : tI g m σ H1 Q :=
  ⟨Z1, ρ1, st, h1, w, hh', R1, e, fun Z' ρ' x H' R' G' E => P Z' ρ' x H' R' (G1.trans R1.heap G') (E.back (G1.back R1.heap))⟩
theorem x_and (ha : PE X a (tI g ma)) (hb : PE X (.BoolOp .And (b :: rest) pos) (tI g mb)) : PE X (.BoolOp .And (a :: b :: rest) pos) (tI g (eAnd (dv ma) mb)) := by
  refine PEw (pe_and ha hb) fun σ H Q ⟨Z, ρ, st, hh, w, hh', R, e1, P⟩ => ?_
  obtain ⟨⟨d, h1⟩, e2, e3⟩ := Option.bind_eq_some_iff.mp e1
  obtain ⟨w1, e4, e5⟩ := dv_some e2
  refine ⟨Z, ρ, st, hh, w1, h1, R, e4, fun Z1 ρ1 x H1 R1 G1 E1 => ?_⟩
  split at e3
  · rename_i hd
    have hd : d = .bool true := hd
    subst hd
    cases data_bool e5
    have E1 : DZ g.K Z1 H1 x (.bool true) := E1
    cases E1
    refine ⟨true, rfl, ?_⟩
    refine iteT ?_
    exact tI_later R1 G1 e3 P
  · rename_i hd
    have hd : d = .bool false := hd
    subst hd
    cases data_bool e5
    have E1 : DZ g.K Z1 H1 x (.bool false) := E1
    cases E1
    refine ⟨false, rfl, ?_⟩
    refine iteF ?_
    cases e3
    exact P Z1 ρ1 _ H1 R1 G1 (.bl false)
  · cases e3
theorem x_or (ha : PE X a (tI g ma)) (hb : PE X (.BoolOp .Or (b :: rest) pos) (tI g mb)) : PE X (.BoolOp .Or (a :: b :: rest) pos) (tI g (eOr (dv ma) mb)) := by
  refine PEw (pe_or ha hb) fun σ H Q ⟨Z, ρ, st, hh, w, hh', R, e1, P⟩ => ?_
  obtain ⟨⟨d, h1⟩, e2, e3⟩ := Option.bind_eq_some_iff.mp e1
  obtain ⟨w1, e4, e5⟩ := dv_some e2
  refine ⟨Z, ρ, st, hh, w1, h1, R, e4, fun Z1 ρ1 x H1 R1 G1 E1 => ?_⟩
  split at e3
  · rename_i hd
    have hd : d = .bool true := hd
    subst hd
    cases data_bool e5
    have E1 : DZ g.K Z1 H1 x (.bool true) := E1
    cases E1
    refine ⟨true, rfl, ?_⟩
    refine iteT ?_
    cases e3
    exact P Z1 ρ1 _ H1 R1 G1 (.bl true)
  · rename_i hd
    have hd : d = .bool false := hd
    subst hd
    cases data_bool e5
    have E1 : DZ g.K Z1 H1 x (.bool false) := E1
    cases E1
    refine ⟨false, rfl, ?_⟩
    refine iteF ?_
    exact tI_later R1 G1 e3 P
  · cases e3
theorem x_not (ha : PE X a (tI g ma)) : PE X (.UnaryOp .Not a pos) (tI g (eNot (dv ma))) := by
  refine PEw (pe_not ha) fun σ H Q ⟨Z, ρ, st, hh, w, hh', R, e1, P⟩ => ?_
  obtain ⟨⟨d, h1⟩, e2, e3⟩ := Option.bind_eq_some_iff.mp e1
  obtain ⟨w1, e4, e5⟩ := dv_some e2
  refine ⟨Z, ρ, st, hh, w1, h1, R, e4, fun Z1 ρ1 x H1 R1 G1 E1 => ?_⟩
  split at e3
  · rename_i k hd
    have hd : d = .bool k := hd
    subst hd
    cases data_bool e5
    have E1 : DZ g.K Z1 H1 x (.bool k) := E1
    cases E1
    cases e3
    exact ⟨k, rfl, P Z1 ρ1 _ H1 R1 G1 (.bl _)⟩
  · cases e3
/-- a test, then more -/
theorem tB_later {Z Z1 : Addr → Prop} {ρ ρ1 : List Addr} {st : List Sl} {h1 hh' : Hh} {σ : L2.St} {H H1 : Hp} {w : Bool} {m : Dv} {Q : Bool → Hp → Prop} (R1 : Rel g Z1 ρ1 st h1 σ H1) (G1 : Grow Z ρ H Z1 ρ1 H1) (e : m st h1 = some (.bool w, hh'))
    (P : ∀ Z' ρ' H', Rel g Z' ρ' st hh' σ H' → Grow Z ρ H Z' ρ' H' → Q w H') : tB g m σ H1 Q :=
  ⟨Z1, ρ1, st, h1, w, hh', R1, e, fun Z' ρ' H' R' G' => P Z' ρ' H' R' (G1.trans R1.heap G')⟩
theorem x_ite {mt : Dv} (hc : PT X c (tB g mt)) (ha : PE X a (tI g ma)) (hb : PE X b (tI g mb)) : PE X (.IfExp c a b pos) (tI g (eIte mt ma mb)) := by
  refine PEw (pe_ifExp hc ha hb) fun σ H Q ⟨Z, ρ, st, hh, w, hh', R, e1, P⟩ => ?_
  obtain ⟨⟨d, h1⟩, e2, e3⟩ := Option.bind_eq_some_iff.mp e1
  split at e3
  · rename_i hd
    have hd : d = .bool true := hd
    subst hd
    refine ⟨Z, ρ, st, hh, true, h1, R, e2, fun Z1 ρ1 H1 R1 G1 => ?_⟩
    refine iteT ?_
    exact tI_later R1 G1 e3 P
  · rename_i hd
    have hd : d = .bool false := hd
    subst hd
    refine ⟨Z, ρ, st, hh, false, h1, R, e2, fun Z1 ρ1 H1 R1 G1 => ?_⟩
    refine iteF ?_
    exact tI_later R1 G1 e3 P
  · cases e3
/-- tests: and, or, not -/
def bAnd (a b : Dv) : Dv := fun st hh => (a st hh).bind fun r => match r.1 with
  | .bool true => b st r.2
  | .bool false => some (.bool false, r.2)
  | _ => none
def bOr (a b : Dv) : Dv := fun st hh => (a st hh).bind fun r => match r.1 with
  | .bool true => some (.bool true, r.2)
  | .bool false => b st r.2
  | _ => none
def bNot (a : Dv) : Dv := fun st hh => (a st hh).bind fun r => match r.1 with
  | .bool k => some (.bool !k, r.2)
  | _ => none
theorem w_and1 {m : Dv} (ha : PT X a (tB g m)) : PW X (.BoolOp .And [a] pos) (tB g m) := pw_and1 ha
theorem w_or1 {m : Dv} (ha : PT X a (tB g m)) : PW X (.BoolOp .Or [a] pos) (tB g m) := pw_or1 ha
theorem w_and {ma mb : Dv} (ha : PT X a (tB g ma)) (hb : PW X (.BoolOp .And (b :: rest) pos) (tB g mb)) : PW X (.BoolOp .And (a :: b :: rest) pos) (tB g (bAnd ma mb)) := by
  refine PWw (pw_and ha hb) fun σ H Q ⟨Z, ρ, st, hh, w, hh', R, e1, P⟩ => ?_
  obtain ⟨⟨d, h1⟩, e2, e3⟩ := Option.bind_eq_some_iff.mp e1
  split at e3
  · rename_i hd
    have hd : d = .bool true := hd
    subst hd
    refine ⟨Z, ρ, st, hh, true, h1, R, e2, fun Z1 ρ1 H1 R1 G1 => ?_⟩
    refine iteT ?_
    exact tB_later R1 G1 e3 P
  · rename_i hd
    have hd : d = .bool false := hd
    subst hd
    refine ⟨Z, ρ, st, hh, false, h1, R, e2, fun Z1 ρ1 H1 R1 G1 => ?_⟩
    refine iteF ?_
    cases e3
    exact P Z1 ρ1 H1 R1 G1
  · cases e3
theorem w_or {ma mb : Dv} (ha : PT X a (tB g ma)) (hb : PW X (.BoolOp .Or (b :: rest) pos) (tB g mb)) : PW X (.BoolOp .Or (a :: b :: rest) pos) (tB g (bOr ma mb)) := by
  refine PWw (pw_or ha hb) fun σ H Q ⟨Z, ρ, st, hh, w, hh', R, e1, P⟩ => ?_
  obtain ⟨⟨d, h1⟩, e2, e3⟩ := Option.bind_eq_some_iff.mp e1
  split at e3
  · rename_i hd
    have hd : d = .bool true := hd
    subst hd
    refine ⟨Z, ρ, st, hh, true, h1, R, e2, fun Z1 ρ1 H1 R1 G1 => ?_⟩
    refine iteT ?_
    cases e3
    exact P Z1 ρ1 H1 R1 G1
  · rename_i hd
    have hd : d = .bool false := hd
    subst hd
    refine ⟨Z, ρ, st, hh, false, h1, R, e2, fun Z1 ρ1 H1 R1 G1 => ?_⟩
    refine iteF ?_
    exact tB_later R1 G1 e3 P
  · cases e3
theorem t_pw {m : Dv} (h : PW X e (tB g m)) : PT X e (tB g m) := h.pt
theorem t_not {m : Dv} (ha : PT X a (tB g m)) : PT X (.UnaryOp .Not a pos) (tB g (bNot m)) := by
  refine PTw (pt_not ha) fun σ H Q ⟨Z, ρ, st, hh, w, hh', R, e1, P⟩ => ?_
  obtain ⟨⟨d, h1⟩, e2, e3⟩ := Option.bind_eq_some_iff.mp e1
  split at e3
  · rename_i k hd
    have hd : d = .bool k := hd
    subst hd
    cases e3
    exact ⟨Z, ρ, st, hh, k, h1, R, e2, fun Z1 ρ1 H1 R1 G1 => P Z1 ρ1 H1 R1 G1⟩
  · cases e3
end

/-! ### subscripts -/
def ixD {α : Type} (xs : List α) (i : Int) : Option α := if 0 ≤ i then xs[i.toNat]? else if -(xs.length : Int) ≤ i then xs[(i + xs.length).toNat]? else none
theorem ixD_at {α : Type} (xs : List α) (i : Int) : ixD xs i = atI xs i := by
  unfold ixD atI ixN
  by_cases h : 0 ≤ i
  · rw [if_pos h, if_pos h]
    by_cases h2 : i < (xs.length : Int)
    · rw [if_pos h2]; rfl
    · rw [if_neg h2]
      exact List.getElem?_eq_none (by omega)
  · rw [if_neg h, if_neg h]
    by_cases h2 : -(xs.length : Int) ≤ i
    · rw [if_pos h2, if_pos h2]; rfl
    · rw [if_neg h2, if_neg h2]; rfl
def toKey : D → Option Key
  | .int i => some (.inl i)
  | .str x => some (.inr x)
  | _ => none
theorem toKey_kD {d : D} {k : Key} (h : toKey d = some k) : d = kD k := by
  cases d <;> simp [toKey] at h <;> (subst h; rfl)
def dget (kvs : List (D × D)) (k : D) : Option D := (kvs.find? fun p => PyData.eqv p.1 k).map (·.2)
def dput (kvs : List (D × D)) (k v : D) : List (D × D) := if kvs.any (fun p => PyData.eqv p.1 k) then kvs.map fun p => if PyData.eqv p.1 k then (p.1, v) else p else kvs ++ [(k, v)]
theorem kD_eqv (a b : Key) : PyData.eqv (kD a) (kD b) = decide (a = b) := by
  rcases a with a | a <;> rcases b with b | b
  · show PyData.eqv (.int a) (.int b) = _
    rw [PyData.eqv, key_ll]
  · show PyData.eqv (.int a) (.str b) = _
    rw [PyData.eqv, key_lr]
  · show PyData.eqv (.str a) (.int b) = _
    rw [PyData.eqv, key_rl]
  · show PyData.eqv (.str a) (.str b) = _
    rw [PyData.eqv, key_rr]
    by_cases h : a = b <;> simp [h]
section
variable {K : PySem.W.Frag} {Z : Addr → Prop} {H : Hp}
theorem DZk.val : ∀ {ks : List (Key × V)} {ds : List (D × D)}, DZk K Z H ks ds → ∀ k : Key, (∃ v d, valV ks k = some v ∧ dget ds (kD k) = some d ∧ DZ K Z H v d) ∨ (valV ks k = none ∧ dget ds (kD k) = none)
  | _, _, .nil, _ => .inr ⟨rfl, rfl⟩
  | _, _, @DZk.cons _ _ _ j v vs d ds a b, k => by
    by_cases e : j = k
    · left
      refine ⟨v, d, valV_pos (p := (j, v)) e, ?_, a⟩
      have q : PyData.eqv (kD j) (kD k) = true := by rw [kD_eqv]; simp [e]
      simp [dget, List.find?_cons, q]
    · have q : PyData.eqv (kD j) (kD k) = false := by rw [kD_eqv]; simp [e]
      have q1 : valV ((j, v) :: vs) k = valV vs k := valV_neg (p := (j, v)) e
      have q2 : dget ((kD j, d) :: ds) (kD k) = dget ds (kD k) := by simp [dget, List.find?_cons, q]
      rw [q1, q2]
      exact DZk.val b k
theorem DZk.any : ∀ {ks : List (Key × V)} {ds : List (D × D)}, DZk K Z H ks ds → ∀ k : Key, (ks.any fun p => decide (p.1 = k)) = ds.any fun p => PyData.eqv p.1 (kD k)
  | _, _, .nil, _ => rfl
  | _, _, .cons a b, k => by rw [List.any_cons, List.any_cons, kD_eqv, DZk.any b k]
theorem DZk.map : ∀ {ks : List (Key × V)} {ds : List (D × D)}, DZk K Z H ks ds → ∀ (k : Key) {y : V} {d : D}, DZ K Z H y d → DZk K Z H (ks.map fun p => if p.1 = k then (p.1, y) else p) (ds.map fun p => if PyData.eqv p.1 (kD k) = true then (p.1, d) else p)
  | _, _, .nil, _, _, _, _ => .nil
  | _, _, @DZk.cons _ _ _ j v vs e ds a b, k, y, d, h => by
    rw [List.map_cons, List.map_cons]
    by_cases q : j = k
    · have q2 : PyData.eqv (kD j) (kD k) = true := by rw [kD_eqv]; simp [q]
      show DZk K Z H ((if j = k then (j, y) else (j, v)) :: _) ((if PyData.eqv (kD j) (kD k) = true then (kD j, d) else (kD j, e)) :: _)
      rw [if_pos q, if_pos q2]
      exact .cons h (DZk.map b k h)
    · have q2 : PyData.eqv (kD j) (kD k) = false := by rw [kD_eqv]; simp [q]
      show DZk K Z H ((if j = k then (j, y) else (j, v)) :: _) ((if PyData.eqv (kD j) (kD k) = true then (kD j, d) else (kD j, e)) :: _)
      rw [if_neg q, if_neg (by rw [q2]; exact Bool.false_ne_true)]
      exact .cons a (DZk.map b k h)
theorem DZk.app : ∀ {ks ls : List (Key × V)} {ds es : List (D × D)}, DZk K Z H ks ds → DZk K Z H ls es → DZk K Z H (ks ++ ls) (ds ++ es)
  | _, _, _, _, .nil, h => h
  | _, _, _, _, .cons a b, h => .cons a (DZk.app b h)
theorem DZk.put {ks : List (Key × V)} {ds : List (D × D)} (h : DZk K Z H ks ds) (k : Key) {y : V} {d : D} (hd : DZ K Z H y d) : DZk K Z H (putK ks k y) (dput ds (kD k) d) := by
  unfold putK dput
  rw [← h.any k]
  split
  · exact h.map k hd
  · exact h.app (.cons hd .nil)
end
/-- a dict of numbers and texts as it is now -/
theorem RepC.dct {g : G} {Z : Addr → Prop} {ρ : List Addr} {H : Hp} {ds : List (D × D)} {x : V} (h : RepC g Z ρ H (.dict ds) x) : ∃ a ks, x = .ref a ∧ Rd H a (.dK ks) ∧ DZk g.K Z H ks ds := by
  rcases h with h | ⟨a, o, e, e2, r, _⟩
  · cases h with
    | dct a b c => exact ⟨_, _, rfl, b, c⟩
  · cases o with
    | lst xs => cases e2
    | dct ks =>
      cases e2
      obtain ⟨vs, h1, h2⟩ := r
      exact ⟨a, vs, e, .inl h1, h2⟩
def bIx : D → D → Option EV
  | .list xs, .int i => (ixD xs i).map fun d => .v (.d d)
  | .tuple xs, .int i => (ixD xs i).map fun d => .v (.d d)
  | .str x, .int i => if fits x.length then (ixD x.cps.toList i).map fun c => .v (.d (.str ⟨[c].toArray⟩)) else none
  | .dict kvs, k => if (toKey k).isSome then (dget kvs k).map fun d => .v (.d d) else none
  | _, _ => none
theorem ix_ok {X : Cx} {g : G} (O : Ox g X) : IxR X (rOp g bIx) := by
  intro value slice pins s σ H x y v u Q I rx ry ⟨Z, ρ, a, b, e, zt, tr, ha, hb, hf, P⟩ hs
  unfold bIx at hf
  split at hf
  · obtain ⟨d, e1, rfl⟩ := Option.map_eq_some_iff.mp hf
    cases hb.int
    obtain ⟨p, vs, rfl, h1, h2⟩ := ha.lst
    rw [ixD_at] at e1
    obtain ⟨w, e2, e3⟩ : ∃ w, atI vs _ = some w ∧ DZ g.K Z H w d := by
      unfold atI at e1 ⊢
      rw [h2.length]
      obtain ⟨j, ej, e1⟩ := Option.bind_eq_some_iff.mp e1
      obtain ⟨w, q1, q2⟩ := h2.get e1
      exact ⟨w, by rw [ej]; exact q1, q2⟩
    exact ix_list value slice pins s σ H _ _ v u Q I rx ry ⟨p, vs, _, w, rfl, rfl, .inl h1, e2, give_d zt P e3⟩ hs
  · obtain ⟨d, e1, rfl⟩ := Option.map_eq_some_iff.mp hf
    cases hb.int
    obtain ⟨p, vs, rfl, h1, h2⟩ := ha.tup
    rw [ixD_at] at e1
    rw [← O.k] at h1
    obtain ⟨w, e2, e3⟩ : ∃ w, atI vs _ = some w ∧ DZ g.K Z H w d := by
      unfold atI at e1 ⊢
      rw [h2.length]
      obtain ⟨j, ej, e1⟩ := Option.bind_eq_some_iff.mp e1
      obtain ⟨w, q1, q2⟩ := h2.get e1
      exact ⟨w, by rw [ej]; exact q1, q2⟩
    exact ix_tup value slice pins s σ H _ _ v u Q I rx ry ⟨p, vs, _, w, rfl, rfl, h1, e2, give_d zt P e3⟩ hs
  · split at hf
    · rename_i c
      obtain ⟨d, e1, rfl⟩ := Option.map_eq_some_iff.mp hf
      cases hb.int; cases ha.str
      rw [ixD_at] at e1
      exact ix_str value slice pins s σ H _ _ v u Q I rx ry ⟨_, _, d, rfl, rfl, fits_iff.mp c, e1, give_d zt P (.str _)⟩ hs
    · cases hf
  · split at hf
    · rename_i c
      obtain ⟨d, e1, rfl⟩ := Option.map_eq_some_iff.mp hf
      obtain ⟨k, hk⟩ := Option.isSome_iff_exists.mp c
      cases toKey_kD hk
      obtain ⟨p, ks, rfl, h1, h2⟩ := ha.dct
      have hy : y = kV k := by
        rcases k with k | k
        · exact (show RepC g Z ρ H (.int k) y from hb).int
        · exact (show RepC g Z ρ H (.str k) y from hb).str
      subst hy
      rcases h2.val k with ⟨w, d', q1, q2, q3⟩ | ⟨_, q⟩
      · rw [e1] at q2; cases q2
        have un := O.un
        have gg : DGet H p (kV k) (some w) := .inl ⟨ks, k, h1, rfl, q1.symm⟩
        obtain rfl : v = .ref p := rx
        exact tail_any (dict_typeIs I gg) slot_dict_getitem.lookup (d_getItem (by omega) I gg ry fun w' s' I' r' => ⟨w, H, I', r', give_d zt P q3⟩) hs
      · rw [e1] at q; cases q
    · cases hf
  · cases hf
theorem x_ix {X : Cx} {g : G} {a b : Expr} {ma mb : Dv} {pos : Pos} (O : Ox g X) (ha : PE X a (tC g ma)) (hb : PE X b (tC g mb)) (hs : PlainIx b := by intro _ _; rfl) : PE X (.Subscript a b pos) (tI g (eBin bIx ma mb)) :=
  PEw (pe_ix (ix_ok O) ha hb hs) fun _ _ _ h => bin_read h
end FF

set_option Elab.async false
set_option linter.all false
set_option maxRecDepth 100000
set_option maxHeartbeats 1000000
set_option autoImplicit false
/-! FFSlice: slices. -/
namespace FF
open PySem PySem.Spec PyProof.Rows L2
/-- xs[lo:hi] -/
def cutL {α : Type} (xs : List α) (lo hi : Option Int) : List α := (xs.drop (HT.sIx xs.length 0 lo)).take (HT.sIx xs.length xs.length hi - HT.sIx xs.length 0 lo)
def slD (lo hi : Option Int) : D → Option EV
  | .list xs => some (.o (.lst (cutL xs lo hi)))
  | .tuple xs => some (.v (.d (.tuple (cutL xs lo hi))))
  | .str x => if fits x.length then some (.v (.d (.str ⟨(cutL x.cps.toList lo hi).toArray⟩))) else none
  | _ => none
def strStep (x : Str) (lo hi : Option Int) (st : Int) : Str := ⟨((Builtin.Str.strSliceIndices lo hi st x.length).filterMap (x.cps[·]?)).toArray⟩
def slD3 (lo hi : Option Int) (st : Int) : D → Option EV
  | .list xs => if st = -1 ∧ lo = none ∧ hi = none then some (.o (.lst xs.reverse)) else none
  | .tuple xs => if st = -1 ∧ lo = none ∧ hi = none then some (.v (.d (.tuple xs.reverse))) else none
  | .str x => if decide (st ≠ 0) && decide (st ≠ 1) && fits x.length && fits (strStep x lo hi st).length then some (.v (.d (.str (strStep x lo hi st)))) else none
  | _ => none
/-- a part of a slice -/
abbrev Pv := List Sl → Hh → Option (Option Int × Hh)
def pN : Pv := fun _ hh => some (none, hh)
def pI (m : Dv) : Pv := fun st hh => (m st hh).bind fun r => match r.1 with
  | .int i => some (some i, r.2)
  | _ => none
def tP (g : G) (m : Pv) : TO := fun σ H Q => ∃ Z ρ st hh o hh', Rel g Z ρ st hh σ H ∧ m st hh = some (o, hh') ∧
  ∀ Z' ρ' H', Rel g Z' ρ' st hh' σ H' → Grow Z ρ H Z' ρ' H' → Q o H'
theorem POw {X : Cx} {e : Option Expr} {t t' : TO} (h : PO X e t) (w : ∀ σ H Q, t' σ H Q → t σ H Q) : PO X e t' := ⟨fun pins s σ H Q I q => h.run pins s σ H Q I (w σ H Q q)⟩
def rSl (g : G) : V → Option Int → Option Int → Hp → VK → Prop := fun x lo hi H Q => ∃ Z ρ a e, (∀ c, Z c → H c ≠ none) ∧ (∀ c, c ∈ ρ → H c ≠ none) ∧ RepC g Z ρ H a x ∧ slD lo hi a = some e ∧
  ∀ Z' z H', Pure Z H Z' H' → RepEV g.K Z' ρ H H' e z → Q z H'
def eSl (a : Dv) (lo hi : Pv) : Ev := fun st hh => (a st hh).bind fun r => (lo st r.2).bind fun l => (hi st l.2).bind fun u => (slD l.1 u.1 r.1).map fun e => (e, u.2)
def eSl3 (a : Dv) (lo hi : Pv) (s : Dv) : Ev := fun st hh => (a st hh).bind fun r => (lo st r.2).bind fun l => (hi st l.2).bind fun u => (s st u.2).bind fun p => match p.1 with
  | .int k => (slD3 l.1 u.1 k r.1).map fun e => (e, p.2)
  | _ => none
section
variable {X : Cx} {g : G} {e lo hi : Expr} {m : Ev} {ma : Dv} {ml mh : Pv}
theorem part_none : PO X none (tP g pN) := by
  refine POw po_none fun σ H Q ⟨Z, ρ, st, hh, o, hh', R, e1, P⟩ => ?_
  cases e1
  exact P Z ρ H R (Grow.refl Z ρ H)
theorem part_some (h : PE X e (tI g m)) : PO X (some e) (tP g (pI (dv m))) := by
  refine POw (po_some h) fun σ H Q ⟨Z, ρ, st, hh, o, hh', R, e1, P⟩ => ?_
  obtain ⟨⟨d, h1⟩, e2, e3⟩ := Option.bind_eq_some_iff.mp e1
  obtain ⟨w, e4, e5⟩ := dv_some e2
  split at e3
  · rename_i i hd
    have hd : d = .int i := hd
    subst hd
    cases e3
    refine ⟨Z, ρ, st, hh, w, h1, R, e4, fun Z' ρ' x H' R' G' E => ?_⟩
    have : w = .v (.d (.int i)) := by
      cases w with
      | v y =>
        cases y with
        | d y => cases e5; rfl
        | ref k => cases e5
      | o y => cases y <;> cases e5
    subst this
    have E : DZ g.K Z' H' x (.int i) := E
    cases E
    exact ⟨i, rfl, P Z' ρ' H' R' G'⟩
  · cases e3
theorem DZs.cut {K : PySem.W.Frag} {Z : Addr → Prop} {H : Hp} {vs : List V} {ds : List D} (h : DZs K Z H vs ds) (lo hi : Option Int) : DZs K Z H (cutV vs lo hi) (cutL ds lo hi) := by
  unfold cutV cutL
  rw [h.length]
  exact (h.drop _).take _
theorem sl_ok (O : Ox g X) : SlR X (rSl g) := by
  intro pins s σ H x v vl vu lo hi sl Q I rx hs pl pu ⟨Z, ρ, a, e, zt, tr, ha, hf, P⟩
  unfold slD at hf
  split at hf
  · cases hf
    obtain ⟨p, vs, rfl, h1, h2⟩ := ha.lst
    exact sl_list pins s σ H _ v vl vu lo hi sl Q I rx hs pl pu ⟨p, vs, rfl, .inl h1, give_lst zt tr P (h2.cut lo hi)⟩
  · rename_i xs
    cases hf
    obtain ⟨p, vs, rfl, h1, h2⟩ := ha.tup
    rw [← O.k] at h1
    refine sl_tupA pins s σ H _ v vl vu lo hi sl Q I rx hs pl pu ⟨p, vs, rfl, h1, fun hw => ?_, fun _ => give_tup zt P (h2.cut lo hi)⟩
    have e : cutL xs lo hi = xs := by
      unfold cutL
      rw [← h2.length, hw.1, hw.2, List.drop_zero, h2.length]
      exact List.take_of_length_le (by omega)
    rw [e] at P
    exact give_d zt P (ha.dz (fun _ => PyData.noConfusion) (fun _ => PyData.noConfusion))
  · split at hf
    · rename_i c
      cases hf; cases ha.str
      exact sl_str pins s σ H _ v vl vu lo hi sl Q I rx hs pl pu ⟨_, rfl, fits_iff.mp c, give_d zt P (.str _)⟩
    · cases hf
  · cases hf
theorem x_sl {lo hi : Option Expr} {p2 pos : Pos} (O : Ox g X) (ha : PE X e (tC g ma)) (hl : PO X lo (tP g ml)) (hh : PO X hi (tP g mh)) : PE X (.Subscript e (.Slice lo hi none p2) pos) (tI g (eSl ma ml mh)) := by
  refine PEw (pe_slice (sl_ok O) ha hl hh) fun σ H Q ⟨Z, ρ, st, hh, w, hh', R, e1, P⟩ => ?_
  obtain ⟨⟨d, h1⟩, e2, e3⟩ := Option.bind_eq_some_iff.mp e1
  obtain ⟨⟨l, h2⟩, e4, e5⟩ := Option.bind_eq_some_iff.mp e3
  obtain ⟨⟨u, h3⟩, e6, e7⟩ := Option.bind_eq_some_iff.mp e5
  obtain ⟨w', e8, e9⟩ := Option.map_eq_some_iff.mp e7
  cases e9
  refine ⟨Z, ρ, st, hh, d, h1, R, e2, fun Z1 ρ1 x H1 R1 G1 D1 => ⟨Z1, ρ1, st, h1, l, h2, R1, e4, fun Z2 ρ2 H2 R2 G2 => ⟨Z2, ρ2, st, h2, u, h3, R2, e6, fun Z3 ρ3 H3 R3 G3 => ?_⟩⟩⟩
  refine ⟨Z3, ρ3, d, w, R3.heap.zt, R3.heap.trk, (D1.grow G2).grow G3, e8, fun Z4 z H4 pu rv => ?_⟩
  have G13 := (G1.trans R1.heap G2).trans R2.heap G3
  exact P Z4 ρ3 z H4 (R3.pure pu) (G13.trans R3.heap (pu.grow ρ3)) (rv.back (G13.back R3.heap))
end
/-! ### with a step -/
section
open HT
variable {prog : Program} {w : World} {A : Around} {E : Value → Shared → Prop} {s : Shared}
theorem fm_congr {α β : Type} {f g : α → Option β} : ∀ {l : List α}, (∀ x ∈ l, f x = g x) → l.filterMap f = l.filterMap g
  | [], _ => rfl
  | x :: l, h => by
    have h1 := h x List.mem_cons_self
    have h2 := fm_congr (l := l) fun y hy => h y (List.mem_cons_of_mem _ hy)
    rw [List.filterMap_cons, List.filterMap_cons, h1, h2]
theorem rev_adjust (n : Nat) : Builtin.Slice.sliceAdjust none none (-1) (n : Int) = ((n : Int) - 1, -1) := by
  unfold Builtin.Slice.sliceAdjust
  simp
theorem rev_places (n : Nat) : Builtin.Slice.slicePlaces ((n : Int) - 1) (-1) (-1) = n := by
  unfold Builtin.Slice.slicePlaces
  simp
  omega
theorem rev_pick (xs : Array Value) : ((List.range xs.size).filterMap fun (m : Nat) => xs[(((xs.size : Int) - 1) + (m : Int) * (-1)).toNat]?).toArray = xs.toList.reverse.toArray := by
  have e : ((List.range xs.size).filterMap fun (m : Nat) => xs[(((xs.size : Int) - 1) + (m : Int) * (-1)).toNat]?) = ((List.range xs.size).map fun k => xs.size - 1 - k).filterMap (xs[·]?) := by
    rw [List.filterMap_map]
    refine fm_congr fun m hm => ?_
    have hm := List.mem_range.mp hm
    show xs[(((xs.size : Int) - 1) + (m : Int) * (-1)).toNat]? = xs[xs.size - 1 - m]?
    have q : (((xs.size : Int) - 1) + (m : Int) * (-1)).toNat = xs.size - 1 - m := by omega
    rw [q]
  rw [e, PySem.W.krv_range, List.filterMap_reverse, PySem.W.krv_all]
theorem sliceApplied_rev {sl : Addr} {t : Tok} {n : Nat} {Q : Int × Int × Nat → Shared → Prop} (hs : s.heap.IsSliceOf sl .none .none (.int (-1) t))
    (h : Q ((n : Int) - 1, -1, n) s) : wpAny (model prog w) A (Builtin.Slice.sliceApplied (.ref sl) (pure (n : Int))) Q E s := by
  obtain ⟨os, hos, hcs, hds⟩ := id hs
  unfold Builtin.Slice.sliceApplied Builtin.Slice.sliceFields
  refine wpAny_bind (wpAny_bind (wpAny_field hos hds (x := .none) rfl (wpAny_bind (wpAny_field hos hds (x := .none) rfl (wpAny_bind (wpAny_field hos hds (x := .int (-1) t) rfl (wpAny_pure ?_)))))))
  refine wpAny_bind (slicePart_int ?_)
  show wpAny _ _ (if ((-1 : Int) == 0) = true then _ else _) _ _ s
  rw [if_neg (by decide)]
  refine wpAny_bind (slicePart_none (wpAny_bind (slicePart_none (wpAny_bind (wpAny_pure ?_)))))
  show wpAny _ _ (match Builtin.Slice.sliceAdjust none none (-1) (n : Int) with | (lo, hi) => pure (lo, (-1 : Int), Builtin.Slice.slicePlaces lo hi (-1))) _ _ s
  rw [rev_adjust n]
  show wpAny _ _ (pure ((n : Int) - 1, (-1 : Int), Builtin.Slice.slicePlaces ((n : Int) - 1) (-1) (-1))) _ _ s
  rw [rev_places]
  exact wpAny_pure h
theorem getItem_tuple_rev {t sl : Addr} {items : Array Value} {tk : Tok} {Q : Value → Shared → Prop} (ht : IsTup s.heap t items) (hs : s.heap.IsSliceOf sl .none .none (.int (-1) tk))
    (h : Q (.ref s.heap.objs.size) { s with heap := s.heap.push { cls := .type "tuple", data := .seq items.toList.reverse.toArray } })
    (hsz : items.size ≤ sizeLine) : wpAny (model prog w) A (getItem (.ref t) (.ref sl)) Q E s := by
  have htake : sizeOk (.seq items.toList.reverse.toArray) := by
    show items.toList.reverse.toArray.size ≤ sizeLine
    rw [List.size_toArray, List.length_reverse, Array.length_toList]
    exact hsz
  obtain ⟨os, hos, hcs, hds⟩ := id hs
  have hTs : s.TypeIs (.ref sl) "slice" := ⟨os, hos, hcs⟩
  unfold getItem
  try with_reducible refine wpAny_holding ?_
  first | refine wpAny_bind (wpAny_pure ?_) | skip
  refine wpAny_bind (wpAny_sequenceKey ht.typeIs (by decide) ?_)
  refine wpAny_bind (wpAny_callSpecial?_slot (name := Str.ofString "__getitem__") ht.typeIs PyProof.Rows.slot_tuple_getitem
    (wpAny_call_entry PyProof.Rows.slot_tuple_getitem ht.typeIs entry_tuple_getitem ?_ (args_tuple_getitem _ _)))
  show wpAny _ _ (Builtin.Tuple.tupleItemsOf (.ref t) >>= _) _ _ s
  refine wpAny_bind (tupleItemsOf_ ht ?_)
  refine wpAny_bind (wpAny_typeOf hTs ?_)
  rw [if_pos (by decide)]
  refine wpAny_bind (sliceApplied_rev hs ?_)
  show wpAny _ _ (if ((((items.size : Nat) : Int) - 1) == 0 && (-1 : Int) == 1 && (items.size : Nat) == items.size) = true then _ else _) _ _ s
  rw [if_neg (by rw [show ((-1 : Int) == 1) = false by decide, Bool.and_false, Bool.false_and]; exact Bool.false_ne_true), rev_pick]
  first
    | exact wpAny_bind (m := Builtin.Tuple.tupleExact _) (wpAny_newObj_type (wpAny_pure ⟨_, rfl, wpAny_pure h⟩) htake)
    | exact wpAny_bind (m := Builtin.Tuple.tupleExact _) (wpAny_newObj_type (wpAny_bind (wpAny_pure (wpAny_pure ⟨_, rfl, wpAny_pure h⟩))) htake)
    | exact wpAny_bind (wpAny_bind (m := Builtin.Tuple.tupleExact _) (wpAny_newObj_type (wpAny_pure (wpAny_pure ⟨_, rfl, wpAny_pure h⟩)) htake))
    | exact wpAny_bind (wpAny_bind (m := Builtin.Tuple.tupleExact _) (wpAny_newObj_type (wpAny_pure ⟨_, rfl, wpAny_pure h⟩) htake))
end
section
variable {X : Cx} {g : G} {e : Expr} {ma ms : Dv} {ml mh : Pv}
/-- the slice by values -/
theorem sl3_ok {pins : List (Addr × Obj)} {s : Shared} {σ : L2.St} {H : Hp} {x : V} {v vl vu vs : Value} {lo hi : Option Int} {st : Int} {sl : Addr} {Q : VK} {Z : Addr → Prop} {ρ : List Addr} {a : D} {w : EV} (O : Ox g X)
    (I : Inv X pins σ H s) (rx : RelV x v) (hs : s.heap.IsSliceOf sl vl vu vs) (pl : IsPart vl lo) (pu : IsPart vu hi) (ps : IsPart vs (some st)) (zt : ∀ c, Z c → H c ≠ none) (tr : ∀ c, c ∈ ρ → H c ≠ none) (ha : RepC g Z ρ H a x) (hf : slD3 lo hi st a = some w)
    (P : ∀ Z' z H', Pure Z H Z' H' → RepEV g.K Z' ρ H H' w z → Q z H') :
    ∃ T id, typeLookup (.type T) "__getitem__" = pure (some (.builtin id)) ∧ s.TypeIs v T ∧ wpAny (model X.prog X.w) X.A (getItem v (.ref sl)) (EP X pins σ Q) X.xe s := by
  unfold slD3 at hf
  split at hf
  · split at hf
    · rename_i c
      obtain ⟨rfl, rfl, rfl⟩ := c
      cases hf
      obtain ⟨p, us, rfl, h1, h2⟩ := ha.lst
      cases rx
      obtain ⟨its, r, ht, hz⟩ := I.list (.inl h1)
      have hlen := r.length
      refine ⟨"list", _, PySem.slot_list_getitem.lookup, ht.isList.typeIs, ?_⟩
      refine wpAny_getItem_list_slice ht.isList hs pl pu ps (by decide) ?_ (by rw [List.size_toArray]; omega)
      rw [PySem.W.krv_pick]
      refine ⟨.ref _, _, I.laid (t' := s.toks) (o := .lst us.reverse) (fun b ob q => Heap.get?_push_of_some _ q) (Nat.le_refl _) ?_, rfl, give_lst zt tr P h2.rev _ (I.hok.fresh (Nat.le_refl _))⟩
      exact ⟨by rw [List.length_reverse]; exact hz, _, 0, r.reverse, Heap.get?_push_size _ rfl⟩
    · cases hf
  · split at hf
    · rename_i c
      obtain ⟨rfl, rfl, rfl⟩ := c
      cases hf
      obtain ⟨p, us, rfl, h1, h2⟩ := ha.tup
      rw [← O.k] at h1
      cases rx
      obtain ⟨its, r, ht, hz⟩ := I.tuple h1
      have hlen := r.length
      cases pl; cases pu
      cases ps with
      | int _ t =>
        refine ⟨"tuple", _, PyProof.Rows.slot_tuple_getitem.lookup, ht.typeIs, ?_⟩
        refine getItem_tuple_rev ht hs ?_ (by rw [List.size_toArray]; omega)
        refine ⟨.ref _, _, I.laid (t' := s.toks) (o := .tup us.reverse) (fun b ob q => Heap.get?_push_of_some _ q) (Nat.le_refl _) ?_, rfl, give_tup zt P h2.rev _ (I.hok.fresh (Nat.le_refl _))⟩
        exact ⟨by rw [List.length_reverse]; exact hz, _, r.reverse, ⟨_, Heap.get?_push_size _ rfl, rfl, _, rfl⟩⟩
    · cases hf
  · split at hf
    · rename_i z c
      rw [Bool.and_eq_true, Bool.and_eq_true, Bool.and_eq_true, decide_eq_true_eq, decide_eq_true_eq] at c
      obtain ⟨⟨⟨c1, c2⟩, c3⟩, c4⟩ := c
      cases hf; cases ha.str
      obtain ⟨t, rfl⟩ := rx
      obtain ⟨os, hos, hcs, hds⟩ := hs
      obtain ⟨l, rfl, rfl⟩ := IsPart.raw pl
      obtain ⟨u, rfl, rfl⟩ := IsPart.raw pu
      cases ps with
      | int _ t2 =>
        refine ⟨"str", _, PySem.F.slot_str_getitem.lookup, typeIs_str _ _ _, ?_⟩
        refine wpAny_getItem_str_slice (l := l) (u := u) (st := some (st, t2)) ⟨os, hos, hcs, hds⟩ (beq_eq_false_iff_ne.mpr c1) ?_
        show Made.post (if (st == 1 && (Builtin.Str.strSliceIndices (l.map (·.1)) (u.map (·.1)) st z.length).length == z.length) = true then Made.val (.str z t)
          else Made.str (strStep z (l.map (·.1)) (u.map (·.1)) st)) (EP X pins σ Q) s
        rw [if_neg (by rw [show (st == 1) = false from beq_eq_false_iff_ne.mpr c2, Bool.false_and]; exact Bool.false_ne_true)]
        exact ⟨fits_iff.mp c4, .str _, H, I.tok _, ⟨_, rfl⟩, give_d zt P (.str _)⟩
    · cases hf
  · cases hf
theorem x_sl3 {lo hi : Option Expr} {est : Expr} {m3 : Ev} {p2 pos : Pos} (O : Ox g X) (ha : PE X e (tC g ma)) (hl : PO X lo (tP g ml)) (hh : PO X hi (tP g mh)) (hst : PE X est (tI g m3)) :
    PE X (.Subscript e (.Slice lo hi (some est) p2) pos) (tI g (eSl3 ma ml mh (dv m3))) := by
  refine ⟨fun pins s σ H Q I ⟨Z, ρ, st, hh0, w, hh', R, e1, P⟩ => ?_⟩
  obtain ⟨⟨d, h1⟩, e2, e3⟩ := Option.bind_eq_some_iff.mp e1
  obtain ⟨⟨l, h2⟩, e4, e5⟩ := Option.bind_eq_some_iff.mp e3
  obtain ⟨⟨u, h3⟩, e6, e7⟩ := Option.bind_eq_some_iff.mp e5
  obtain ⟨⟨k, h4⟩, e8, e9⟩ := Option.bind_eq_some_iff.mp e7
  split at e9
  · rename_i k' hk
    have hk : k = .int k' := hk
    subst hk
    obtain ⟨w', e10, e11⟩ := Option.map_eq_some_iff.mp e9
    cases e11
    have hs3 : PO X (some est) (tP g (pI (dv m3))) := part_some hst
    refine Subscript_ (thn (ha.run pins s σ H (fun x H1 => ∃ Z1 ρ1, Rel g Z1 ρ1 st h1 σ H1 ∧ Grow Z ρ H Z1 ρ1 H1 ∧ RepC g Z1 ρ1 H1 d x) I ⟨Z, ρ, st, hh0, d, h1, R, e2, fun Z1 ρ1 x H1 R1 G1 D1 => ⟨Z1, ρ1, R1, G1, D1⟩⟩) fun v s1 ⟨x, H1, I1, r1, Z1, ρ1, R1, G1, D1⟩ => ?_)
    refine wpAny_Slice (thn (hl.run pins s1 σ H1 (fun o H2 => o = l ∧ ∃ Z2 ρ2, Rel g Z2 ρ2 st h2 σ H2 ∧ Grow Z1 ρ1 H1 Z2 ρ2 H2) I1 ⟨Z1, ρ1, st, h1, l, h2, R1, e4, fun Z2 ρ2 H2 R2 G2 => ⟨rfl, Z2, ρ2, R2, G2⟩⟩) fun vl s2 ⟨o, H2, I2, pl, eo, Z2, ρ2, R2, G2⟩ => ?_)
    subst eo
    refine thn (hh.run pins s2 σ H2 (fun o H3 => o = u ∧ ∃ Z3 ρ3, Rel g Z3 ρ3 st h3 σ H3 ∧ Grow Z2 ρ2 H2 Z3 ρ3 H3) I2 ⟨Z2, ρ2, st, h2, u, h3, R2, e6, fun Z3 ρ3 H3 R3 G3 => ⟨rfl, Z3, ρ3, R3, G3⟩⟩) fun vu s3 ⟨o2, H3, I3, pu, eo2, Z3, ρ3, R3, G3⟩ => ?_
    subst eo2
    refine thn (hs3.run pins s3 σ H3 (fun o H4 => o = some k' ∧ ∃ Z4 ρ4, Rel g Z4 ρ4 st h4 σ H4 ∧ Grow Z3 ρ3 H3 Z4 ρ4 H4) I3 ⟨Z3, ρ3, st, h3, some k', h4, R3, by
      show (dv m3 st h3).bind _ = _
      rw [e8]; rfl, fun Z4 ρ4 H4 R4 G4 => ⟨rfl, Z4, ρ4, R4, G4⟩⟩) fun vs s4 ⟨o3, H4, I4, ps, eo3, Z4, ρ4, R4, G4⟩ => ?_
    subst eo3
    have I5 : Inv X pins σ H4 { s4 with heap := s4.heap.push { cls := .type "slice", data := .fields #[vl, vu, vs] } } := I4.kept (t' := s4.toks) fun b ob q => Heap.get?_push_of_some _ q
    have G14 := ((G1.trans R1.heap G2).trans R2.heap G3).trans R3.heap G4
    obtain ⟨T, id, hT, ht, hg⟩ := sl3_ok (Q := Q) O I5 r1 (Heap.IsSliceOf.new _ vl vu vs) pl pu ps R4.heap.zt R4.heap.trk (((D1.grow G2).grow G3).grow G4) e10 fun Z5 z H5 pu5 rv => P Z5 ρ4 z H5 (R4.pure pu5) (G14.trans R4.heap (pu5.grow ρ4)) (rv.back (G14.back R4.heap))
    show wpAny (model X.prog X.w) X.A (subscriptTail e (.Slice lo hi (some est) p2) v (.ref s4.heap.objs.size)) (EP X pins σ Q) X.xe { s4 with heap := s4.heap.push { cls := .type "slice", data := .fields #[vl, vu, vs] } }
    exact tail_any (ops := [v, .ref s4.heap.objs.size]) ht hT hg (by with_unfolding_all rfl)
  · cases e9
end
end FF

set_option Elab.async false
set_option linter.all false
set_option maxRecDepth 100000
set_option maxHeartbeats 1000000
set_option autoImplicit false
/-! FFStmt: statements. -/
namespace FF
open PySem PySem.Spec PyProof.Rows L2

inductive SR where
  | nx (st : List Sl) (hh : Hh)
  | rt (e : EV) (hh : Hh)
abbrev Sv := List Sl → Hh → Option SR
def EV.sl : EV → Sl
  | .v x => .val x
  | .o w => .own w
structure FinR (g : G) (Z : Addr → Prop) (ρ : List Addr) (hh : Hh) (H : Hp) : Prop where
  grow : Grow g.Z g.ρ g.H Z ρ H
  heap : HeapRep g.K Z ρ hh H
/-- what is frozen stays -/
structure Stay (Z : Addr → Prop) (H : Hp) (Z' : Addr → Prop) (H' : Hp) : Prop where
  z : ∀ a, Z a → Z' a
  rd : ∀ a u, Z a → Rd H a u → Rd H' a u
theorem Stay.refl (Z : Addr → Prop) (H : Hp) : Stay Z H Z H := ⟨fun _ h => h, fun _ _ _ h => h⟩
theorem Stay.trans {Z Z1 Z2 : Addr → Prop} {H H1 H2 : Hp} (a : Stay Z H Z1 H1) (b : Stay Z1 H1 Z2 H2) : Stay Z H Z2 H2 := ⟨fun x h => b.z x (a.z x h), fun x u z h => b.rd x u (a.z x z) (a.rd x u z h)⟩
theorem Grow.stay {Z Z' : Addr → Prop} {ρ ρ' : List Addr} {H H' : Hp} (g : Grow Z ρ H Z' ρ' H') : Stay Z H Z' H' := ⟨g.z, g.rd⟩
theorem Pure.stay {Z Z' : Addr → Prop} {H H' : Hp} (g : Pure Z H Z' H') : Stay Z H Z' H' := ⟨g.z, fun a u _ => g.rd a u⟩
def Post (g : G) (Z0 : Addr → Prop) (H0 : Hp) (D : Ends) : SR → Prop
  | .nx st hh => ∀ Z ρ σ H, Rel g Z ρ st hh σ H → Stay Z0 H0 Z H → D.nx σ H
  | .rt e hh => ∀ Z ρ x H, FinR g Z ρ hh H → RepEV g.K Z ρ g.H H e x → D.rt x H
def sI (g : G) (m : Sv) : TS := fun D σ H => ∃ Z ρ st hh r, Rel g Z ρ st hh σ H ∧ m st hh = some r ∧ Post g Z H D r
def sSkip : Sv := fun st hh => some (.nx st hh)
def sSeq (a b : Sv) : Sv := fun st hh => (a st hh).bind fun r => match r with
  | .nx st' hh' => b st' hh'
  | .rt e hh' => some (.rt e hh')
section
variable {X : Cx} {g : G} {s : Stmt} {rest : List Stmt} {m m1 m2 : Sv}
theorem ss_nil : PSs X [] (sI g sSkip) := by
  refine PSsw pss_nil fun D σ H ⟨Z, ρ, st, hh, r, R, e1, P⟩ => ?_
  cases e1
  exact P Z ρ σ H R (Stay.refl Z H)
theorem ss_cons (h1 : PS X s (sI g m1)) (h2 : PSs X rest (sI g m2)) : PSs X (s :: rest) (sI g (sSeq m1 m2)) := by
  refine PSsw (pss_cons h1 h2) fun D σ H ⟨Z, ρ, st, hh, r, R, e1, P⟩ => ?_
  obtain ⟨r1, e2, e3⟩ := Option.bind_eq_some_iff.mp e1
  refine ⟨Z, ρ, st, hh, r1, R, e2, ?_⟩
  cases r1 with
  | nx st' hh' =>
    refine fun Z' ρ' σ' H' R' S' => ⟨Z', ρ', st', hh', r, R', e3, ?_⟩
    cases r with
    | nx st2 hh2 => exact fun Z2 ρ2 σ2 H2 R2 S2 => P Z2 ρ2 σ2 H2 R2 (S'.trans S2)
    | rt e hh2 => exact P
  | rt e hh' => cases e3; exact P
theorem ss_one (h1 : PS X s (sI g m1)) : PSs X [s] (sI g m1) := pss_one h1
end

/-! ### values on their way into slots -/
/-- a value that is to be stored: a thing of one's own is in no slot yet -/
def RepE (g : G) (Z : Addr → Prop) (ρ : List Addr) (st : List Sl) (σ : L2.St) (H : Hp) : EV → V → Prop
  | .v x, v => RepV g.K Z ρ H x v
  | .o w, v => ∃ a, v = .ref a ∧ Own g Z ρ H w a ∧ ∀ (j : Nat) (u : Ob), st[j]? = some (.own u) → σ[j]? ≠ some (some (.ref a))
inductive RepEs (g : G) (Z : Addr → Prop) (ρ : List Addr) (st : List Sl) (σ : L2.St) (H : Hp) : List EV → List V → Prop
  | nil : RepEs g Z ρ st σ H [] []
  | cons {e : EV} {v : V} {es : List EV} {vs : List V} : RepE g Z ρ st σ H e v → RepEs g Z ρ st σ H es vs → (∀ (a : Addr) (w : Ob), e = .o w → v = .ref a → ∀ (j : Nat) (u : Ob), es[j]? = some (.o u) → vs[j]? ≠ some (.ref a)) → RepEs g Z ρ st σ H (e :: es) (v :: vs)
section
variable {g : G} {Z Z' : Addr → Prop} {ρ ρ' : List Addr} {st : List Sl} {hh hh' : Hh} {σ : L2.St} {H H' : Hp} {e : EV} {x : V}
theorem RepEV.rep {ev : EV} (R0 : Rel g Z ρ st hh σ H) (h : RepEV g.K Z' ρ' H H' ev x) : RepE g Z' ρ' st σ H' ev x := by
  cases ev with
  | v y => exact h
  | o w =>
    obtain ⟨a, rfl, r, z, n, f⟩ := h
    exact ⟨a, rfl, ⟨r, z, n, R0.newG f⟩, fun j u h1 h2 => R0.tracked h1 h2 f⟩
theorem Rel.set (R : Rel g Z ρ st hh σ H) (h : RepE g Z ρ st σ H e x) (i : Nat) : Rel g Z ρ (st.set i e.sl) hh (σ.set i (some x)) H where
  grow := R.grow
  heap := R.heap
  len := by rw [List.length_set, List.length_set]; exact R.len
  slv := fun j v hv => by
    by_cases hj : i = j
    · subst hj
      have hlt : i < st.length := by
        have := (List.getElem?_eq_some_iff.mp hv).1
        rwa [List.length_set] at this
      rw [List.getElem?_set_self hlt] at hv
      cases e with
      | v y =>
        cases hv
        exact ⟨x, List.getElem?_set_self (by rw [← R.len]; exact hlt), h⟩
      | o w => cases hv
    · rw [List.getElem?_set_ne hj] at hv ⊢
      exact R.slv j v hv
  slo := fun j w hv => by
    by_cases hj : i = j
    · subst hj
      have hlt : i < st.length := by
        have := (List.getElem?_eq_some_iff.mp hv).1
        rwa [List.length_set] at this
      rw [List.getElem?_set_self hlt] at hv
      cases e with
      | v y => cases hv
      | o w' =>
        cases hv
        obtain ⟨a, rfl, o, _⟩ := h
        exact ⟨a, List.getElem?_set_self (by rw [← R.len]; exact hlt), o⟩
    · rw [List.getElem?_set_ne hj] at hv ⊢
      exact R.slo j w hv
  sld := fun j k w w' a hjk h1 h2 h3 h4 => by
    by_cases hj : i = j
    · subst hj
      have hlt : i < st.length := by
        have := (List.getElem?_eq_some_iff.mp h1).1
        rwa [List.length_set] at this
      rw [List.getElem?_set_self hlt] at h1
      rw [List.getElem?_set_self (by rw [← R.len]; exact hlt)] at h3
      rw [List.getElem?_set_ne hjk] at h2 h4
      cases h3
      cases e with
      | v y => cases h1
      | o w'' =>
        obtain ⟨b, eb, _, q⟩ := h
        cases eb
        exact q k w' h2 h4
    · rw [List.getElem?_set_ne hj] at h1 h3
      by_cases hk : i = k
      · subst hk
        have hlt : i < st.length := by
          have := (List.getElem?_eq_some_iff.mp h2).1
          rwa [List.length_set] at this
        rw [List.getElem?_set_self hlt] at h2
        rw [List.getElem?_set_self (by rw [← R.len]; exact hlt)] at h4
        cases h4
        cases e with
        | v y => cases h2
        | o w'' =>
          obtain ⟨b, eb, _, q⟩ := h
          cases eb
          exact q j w h1 h3
      · rw [List.getElem?_set_ne hk] at h2 h4
        exact R.sld j k w w' a hjk h1 h2 h3 h4
end
/-! ### targets -/
abbrev Tg := EV → List Sl → Option (List Sl)
def tN (i : Nat) : Tg := fun e st => some (st.set i e.sl)
def tAll : List Tg → List EV → List Sl → Option (List Sl)
  | [], [], st => some st
  | t :: ts, e :: es, st => (t e st).bind fun st' => tAll ts es st'
  | _, _, _ => none
def tT (ts : List Tg) : Tg := fun e st => match e with
  | .v (.d (.tuple ds)) => tAll ts (ds.map fun d => .v (.d d)) st
  | _ => none
/-- what a target's slots are: idx -/
def Wp (idx : List Nat) (σ σ' : L2.St) : Prop := ∀ vs : List Nat, (∀ i ∈ idx, i ∈ vs) → wipe σ' vs = wipe σ vs
def Fresh (st : List Sl) (σ : L2.St) (a : Addr) : Prop := ∀ (k : Nat) (w : Ob), st[k]? = some (.own w) → σ[k]? ≠ some (some (.ref a))
def gI (g : G) (t : Tg) (idx : List Nat) : TG := fun v σ H Q => ∃ Z ρ st hh e st', Rel g Z ρ st hh σ H ∧ RepE g Z ρ st σ H e v ∧ t e st = some st' ∧
  ∀ σ', Rel g Z ρ st' hh σ' H → Wp idx σ σ' → (∀ a, Fresh st σ a → (∀ w, e = .o w → v ≠ .ref a) → Fresh st' σ' a) → Q σ' H
def gIs (g : G) (t : List Tg) (idx : List Nat) : TGs := fun v σ H Q => ∃ Z ρ st hh e st', Rel g Z ρ st hh σ H ∧ RepEs g Z ρ st σ H e v ∧ tAll t e st = some st' ∧
  ∀ σ', Rel g Z ρ st' hh σ' H → Wp idx σ σ' → (∀ a, Fresh st σ a → (∀ (j : Nat) (w : Ob), e[j]? = some (.o w) → v[j]? ≠ some (.ref a)) → Fresh st' σ' a) → Q σ' H
theorem wipe_get (σ : L2.St) : ∀ (vs : List Nat) (j : Nat), (wipe σ vs)[j]? = if j ∈ vs then (σ[j]?).map fun _ => none else σ[j]?
  | [], j => by simp [wipe]
  | v :: vs, j => by
    unfold wipe
    by_cases h : v = j
    · subst h
      rw [if_pos List.mem_cons_self]
      have ih := wipe_get σ vs v
      by_cases hl : v < (wipe σ vs).length
      · rw [List.getElem?_set_self hl]
        rw [wipe_length] at hl
        rw [List.getElem?_eq_getElem hl] <;> rfl
      · rw [List.getElem?_eq_none (by rw [List.length_set]; omega)]
        rw [wipe_length] at hl
        rw [List.getElem?_eq_none (by omega)] <;> rfl
    · rw [List.getElem?_set_ne h, wipe_get σ vs j]
      have : (j ∈ v :: vs) ↔ j ∈ vs := by simp [Ne.symm h]
      simp only [this]
theorem wipe_set (σ : L2.St) (i : Nat) (x : Option V) (vs : List Nat) (h : i ∈ vs) : wipe (σ.set i x) vs = wipe σ vs := by
  apply List.ext_getElem?
  intro j
  rw [wipe_get, wipe_get]
  by_cases hj : j ∈ vs
  · rw [if_pos hj, if_pos hj]
    by_cases e : i = j
    · subst e
      by_cases hl : i < σ.length
      · rw [List.getElem?_set_self hl, List.getElem?_eq_getElem hl] <;> rfl
      · rw [List.getElem?_eq_none (by rw [List.length_set]; omega), List.getElem?_eq_none (by omega)]
    · rw [List.getElem?_set_ne e]
  · rw [if_neg hj, if_neg hj]
    have e : i ≠ j := fun e => hj (e ▸ h)
    rw [List.getElem?_set_ne e]
theorem Wp.refl (idx : List Nat) (σ : L2.St) : Wp idx σ σ := fun _ _ => rfl
theorem Wp.trans {a b : List Nat} {σ σ1 σ2 : L2.St} (h1 : Wp a σ σ1) (h2 : Wp b σ1 σ2) : Wp (a ++ b) σ σ2 := fun vs h =>
  (h2 vs fun i hi => h i (List.mem_append_right _ hi)).trans (h1 vs fun i hi => h i (List.mem_append_left _ hi))
section
variable {X : Cx} {g : G} {e : Expr} {es : List Expr} {pos : Pos}
theorem g_name (i : Nat) {x : Str} (hN : X.N.Nodup) (hi : X.N[i]? = some x) (hx : Loc X.env.scope x) (hf : X.fn x = true ∨ X.env.scope.names.lookup x = some .local) : PG X (.Name x pos) (gI g (tN i) [i]) := by
  refine ⟨fun pins s σ H v u Q I r ⟨Z, ρ, st, hh, ev, st', R, E, h1, P⟩ => ?_⟩
  refine (pg_name (pos := pos) hN hi hx hf).run pins s σ H v u Q I r ?_
  cases h1
  refine P _ (R.set E i) (fun vs h => wipe_set σ i _ vs (h i (by simp))) fun a fa ne k w h1 h2 => ?_
  by_cases hk : i = k
  · subst hk
    have hlt : i < st.length := by
      have := (List.getElem?_eq_some_iff.mp h1).1
      rwa [List.length_set] at this
    rw [List.getElem?_set_self hlt] at h1
    rw [List.getElem?_set_self (by rw [← R.len]; exact hlt)] at h2
    cases h2
    cases ev with
    | v y => cases h1
    | o w' => exact ne w' rfl rfl
  · rw [List.getElem?_set_ne hk] at h1 h2
    exact fa k w h1 h2
theorem gs_nil : PGs X [] (gIs g [] []) := by
  refine ⟨fun pins s σ H v u Q I r ⟨Z, ρ, st, hh, ev, st', R, E, h1, P⟩ => ?_⟩
  refine pgs_nil.run pins s σ H v u Q I r ?_
  cases E with
  | nil =>
    cases h1
    exact ⟨rfl, P σ R (Wp.refl _ _) fun a fa _ => fa⟩
  | cons _ _ _ => cases h1
theorem RepEs.after {Z : Addr → Prop} {ρ : List Addr} {st st' : List Sl} {σ σ' : L2.St} {H : Hp} : ∀ {es : List EV} {vs : List V}, RepEs g Z ρ st σ H es vs →
    (∀ (a : Addr) (j : Nat) (u : Ob), es[j]? = some (.o u) → vs[j]? = some (.ref a) → Fresh st' σ' a) → RepEs g Z ρ st' σ' H es vs
  | _, _, .nil, _ => .nil
  | _, _, @RepEs.cons _ _ _ _ _ _ e v es vs a b c, h => by
    refine .cons ?_ (RepEs.after b fun a j u h1 h2 => h a (j + 1) u (by simpa using h1) (by simpa using h2)) c
    cases e with
    | v y => exact a
    | o w =>
      obtain ⟨ad, rfl, o, _⟩ := a
      exact ⟨ad, rfl, o, h ad 0 w rfl rfl⟩
theorem RepEs.fresh {Z : Addr → Prop} {ρ : List Addr} {st : List Sl} {σ : L2.St} {H : Hp} : ∀ {es : List EV} {vs : List V}, RepEs g Z ρ st σ H es vs →
    ∀ (a : Addr) (j : Nat) (u : Ob), es[j]? = some (.o u) → vs[j]? = some (.ref a) → Fresh st σ a
  | _, _, .nil, _, _, _, h, _ => by simp at h
  | _, _, .cons a _ _, ad, 0, u, h1, h2 => by
    simp at h1 h2
    subst h1 h2
    obtain ⟨ad', e, _, q⟩ := a
    cases e
    exact q
  | _, _, .cons _ b _, ad, j + 1, u, h1, h2 => RepEs.fresh b ad j u (by simpa using h1) (by simpa using h2)
theorem gs_cons {t : Tg} {ts : List Tg} {idx idxs : List Nat} (h1 : PG X e (gI g t idx)) (h2 : PGs X es (gIs g ts idxs))
    (hs : (assignEach (e :: es) X.env).map (·.2) = assign e X.env :: (assignEach es X.env).map (·.2) := by rfl) : PGs X (e :: es) (gIs g (t :: ts) (idx ++ idxs)) := by
  refine ⟨fun pins s σ H v u Q I r ⟨Z, ρ, st, hh, ev, st', R, E, hst, P⟩ => ?_⟩
  refine (pgs_cons h1 h2 hs).run pins s σ H v u Q I r ?_
  cases E with
  | nil => cases hst
  | @cons e1 v1 er vr a b c =>
    obtain ⟨st1, q1, q2⟩ := Option.bind_eq_some_iff.mp hst
    refine ⟨v1, vr, rfl, Z, ρ, st, hh, e1, st1, R, a, q1, fun σ1 R1 W1 F1 => ?_⟩
    refine ⟨Z, ρ, st1, hh, er, st', R1, b.after fun ad j u' k1 k2 => F1 ad (b.fresh ad j u' k1 k2) fun w ew ev => c ad w ew ev j u' k1 k2, q2, fun σ2 R2 W2 F2 => ?_⟩
    refine P σ2 R2 (W1.trans W2) fun ad fa ne => F2 ad (F1 ad fa fun w ew ev => ne 0 w (by simp [ew]) (by simp [ev])) fun j w k1 k2 => ne (j + 1) w (by simpa using k1) (by simpa using k2)
theorem RepEs.of_dz {Z : Addr → Prop} {ρ : List Addr} {st : List Sl} {σ : L2.St} {H : Hp} : ∀ {vs : List V} {ds : List D}, DZs g.K Z H vs ds → RepEs g Z ρ st σ H (ds.map fun d => .v (.d d)) vs
  | _, _, .nil => .nil
  | _, _, .cons a b => .cons a (RepEs.of_dz b) fun _ _ h => nomatch h
theorem tAll_len : ∀ {ts : List Tg} {es : List EV} {st st' : List Sl}, tAll ts es st = some st' → ts.length = es.length
  | [], [], _, _, _ => rfl
  | [], _ :: _, _, _, h => by simp [tAll] at h
  | _ :: _, [], _, _, h => by simp [tAll] at h
  | t :: ts, e :: es, st, st', h => by
    obtain ⟨_, _, q⟩ := Option.bind_eq_some_iff.mp h
    simp [tAll_len q]
theorem g_tup {k : Nat} {ts : List Tg} {idx : List Nat} (O : Ox g X) (h : PGs X es (gIs g ts idx)) (hn : (assignEach es X.env).length = ts.length := by rfl) (hst : (assignEach es X.env).findIdx? (·.1) = none := by rfl) : PG X (.Tuple es k pos) (gI g (tT ts) idx) := by
  refine ⟨fun pins s σ H v u Q I r ⟨Z, ρ, st, hh, ev, st', R, E, h1, P⟩ => ?_⟩
  refine (pg_tup (pos := pos) (k := k) O.calm h hn hst).run pins s σ H v u Q I r ?_
  unfold tT at h1
  split at h1
  · rename_i ds
    have E : DZ g.K Z H v (.tuple ds) := E
    cases E with
    | @tup a xs _ za zs =>
      have hl := tAll_len h1
      rw [List.length_map] at hl
      refine ⟨a, xs, rfl, by rw [O.k]; exact za.sq, by rw [zs.length, hl], Z, ρ, st, hh, _, st', R, RepEs.of_dz zs, h1, fun σ' R' W' F' => P σ' R' W' fun ad fa _ => F' ad fa fun j w k1 => ?_⟩
      simp at k1
  · cases h1
end
theorem RepEs.pure {g : G} {Z Z' : Addr → Prop} {ρ : List Addr} {st : List Sl} {σ : L2.St} {H H' : Hp} (pu : Pure Z H Z' H') : ∀ {es : List EV} {vs : List V}, RepEs g Z ρ st σ H es vs → RepEs g Z' ρ st σ H' es vs
  | _, _, .nil => .nil
  | _, _, @RepEs.cons _ _ _ _ _ _ e v es vs a b c => by
    refine .cons ?_ (RepEs.pure pu b) c
    cases e with
    | v y => exact RepV.grow (pu.grow ρ) a
    | o w =>
      obtain ⟨ad, rfl, ⟨o1, o2, o3, o4⟩, q⟩ := a
      refine ⟨ad, rfl, ⟨o1.pure pu, fun z => ?_, o3, o4⟩, q⟩
      obtain ⟨u, hu⟩ := o1.some
      rcases pu.n ad z with z | z
      · exact o2 z
      · rw [z] at hu; cases hu
/-! ### assignments -/
def sSet (i : Nat) (m : Ev) : Sv := fun st hh => (m st hh).map fun r => .nx (st.set i r.1.sl) r.2
def sAsg (t : Tg) (m : Ev) : Sv := fun st hh => (m st hh).bind fun r => (t r.1 st).map fun st' => .nx st' r.2
def evs : List Ev → List Sl → Hh → Option (List EV × Hh)
  | [], _, hh => some ([], hh)
  | m :: ms, st, hh => (m st hh).bind fun r => (evs ms st r.2).map fun q => (r.1 :: q.1, q.2)
/-- a, b, .. = x, y, .. -/
def sAsgs (ts : List Tg) (ms : List Ev) : Sv := fun st hh => (evs ms st hh).bind fun r => (tAll ts r.1 st).map fun st' => .nx st' r.2
def aE (g : G) (ms : List Ev) : TA := fun σ H Q => ∃ Z ρ st hh es hh', Rel g Z ρ st hh σ H ∧ evs ms st hh = some (es, hh') ∧
  ∀ Z' ρ' xs H', Rel g Z' ρ' st hh' σ H' → Grow Z ρ H Z' ρ' H' → RepEs g Z' ρ' st σ H' es xs → (∀ (j : Nat) (w : Ob) (a : Addr), es[j]? = some (.o w) → xs[j]? = some (.ref a) → H a = none) → Q xs H'
section
variable {X : Cx} {g : G} {e : Expr} {es : List Expr} {m : Ev} {ms : List Ev} {pos : Pos}
theorem a_nilE : PA X [] (aE g []) := by
  refine PAw pa_nil fun σ H Q ⟨Z, ρ, st, hh, ds, hh', R, e1, P⟩ => ?_
  cases e1
  exact P Z ρ [] H R (Grow.refl Z ρ H) .nil fun j w a h => by simp at h
theorem a_consE (h : PE X e (tI g m)) (hr : PA X es (aE g ms)) (hs : starEach (e :: es) X.env = (false, eval e X.env) :: starEach es X.env := by rfl) : PA X (e :: es) (aE g (m :: ms)) := by
  refine PAw (pa_cons h hr hs) fun σ H Q ⟨Z, ρ, st, hh, ds, hh', R, e1, P⟩ => ?_
  obtain ⟨⟨d, h1⟩, e2, e3⟩ := Option.bind_eq_some_iff.mp e1
  obtain ⟨⟨ds1, h2⟩, e4, e5⟩ := Option.map_eq_some_iff.mp e3
  cases e5
  refine ⟨Z, ρ, st, hh, d, h1, R, e2, fun Z1 ρ1 x H1 R1 G1 D1 => ⟨Z1, ρ1, st, h1, ds1, h2, R1, e4, fun Z2 ρ2 xs H2 R2 G2 D2 N2 => ?_⟩⟩
  refine P Z2 ρ2 (x :: xs) H2 R2 (G1.trans R1.heap G2) (.cons ?_ D2 fun a w ew ev j u k1 k2 => ?_) fun j w a k1 k2 => ?_
  · cases d with
    | v y => exact RepV.grow G2 D1
    | o w =>
      obtain ⟨a, rfl, r, z, n, f⟩ := D1
      obtain ⟨q, hq⟩ := r.some
      obtain ⟨r', z'⟩ := r.grow G2 z n
      exact ⟨a, rfl, ⟨r', z', G2.out hq n, R.newG f⟩, fun j u h1 h2 => R.tracked h1 h2 f⟩
  · subst ew ev
    obtain ⟨a', ea, r, _⟩ := D1
    cases ea
    obtain ⟨q, hq⟩ := r.some
    rw [N2 j u a k1 k2] at hq
    cases hq
  · cases j with
    | zero =>
      simp at k1 k2
      subst k1 k2
      obtain ⟨a', ea, _, _, _, f⟩ := D1
      cases ea
      exact f
    | succ j => exact G1.back R1.heap a (N2 j w a (by simpa using k1) (by simpa using k2))
theorem s_set (i : Nat) {x : Str} {pos' : Pos} (hN : X.N.Nodup) (hi : X.N[i]? = some x) (hx : Loc X.env.scope x) (he : PE X e (tI g m)) (hf : X.fn x = true ∨ X.env.scope.names.lookup x = some .local)
    (hs : swapsWith e (some (.Name x pos')) pos.line X.env = pure false := by rfl) : PS X (.Assign [.Name x pos'] e pos) (sI g (sSet i m)) := by
  refine PSw (ps_set hN hi hx he hs hf) fun D σ H ⟨Z, ρ, st, hh, r, R, e1, P⟩ => ?_
  obtain ⟨⟨w, h1⟩, e2, rfl⟩ := Option.map_eq_some_iff.mp e1
  exact ⟨Z, ρ, st, hh, w, h1, R, e2, fun Z' ρ' x' H' R' G' E => P Z' ρ' _ H' (R'.set (E.rep R) i) G'.stay⟩
/-- any one target -/
theorem s_asg {tg : Expr} {t : Tg} {idx : List Nat} (he : PE X e (tI g m)) (hg : PG X tg (gI g t idx)) (hs : swapsWithSole [tg] e pos.line X.env = pure false := by rfl) (hw : swappedStores [tg] e X.env = pure none := by rfl)
    (h1 : (assignEach [tg] X.env).map (·.2) = [assign tg X.env] := by rfl) : PS X (.Assign [tg] e pos) (sI g (sAsg t m)) := by
  refine PSw (ps_asg he hg hs hw h1) fun D σ H ⟨Z, ρ, st, hh, r, R, e1, P⟩ => ?_
  obtain ⟨⟨w, h2⟩, e2, e3⟩ := Option.bind_eq_some_iff.mp e1
  obtain ⟨st', e4, rfl⟩ := Option.map_eq_some_iff.mp e3
  exact ⟨Z, ρ, st, hh, w, h2, R, e2, fun Z' ρ' x' H' R' G' E => ⟨Z', ρ', st, h2, w, st', R', E.rep R, e4, fun σ' R'' _ _ => P Z' ρ' σ' H' R'' G'.stay⟩⟩
/-- a tuple of values to a tuple of targets, by the tuple -/
theorem s_asgT {ets : List Expr} {k k2 : Nat} {pt p2 : Pos} {ts : List Tg} {idx : List Nat} (O : Ox g X) (ha : PA X es (aE g ms)) (hg : PGs X ets (gIs g ts idx)) (hl : ms.length ≤ 4000 := by decide)
    (hn : (assignEach ets X.env).length = ts.length := by rfl) (hst : (assignEach ets X.env).findIdx? (·.1) = none := by rfl)
    (hs : swapsWithSole [.Tuple ets k pt] (.Tuple es k2 p2) pos.line X.env = pure false := by rfl) (hw : swappedStores [.Tuple ets k pt] (.Tuple es k2 p2) X.env = pure none := by rfl)
    (h1 : (assignEach [.Tuple ets k pt] X.env).map (·.2) = [assign (.Tuple ets k pt) X.env] := by rfl) : PS X (.Assign [.Tuple ets k pt] (.Tuple es k2 p2) pos) (sI g (sAsgs ts ms)) := by
  refine PSw (ps_asg (pe_tup ha) (pg_tup O.calm hg hn hst) hs hw h1) fun D σ H ⟨Z, ρ, st, hh, r, R, e1, P⟩ => ?_
  obtain ⟨⟨ws, h2⟩, e2, e3⟩ := Option.bind_eq_some_iff.mp e1
  obtain ⟨st', e4, rfl⟩ := Option.map_eq_some_iff.mp e3
  have el : ∀ {ms : List Ev} {hh h2 : Hh} {ws : List EV}, evs ms st hh = some (ws, h2) → ws.length = ms.length := by
    intro ms
    induction ms with
    | nil => intro hh h2 ws h; cases h; rfl
    | cons m ms ih =>
      intro hh h2 ws h
      obtain ⟨q, _, h3⟩ := Option.bind_eq_some_iff.mp h
      obtain ⟨p, h4, h5⟩ := Option.map_eq_some_iff.mp h3
      cases h5
      simp [ih (ws := p.1) (h2 := p.2) h4]
  have rl : ∀ {Z : Addr → Prop} {ρ : List Addr} {H : Hp} {es : List EV} {vs : List V}, RepEs g Z ρ st σ H es vs → vs.length = es.length := by
    intro Z ρ H es vs h
    induction h with
    | nil => rfl
    | cons _ _ _ ih => simp [ih]
  refine ⟨Z, ρ, st, hh, ws, h2, R, e2, fun Z1 ρ1 xs H1 R1 G1 E1 N1 => ⟨small_line (by rw [rl E1, el e2]; exact hl), fun p np => ?_⟩⟩
  have pu := Pure.new (o := .tup xs) R1.heap.zt np
  have E2 : RepEs g Z1 ρ1 st σ (upd H1 p (.tup xs)) ws xs := E1.pure pu
  refine ⟨p, xs, rfl, .inl (.inl upd_same), by rw [rl E1, ← tAll_len e4], Z1, ρ1, st, h2, ws, st', R1.pure pu, E2, e4, fun σ' R' _ _ => P Z1 ρ1 σ' _ R' (G1.stay.trans pu.stay)⟩
/-- two, three plain local names -/
theorem tAll2 (i j : Nat) (a b : EV) (st : List Sl) : tAll [tN i, tN j] [a, b] st = some ((st.set i a.sl).set j b.sl) := rfl
theorem s_asg2 (i j : Nat) {x y : Str} {a b : Expr} {ma mb : Ev} {px py pt pt2 : Pos} {kt k2 : Nat} (O : Ox g X) (hN : X.N.Nodup) (hi : X.N[i]? = some x) (hj : X.N[j]? = some y) (hij : i ≠ j)
    (hx : X.env.scope.names.lookup x = some .local) (hy : X.env.scope.names.lookup y = some .local) (ha : PA X [a, b] (aE g [ma, mb]))
    (hw : swappedStores [.Tuple [.Name x px, .Name y py] kt pt] (.Tuple [a, b] k2 pt2) X.env = pure (some [x, y]))
    (hs : swapsWithSole [.Tuple [.Name x px, .Name y py] kt pt] (.Tuple [a, b] k2 pt2) pos.line X.env = pure false := by rfl) :
    PS X (.Assign [.Tuple [.Name x px, .Name y py] kt pt] (.Tuple [a, b] k2 pt2) pos) (sI g (sAsgs [tN i, tN j] [ma, mb])) := by
  refine PSw (ps_par O.calm hN hi hj hij hx hy ha hw hs) fun D σ H ⟨Z, ρ, st, hh, r, R, e1, P⟩ => ?_
  obtain ⟨⟨ws, h2⟩, e2, e3⟩ := Option.bind_eq_some_iff.mp e1
  obtain ⟨st', e4, rfl⟩ := Option.map_eq_some_iff.mp e3
  refine ⟨Z, ρ, st, hh, ws, h2, R, e2, fun Z1 ρ1 xs H1 R1 G1 E1 N1 => ?_⟩
  have hl := tAll_len e4
  match ws, xs, E1, hl, e4 with
  | [w1, w2], [v1, v2], E1, _, e4 =>
    cases e4
    refine ⟨v1, v2, rfl, P Z1 ρ1 _ H1 ?_ G1.stay⟩
    cases E1 with
    | cons a b c =>
      cases b with
      | cons b _ _ =>
        refine (R1.set a i).set ?_ j
        cases w2 with
        | v z => exact b
        | o w =>
          obtain ⟨ad, rfl, o, q⟩ := b
          refine ⟨ad, rfl, o, fun k u k1 k2 => ?_⟩
          by_cases hk : i = k
          · subst hk
            have hlt : i < st.length := by
              have := (List.getElem?_eq_some_iff.mp k1).1
              rwa [List.length_set] at this
            rw [List.getElem?_set_self hlt] at k1
            rw [List.getElem?_set_self (by rw [← R1.len]; exact hlt)] at k2
            cases k2
            cases w1 with
            | v z => cases k1
            | o w' => exact c ad w' rfl rfl 0 w rfl rfl
          · rw [List.getElem?_set_ne hk] at k1 k2
            exact q k u k1 k2
end
end FF

set_option Elab.async false
set_option linter.all false
set_option maxRecDepth 100000
set_option maxHeartbeats 1000000
set_option autoImplicit false
/-! FFFlow: if, while, return, expression statements; what is frozen, moved, written. -/
namespace FF
open PySem PySem.Spec PyProof.Rows L2
section
variable {X : Cx} {g : G} {e c : Expr} {a b : List Stmt} {s : Stmt} {m : Ev} {mc : Dv} {m1 m2 : Sv} {pos : Pos}
def sIf (c : Dv) (a b : Sv) : Sv := fun st hh => (c st hh).bind fun r => match r.1 with
  | .bool true => a st r.2
  | .bool false => b st r.2
  | _ => none
def sRet (m : Ev) : Sv := fun st hh => (m st hh).map fun r => .rt r.1 r.2
def sRetV (i : Nat) : Sv := fun st hh => match st[i]? with
  | some (.own o) => some (.rt (.o o) hh)
  | some (.val v) => some (.rt (.v v) hh)
  | _ => none
def sExpr (m : Ev) : Sv := fun st hh => (m st hh).map fun r => .nx st r.2
def sNo : Sv := fun _ _ => none
theorem Post.later {D : Ends} {Z Z1 : Addr → Prop} {H H1 : Hp} {r : SR} (h : Post g Z H D r) (s : Stay Z H Z1 H1) : Post g Z1 H1 D r := by
  cases r with
  | nx st hh => exact fun Z2 ρ2 σ2 H2 R2 S2 => h Z2 ρ2 σ2 H2 R2 (s.trans S2)
  | rt e hh => exact h
theorem s_if (hc : PT X c (tB g mc)) (ha : PSs X a (sI g m1)) (hb : PSs X b (sI g m2)) : PS X (.If c a b pos) (sI g (sIf mc m1 m2)) := by
  refine PSw (ps_if hc ha hb) fun D σ H ⟨Z, ρ, st, hh, r, R, e1, P⟩ => ?_
  obtain ⟨⟨d, h1⟩, e2, e3⟩ := Option.bind_eq_some_iff.mp e1
  split at e3
  · rename_i hd
    have hd : d = .bool true := hd
    subst hd
    exact ⟨Z, ρ, st, hh, true, h1, R, e2, fun Z1 ρ1 H1 R1 G1 => iteT ⟨Z1, ρ1, st, h1, r, R1, e3, P.later G1.stay⟩⟩
  · rename_i hd
    have hd : d = .bool false := hd
    subst hd
    exact ⟨Z, ρ, st, hh, false, h1, R, e2, fun Z1 ρ1 H1 R1 G1 => iteF ⟨Z1, ρ1, st, h1, r, R1, e3, P.later G1.stay⟩⟩
  · cases e3
theorem s_ret (he : PE X e (tI g m)) : PS X (.Return (some e) pos) (sI g (sRet m)) := by
  refine PSw (ps_ret he) fun D σ H ⟨Z, ρ, st, hh, r, R, e1, P⟩ => ?_
  obtain ⟨⟨w, h1⟩, e2, rfl⟩ := Option.map_eq_some_iff.mp e1
  exact ⟨Z, ρ, st, hh, w, h1, R, e2, fun Z1 ρ1 x H1 R1 G1 E1 => P Z1 ρ1 x H1 ⟨R1.grow, R1.heap⟩ (E1.back (R.grow.back R.heap))⟩
theorem s_retV (i : Nat) {x : Str} {p : Pos} (hN : X.N[i]? = some x) (hv : Vis X.env.scope x) (hd : (x == ("__debug__" : Str)) = false) (hcd : (x == ("__classdict__" : Str)) = false) : PS X (.Return (some (.Name x p)) pos) (sI g (sRetV i)) := by
  refine PSw (ps_ret (pe_var hN hv hd hcd)) fun D σ H ⟨Z, ρ, st, hh, r, R, e1, P⟩ => ?_
  unfold sRetV at e1
  split at e1
  · rename_i o ho
    cases e1
    obtain ⟨a, h1, r, z, n, f⟩ := R.slo i o ho
    exact ⟨_, h1, P Z ρ _ H ⟨R.grow, R.heap⟩ ⟨a, rfl, r, z, n, f⟩⟩
  · rename_i v hv
    cases e1
    obtain ⟨y, h1, h2⟩ := R.slv i v hv
    exact ⟨y, h1, P Z ρ _ H ⟨R.grow, R.heap⟩ h2⟩
  · cases e1
theorem s_retN : PS X (.Return none pos) (sI g (sRet (eC .none))) := by
  refine PSw ps_retN fun D σ H ⟨Z, ρ, st, hh, r, R, e1, P⟩ => ?_
  cases e1
  exact P Z ρ .non H ⟨R.grow, R.heap⟩ .non
theorem s_expr (he : PE X e (tI g m)) (hs : swapsWith e none pos.line X.env = pure false := by rfl) : PS X (.Expr e pos) (sI g (sExpr m)) := by
  refine PSw (ps_expr he hs) fun D σ H ⟨Z, ρ, st, hh, r, R, e1, P⟩ => ?_
  obtain ⟨⟨w, h1⟩, e2, rfl⟩ := Option.map_eq_some_iff.mp e1
  exact ⟨Z, ρ, st, hh, w, h1, R, e2, fun Z1 ρ1 x H1 R1 G1 E1 => P Z1 ρ1 σ H1 R1 G1.stay⟩
/-- code that is not come to (a raise) -/
theorem s_no : PS X s (sI g sNo) := PSw ps_never fun D σ H ⟨Z, ρ, st, hh, r, R, e1, P⟩ => nomatch e1
/-! ### while -/
def whileL (c : Dv) (b : Sv) : Nat → Sv
  | 0 => fun _ _ => none
  | n + 1 => fun st hh => (c st hh).bind fun r => match r.1 with
    | .bool true => (b st r.2).bind fun q => match q with
      | .nx st' hh' => whileL c b n st' hh'
      | .rt e hh' => some (.rt e hh')
    | .bool false => some (.nx st r.2)
    | _ => none
def sWhile (n : Nat) (c : Dv) (b : Sv) : Sv := whileL c b n
theorem s_while (n : Nat) (hp : PassesOwn (model X.prog X.w) X.A X.env X.xe) (hc : PT X c (tB g mc)) (hb : PSs X b (sI g m1)) : PS X (.While c b [] pos) (sI g (sWhile n mc m1)) := by
  refine PSw (ps_while hp hc hb) fun D σ H ⟨Z, ρ, st, hh, r, R, e1, P⟩ => ?_
  refine ⟨fun n σ H => ∃ Z ρ st hh, Rel g Z ρ st hh σ H ∧ whileL mc m1 n st hh = some r ∧ Post g Z H D r, ⟨n, Z, ρ, st, hh, R, e1, P⟩, ?_⟩
  rintro n σ H ⟨Z, ρ, st, hh, R, e1, P⟩
  cases n with
  | zero => cases e1
  | succ n =>
    obtain ⟨⟨d, h1⟩, e2, e3⟩ := Option.bind_eq_some_iff.mp e1
    split at e3
    · rename_i hd
      have hd : d = .bool true := hd
      subst hd
      obtain ⟨q, e4, e5⟩ := Option.bind_eq_some_iff.mp e3
      refine ⟨Z, ρ, st, hh, true, h1, R, e2, fun Z1 ρ1 H1 R1 G1 => iteT ⟨fun σ' H' => ∃ Z ρ st hh, Rel g Z ρ st hh σ' H' ∧ whileL mc m1 n st hh = some r ∧ Post g Z H' D r, fun σ' H' h => ⟨n, Nat.lt_succ_self n, h⟩, Z1, ρ1, st, h1, q, R1, e4, ?_⟩⟩
      cases q with
      | nx st' hh' => exact fun Z2 ρ2 σ2 H2 R2 S2 => ⟨Z2, ρ2, st', hh', R2, e5, P.later (G1.stay.trans S2)⟩
      | rt e hh' =>
        cases e5
        exact P
    · rename_i hd
      have hd : d = .bool false := hd
      subst hd
      cases e3
      exact ⟨Z, ρ, st, hh, false, h1, R, e2, fun Z1 ρ1 H1 R1 G1 => iteF (P Z1 ρ1 σ H1 R1 G1.stay)⟩
    · cases e3
end

/-! ### wrappers -/
def fz (i : Nat) (st : List Sl) : List Sl := match st[i]? with
  | some (.own o) => st.set i (.val (.d o.d))
  | _ => st
def fzs : List Nat → List Sl → List Sl
  | [], st => st
  | i :: is, st => fzs is (fz i st)
def sFz (is : List Nat) (m : Sv) : Sv := fun st hh => m (fzs is st) hh
def sPr (i : Nat) (m : Sv) : Sv := fun st hh => match st[i]? with
  | some (.own o) => m (st.set i (.val (.ref hh.length))) (hh ++ [o])
  | _ => none
section
variable {g : G} {Z : Addr → Prop} {ρ : List Addr} {st : List Sl} {hh : Hh} {σ : L2.St} {H : Hp}
theorem Rel.unset (R : Rel g Z ρ st hh σ H) (i : Nat) : Rel g Z ρ (st.set i .un) hh σ H where
  grow := R.grow
  heap := R.heap
  len := by rw [List.length_set]; exact R.len
  slv := fun j v h => by
    by_cases e : i = j
    · subst e
      have hlt : i < st.length := by
        have := (List.getElem?_eq_some_iff.mp h).1
        rwa [List.length_set] at this
      rw [List.getElem?_set_self hlt] at h; cases h
    · rw [List.getElem?_set_ne e] at h; exact R.slv j v h
  slo := fun j v h => by
    by_cases e : i = j
    · subst e
      have hlt : i < st.length := by
        have := (List.getElem?_eq_some_iff.mp h).1
        rwa [List.length_set] at this
      rw [List.getElem?_set_self hlt] at h; cases h
    · rw [List.getElem?_set_ne e] at h; exact R.slo j v h
  sld := fun j k w w' a hjk h1 h2 => by
    have e1 : i ≠ j := fun e => by
      subst e
      have hlt : i < st.length := by
        have := (List.getElem?_eq_some_iff.mp h1).1
        rwa [List.length_set] at this
      rw [List.getElem?_set_self hlt] at h1; cases h1
    have e2 : i ≠ k := fun e => by
      subst e
      have hlt : i < st.length := by
        have := (List.getElem?_eq_some_iff.mp h2).1
        rwa [List.length_set] at this
      rw [List.getElem?_set_self hlt] at h2; cases h2
    rw [List.getElem?_set_ne e1] at h1
    rw [List.getElem?_set_ne e2] at h2
    exact R.sld j k w w' a hjk h1 h2
theorem Rel.freshUn (R : Rel g Z ρ st hh σ H) {i : Nat} {o : Ob} {a : Addr} (h : st[i]? = some (.own o)) (e : σ[i]? = some (some (.ref a))) : Fresh (st.set i .un) σ a := fun k w h1 h2 => by
  have e1 : i ≠ k := fun e => by
    subst e
    have hlt : i < st.length := (List.getElem?_eq_some_iff.mp h).1
    rw [List.getElem?_set_self hlt] at h1; cases h1
  rw [List.getElem?_set_ne e1] at h1
  exact R.sld i k o w a e1 h h1 e h2
theorem List.set_same_of {α : Type} {l : List α} {i : Nat} {x : α} (h : l[i]? = some x) : l.set i x = l := by
  apply List.ext_getElem?
  intro j
  by_cases e : i = j
  · subst e
    rw [List.getElem?_set_self (List.getElem?_eq_some_iff.mp h).1, h]
  · rw [List.getElem?_set_ne e]
theorem Rel.fz (R : Rel g Z ρ st hh σ H) (i : Nat) : ∃ Z', Rel g Z' ρ (fz i st) hh σ H ∧ Stay Z H Z' H := by
  unfold FF.fz
  split
  · rename_i o ho
    obtain ⟨a, h1, r, z, n, f⟩ := R.slo i o ho
    have R1 := (R.unset i).freeze r z n f (R.freshUn ho h1)
    have R2 := R1.set (e := .v (.d o.d)) (x := .ref a) r.freeze i
    rw [List.set_set, List.set_same_of h1] at R2
    exact ⟨_, R2, fun _ h => .inl h, fun _ _ _ h => h⟩
  · exact ⟨Z, R, Stay.refl _ _⟩
theorem Rel.fzs : ∀ {is : List Nat} {Z : Addr → Prop} {st : List Sl}, Rel g Z ρ st hh σ H → ∃ Z', Rel g Z' ρ (fzs is st) hh σ H ∧ Stay Z H Z' H
  | [], Z, _, R => ⟨Z, R, Stay.refl _ _⟩
  | i :: is, Z, st, R => by
    obtain ⟨Z1, R1, S1⟩ := R.fz i
    obtain ⟨Z2, R2, S2⟩ := Rel.fzs (is := is) R1
    exact ⟨Z2, R2, S1.trans S2⟩
theorem s_fz {X : Cx} {s : Stmt} {m : Sv} (is : List Nat) (h : PS X s (sI g m)) : PS X s (sI g (sFz is m)) := by
  refine PSw h fun D σ H ⟨Z, ρ, st, hh, r, R, e1, P⟩ => ?_
  obtain ⟨Z1, R1, S1⟩ := Rel.fzs (is := is) R
  exact ⟨Z1, ρ, _, hh, r, R1, e1, P.later S1⟩
theorem Rel.pr (R : Rel g Z ρ st hh σ H) {i : Nat} {o : Ob} (h : st[i]? = some (.own o)) : ∃ a, σ[i]? = some (some (.ref a)) ∧ Rel g Z (ρ ++ [a]) (st.set i (.val (.ref hh.length))) (hh ++ [o]) σ H := by
  obtain ⟨a, h1, r, z, n, f⟩ := R.slo i o h
  refine ⟨a, h1, ?_⟩
  have R1 := R.unset i
  have fr := R.freshUn h h1
  have R2 : Rel g Z (ρ ++ [a]) (st.set i .un) (hh ++ [o]) σ H := by
    refine ⟨⟨R.grow.z, R.grow.rd, R.grow.fr, ?_⟩, ⟨by rw [List.length_append, List.length_append, R.heap.len] <;> rfl, fun k b w k1 k2 => ?_, ?_, R.heap.zt⟩, R1.len, fun j v hv => ?_, fun j w hw => ?_, R1.sld⟩
    · obtain ⟨more, e, nn⟩ := R.grow.pre
      refine ⟨more ++ [a], by rw [e, List.append_assoc], fun b hb => ?_⟩
      rcases List.mem_append.mp hb with hb | hb
      · exact nn b hb
      · rw [List.mem_singleton.mp hb]; exact f
    · by_cases hk : k < ρ.length
      · rw [List.getElem?_append_left hk] at k1
        rw [List.getElem?_append_left (by rw [← R.heap.len]; exact hk)] at k2
        exact R.heap.at_ k b w k1 k2
      · rw [List.getElem?_append_right (by omega)] at k1
        rw [List.getElem?_append_right (by rw [← R.heap.len]; omega)] at k2
        have e0 : k - ρ.length = 0 := by
          have := (List.getElem?_eq_some_iff.mp k1).1
          simp at this
          omega
        rw [e0] at k1
        rw [← R.heap.len, e0] at k2
        cases k1; cases k2
        exact ⟨r, z⟩
    · rw [List.nodup_append]
      refine ⟨R.heap.nd, by simp, fun x hx y hy e => ?_⟩
      rw [List.mem_singleton.mp hy] at e
      rw [e] at hx
      exact n hx
    · obtain ⟨x, q1, q2⟩ := R1.slv j v hv
      refine ⟨x, q1, ?_⟩
      cases v with
      | d d => exact q2
      | ref k =>
        obtain ⟨b, q3, q4⟩ := q2
        exact ⟨b, by rw [List.getElem?_append_left (List.getElem?_eq_some_iff.mp q3).1]; exact q3, q4⟩
    · obtain ⟨b, q1, q2, q3, q4, q5⟩ := R1.slo j w hw
      refine ⟨b, q1, q2, q3, fun hm => ?_, q5⟩
      rcases List.mem_append.mp hm with hm | hm
      · exact q4 hm
      · rw [List.mem_singleton.mp hm] at q1
        exact fr j w hw q1
  have R3 := R2.set (e := .v (.ref hh.length)) (x := .ref a) ⟨a, by rw [← R.heap.len, List.getElem?_append_right (Nat.le_refl _), Nat.sub_self] <;> rfl, rfl⟩ i
  rw [List.set_set, List.set_same_of h1] at R3
  exact R3
theorem s_pr {X : Cx} {s : Stmt} {m : Sv} (i : Nat) (h : PS X s (sI g m)) : PS X s (sI g (sPr i m)) := by
  refine PSw h fun D σ H ⟨Z, ρ, st, hh, r, R, e1, P⟩ => ?_
  unfold sPr at e1
  split at e1
  · rename_i o ho
    obtain ⟨a, _, R1⟩ := R.pr ho
    exact ⟨Z, _, _, _, r, R1, e1, P⟩
  · cases e1
end
/-! ### writing -/
section
variable {g : G} {Z : Addr → Prop} {ρ : List Addr} {st : List Sl} {hh : Hh} {σ : L2.St} {H : Hp}
/-- an own thing in a slot is written -/
theorem Rel.write (R : Rel g Z ρ st hh σ H) {i : Nat} {o o' : Ob} {a : Addr} {u : HO} (h : st[i]? = some (.own o)) (e : σ[i]? = some (some (.ref a))) (new : RepOb g.K Z (upd H a u) o' a) : Rel g Z ρ (st.set i (.own o')) hh σ (upd H a u) ∧ Stay Z H Z (upd H a u) := by
  obtain ⟨a', h1, r, z, n, f⟩ := R.slo i o h
  rw [e] at h1; cases h1
  have S : Stay Z H Z (upd H a u) := ⟨fun _ h => h, fun b w zb rb => by
    have ne : b ≠ a := fun e => z (e ▸ zb)
    rcases rb with rb | ⟨q, rb⟩
    · exact .inl (by rw [upd_ne ne]; exact rb)
    · exact .inr ⟨q, by rw [upd_ne ne]; exact rb⟩⟩
  refine ⟨?_, S⟩
  have ob : ∀ {w : Ob} {b : Addr}, b ≠ a → RepOb g.K Z H w b → RepOb g.K Z (upd H a u) w b := fun {w b} ne q => by
    cases w with
    | lst xs => obtain ⟨vs, q1, q2⟩ := q; exact ⟨vs, by rw [upd_ne ne]; exact q1, q2.mono S.z S.rd⟩
    | dct xs => obtain ⟨vs, q1, q2⟩ := q; exact ⟨vs, by rw [upd_ne ne]; exact q1, q2.mono S.z S.rd⟩
  have R1 := R.unset i
  have fr := R.freshUn h e
  have R2 : Rel g Z ρ (st.set i .un) hh σ (upd H a u) := by
    refine ⟨⟨R.grow.z, fun b w zb rb => S.rd b w (R.grow.z b zb) (R.grow.rd b w zb rb), fun b w hb zb nb => ?_, R.grow.pre⟩, ⟨R.heap.len, fun k b w k1 k2 => ?_, R.heap.nd, fun b zb => ?_⟩, R1.len, fun j v hv => ?_, fun j w hw => ?_, R1.sld⟩
    · obtain ⟨q1, q2⟩ := R.grow.fr b w hb zb nb
      refine ⟨?_, q2⟩
      rw [upd_ne (fun e => by rw [e, f] at hb; cases hb)]
      exact q1
    · obtain ⟨q1, q2⟩ := R.heap.at_ k b w k1 k2
      exact ⟨ob (fun e => n (e ▸ List.mem_of_getElem? k1)) q1, q2⟩
    · have ne : b ≠ a := fun e => z (e ▸ zb)
      rw [upd_ne ne]
      exact R.heap.zt b zb
    · obtain ⟨x, q1, q2⟩ := R1.slv j v hv
      refine ⟨x, q1, ?_⟩
      cases v with
      | d d => exact DZ.mono S.z S.rd q2
      | ref k => exact q2
    · obtain ⟨b, q1, q2, q3, q4, q5⟩ := R1.slo j w hw
      refine ⟨b, q1, ob (fun e => ?_) q2, q3, q4, q5⟩
      rw [e] at q1
      exact fr j w hw q1
  have R3 := R2.set (e := .o o') (x := .ref a) ⟨a, rfl, ⟨new, z, n, f⟩, fr⟩ i
  rw [List.set_set, List.set_same_of e] at R3
  exact R3
/-- a thing of the heap is written -/
theorem Rel.writeH (R : Rel g Z ρ st hh σ H) {n : Nat} {o' : Ob} {a : Addr} {u : HO} (h : ρ[n]? = some a) (new : RepOb g.K Z (upd H a u) o' a) : Rel g Z ρ st (hh.set n o') σ (upd H a u) ∧ Stay Z H Z (upd H a u) := by
  have ha : a ∈ ρ := List.mem_of_getElem? h
  have z : ¬ Z a := R.heap.notZ ha
  have S : Stay Z H Z (upd H a u) := ⟨fun _ h => h, fun b w zb rb => by
    have ne : b ≠ a := fun e => z (e ▸ zb)
    rcases rb with rb | ⟨q, rb⟩
    · exact .inl (by rw [upd_ne ne]; exact rb)
    · exact .inr ⟨q, by rw [upd_ne ne]; exact rb⟩⟩
  refine ⟨?_, S⟩
  have ob : ∀ {w : Ob} {b : Addr}, b ≠ a → RepOb g.K Z H w b → RepOb g.K Z (upd H a u) w b := fun {w b} ne q => by
    cases w with
    | lst xs => obtain ⟨vs, q1, q2⟩ := q; exact ⟨vs, by rw [upd_ne ne]; exact q1, q2.mono S.z S.rd⟩
    | dct xs => obtain ⟨vs, q1, q2⟩ := q; exact ⟨vs, by rw [upd_ne ne]; exact q1, q2.mono S.z S.rd⟩
  have fr : Grow g.Z g.ρ g.H Z ρ (upd H a u) := by
    refine ⟨R.grow.z, fun b w zb rb => S.rd b w (R.grow.z b zb) (R.grow.rd b w zb rb), fun b w hb zb nb => ?_, R.grow.pre⟩
    obtain ⟨q1, q2⟩ := R.grow.fr b w hb zb nb
    refine ⟨?_, q2⟩
    have ne : b ≠ a := fun e => by
      obtain ⟨more, em, nn⟩ := R.grow.pre
      rw [em] at ha
      rcases List.mem_append.mp ha with ha | ha
      · exact nb (e ▸ ha)
      · rw [e, nn a ha] at hb; cases hb
    rw [upd_ne ne]
    exact q1
  refine ⟨fr, ⟨by rw [List.length_set]; exact R.heap.len, fun k b w k1 k2 => ?_, R.heap.nd, fun b zb => ?_⟩, R.len, fun j v hv => ?_, fun j w hw => ?_, R.sld⟩
  · by_cases e : n = k
    · subst e
      rw [h] at k1; cases k1
      have hlt : n < hh.length := by rw [← R.heap.len]; exact (List.getElem?_eq_some_iff.mp h).1
      rw [List.getElem?_set_self hlt] at k2
      cases k2
      exact ⟨new, z⟩
    · rw [List.getElem?_set_ne e] at k2
      obtain ⟨q1, q2⟩ := R.heap.at_ k b w k1 k2
      refine ⟨ob (fun eb => ?_) q1, q2⟩
      subst eb
      have l1 := (List.getElem?_eq_some_iff.mp h).1
      have l2 := (List.getElem?_eq_some_iff.mp k1).1
      exact e ((List.getElem_inj R.heap.nd).mp ((List.getElem?_eq_some_iff.mp h).2.trans (List.getElem?_eq_some_iff.mp k1).2.symm))
  · have ne : b ≠ a := fun e => z (e ▸ zb)
    rw [upd_ne ne]
    exact R.heap.zt b zb
  · obtain ⟨x, q1, q2⟩ := R.slv j v hv
    refine ⟨x, q1, ?_⟩
    cases v with
    | d d => exact DZ.mono S.z S.rd q2
    | ref k => exact q2
  · obtain ⟨b, q1, q2, q3, q4, q5⟩ := R.slo j w hw
    exact ⟨b, q1, ob (fun e => q4 (e ▸ ha)) q2, q3, q4, q5⟩
end
end FF

set_option Elab.async false
set_option linter.all false
set_option maxRecDepth 100000
set_option maxHeartbeats 1000000
set_option autoImplicit false
/-! FFMut: append, d[k] = v, and the shared list (cup). -/
namespace FF
open PySem PySem.Spec PyProof.Rows L2
/-- x.append(e) -/
def sApp (i : Nat) (m : Dv) : Sv := fun st hh => (m st hh).bind fun r => match st[i]? with
  | some (.own (.lst xs)) => if fits (xs.length + 1) then some (.nx (st.set i (.own (.lst (xs ++ [r.1])))) r.2) else none
  | _ => none
/-- x[k] = e, a dict of numbers and texts -/
def sDput (i : Nat) (mk mv : Dv) : Sv := fun st hh => (mv st hh).bind fun v => (mk st v.2).bind fun k => match st[i]? with
  | some (.own (.dct kvs)) => if (toKey k.1).isSome && fits (kvs.length + 1) then some (.nx (st.set i (.own (.dct (dput kvs k.1 v.1)))) k.2) else none
  | _ => none
/-- x[k], x a shared thing -/
def eIxR (i : Nat) (mk : Dv) : Ev := fun st hh => match st[i]? with
  | some (.val (.ref n)) => (mk st hh).bind fun r => (r.2[n]?).bind fun o => (bIx o.d r.1).map fun e => (e, r.2)
  | _ => none
/-- x[k] = e, x a shared list -/
def sIxR (i : Nat) (mk mv : Dv) : Sv := fun st hh => match st[i]? with
  | some (.val (.ref n)) => (mv st hh).bind fun v => (mk st v.2).bind fun k => match k.1, k.2[n]? with
    | .int j, some (.lst xs) => if 0 ≤ j ∧ j < xs.length then some (.nx st (k.2.set n (.lst (xs.set j.toNat v.1)))) else none
    | _, _ => none
  | _ => none
/-- x[k] = e, x a list of one's own -/
def sIxO (i : Nat) (mk mv : Dv) : Sv := fun st hh => (mv st hh).bind fun v => (mk st v.2).bind fun k => match k.1, st[i]? with
  | .int j, some (.own (.lst xs)) => if 0 ≤ j ∧ j < xs.length then some (.nx (st.set i (.own (.lst (xs.set j.toNat v.1)))) k.2) else none
  | _, _ => none
section
variable {X : Cx} {g : G} {e k : Expr} {m mk mv : Ev} {pos pos' p apos cpos : Pos} {x : Str}
theorem s_app (i : Nat) (O : Ox g X) (hN : X.N[i]? = some x) (hv : Vis X.env.scope x) (hd : (x == ("__debug__" : Str)) = false) (hcd : (x == ("__classdict__" : Str)) = false) (he : PE X e (tI g m))
    (hbase : attributeBase (.Name x p) "append" X.env (eval (.Name x p) X.env) = eval (.Name x p) X.env := by rfl)
    (hfew : ((backTo cpos (starEach [e] X.env)).all (fun x => !x.1) && (backToKw cpos (keywordEach [] X.env)).all (fun x => x.1.isSome)
      && decide ([e].length + ([] : List Keyword).length + (if ([] : List Keyword).isEmpty then 0 else 1) < 30)) = true := by rfl)
    (hline : (apos.endLine == cpos.line) = true := by rfl) (hs : starEach [e] X.env = (false, eval e X.env) :: starEach [] X.env := by rfl) (hplain : (backTo cpos (starEach [] X.env)).any (·.1) = false := by rfl)
    (hsw : swapsWith (.Call (.Attribute (.Name x p) "append" apos) [e] [] cpos) none pos.line X.env = pure false := by rfl) :
    PS X (.Expr (.Call (.Attribute (.Name x p) "append" apos) [e] [] cpos) pos) (sI g (sApp i (dv m))) := by
  refine PSw (ps_expr (pe_bm PySem.F.plainAttrs_list PySem.F.slot_list_append PySem.F.type_list_append mt_append (pe_var hN hv hd hcd) (pa_cons (pe_d he) pa_nil hs) hbase hfew hline hs hplain) hsw) fun D σ H ⟨Z, ρ, st, hh, r, R, e1, P⟩ => ?_
  obtain ⟨⟨d, h1⟩, e2, e3⟩ := Option.bind_eq_some_iff.mp e1
  split at e3
  · rename_i xs ho
    split at e3
    · rename_i c
      cases e3
      obtain ⟨a, h2, r0, z, n, f⟩ := R.slo i _ ho
      obtain ⟨vs, q1, q2⟩ := r0
      refine ⟨.ref a, h2, .inl ⟨rfl, vs, .inl (.inl q1)⟩, Z, ρ, st, hh, d, h1, R, e2, fun Z1 ρ1 y H1 R1 G1 D1 => ?_⟩
      obtain ⟨a', h2', r1, z1, n1, f1⟩ := R1.slo i _ ho
      rw [h2] at h2'; cases h2'
      obtain ⟨vs1, q3, q4⟩ := r1
      refine ⟨a, vs1, y, rfl, rfl, q3, ?_, ?_⟩
      · have := fits_iff.mp c
        rw [q4.length]; omega
      · have S : ∀ b w, Z1 b → Rd H1 b w → Rd (upd H1 a (.lst (vs1 ++ [y]))) b w := fun b w zb rb => by
          have ne : b ≠ a := fun e => z1 (e ▸ zb)
          rcases rb with rb | ⟨q, rb⟩
          · exact .inl (by rw [upd_ne ne]; exact rb)
          · exact .inr ⟨q, by rw [upd_ne ne]; exact rb⟩
        obtain ⟨R2, S2⟩ := R1.write (o' := .lst (xs ++ [d])) (u := .lst (vs1 ++ [y])) ho h2 ⟨_, upd_same, (q4.mono (fun _ h => h) S).append (.cons (D1.mono (fun _ h => h) S) .nil)⟩
        exact P Z1 ρ1 σ _ R2 (G1.stay.trans S2)
    · cases e3
  · cases e3
theorem s_dput (i : Nat) (O : Ox g X) (hN : X.N[i]? = some x) (hv : Vis X.env.scope x) (hd : (x == ("__debug__" : Str)) = false) (hcd : (x == ("__classdict__" : Str)) = false) (hk : PE X k (tI g mk)) (he : PE X e (tI g mv))
    (hs : swapsWith e (some (.Subscript (.Name x p) k pos')) pos.line X.env = pure false := by rfl) : PS X (.Assign [.Subscript (.Name x p) k pos'] e pos) (sI g (sDput i (dv mk) (dv mv))) := by
  have un := O.un
  refine PSw (ps_dput (by omega) (pe_var hN hv hd hcd) (pe_d hk) (pe_d he) hs) fun D σ H ⟨Z, ρ, st, hh, r, R, e1, P⟩ => ?_
  obtain ⟨⟨d, h1⟩, e2, e3⟩ := Option.bind_eq_some_iff.mp e1
  obtain ⟨⟨kd, h3⟩, e4, e5⟩ := Option.bind_eq_some_iff.mp e3
  split at e5
  · rename_i kvs ho
    split at e5
    · rename_i c
      rw [Bool.and_eq_true] at c
      cases e5
      obtain ⟨a, h2, r0, z, n, f⟩ := R.slo i _ ho
      refine ⟨Z, ρ, st, hh, d, h1, R, e2, fun Z1 ρ1 y H1 R1 G1 D1 => ⟨.ref a, h2, Z1, ρ1, st, h1, kd, h3, R1, e4, fun Z2 ρ2 ky H2 R2 G2 D2 => ?_⟩⟩
      obtain ⟨a', h2', r1, z1, n1, f1⟩ := R2.slo i _ ho
      rw [h2] at h2'; cases h2'
      obtain ⟨ks, q3, q4⟩ := r1
      obtain ⟨key, hkey⟩ := Option.isSome_iff_exists.mp c.1
      have hkey := toKey_kD hkey
      have hkey : kd = kD key := hkey
      subst hkey
      have hy : ky = kV key := by
        rcases key with key | key
        · cases D2; rfl
        · cases D2; rfl
      subst hy
      refine ⟨a, _, rfl, DPut.k q3 (by rw [q4.length]; have := fits_iff.mp c.2; omega), ?_⟩
      have S : ∀ b w, Z2 b → Rd H2 b w → Rd (upd H2 a (.dK (putK ks key y))) b w := fun b w zb rb => by
        have ne : b ≠ a := fun e => z1 (e ▸ zb)
        rcases rb with rb | ⟨q, rb⟩
        · exact .inl (by rw [upd_ne ne]; exact rb)
        · exact .inr ⟨q, by rw [upd_ne ne]; exact rb⟩
      obtain ⟨R3, S3⟩ := R2.write (o' := .dct (dput kvs (kD key) d)) (u := .dK (putK ks key y)) ho h2 ⟨_, upd_same, (q4.mono (fun _ h => h) S).put key ((D1.grow G2).mono (fun _ h => h) S)⟩
      exact P Z2 ρ2 σ _ R3 ((G1.stay.trans G2.stay).trans S3)
    · cases e5
  · cases e5
theorem RepOb.c {Z : Addr → Prop} {ρ : List Addr} {H : Hp} {o : Ob} {a : Addr} (h : RepOb g.K Z H o a) (z : ¬ Z a) : RepC g Z [] H o.d (.ref a) := .inr ⟨a, o, rfl, rfl, h, z, fun h => nomatch h⟩
theorem x_ixR (i : Nat) (O : Ox g X) (hN : X.N[i]? = some x) (hv : Vis X.env.scope x) (hd : (x == ("__debug__" : Str)) = false) (hcd : (x == ("__classdict__" : Str)) = false) (hk : PE X k (tI g mk)) (hs : PlainIx k := by intro _ _; rfl) :
    PE X (.Subscript (.Name x p) k pos) (tI g (eIxR i (dv mk))) := by
  refine PEw (pe_ix (ix_ok O) (pe_var hN hv hd hcd) (pe_c hk) hs) fun σ H Q ⟨Z, ρ, st, hh, w, hh', R, e1, P⟩ => ?_
  unfold eIxR at e1
  split at e1
  · rename_i n hn
    obtain ⟨⟨d, h1⟩, e2, e3⟩ := Option.bind_eq_some_iff.mp e1
    obtain ⟨o, e4, e5⟩ := Option.bind_eq_some_iff.mp e3
    obtain ⟨w', e6, e7⟩ := Option.map_eq_some_iff.mp e5
    cases e7
    obtain ⟨y, q1, a, q2, rfl⟩ := R.slv i _ hn
    refine ⟨_, q1, Z, ρ, st, hh, d, h1, R, e2, fun Z1 ρ1 ky H1 R1 G1 D1 => ?_⟩
    have q3 : ρ1[n]? = some a := by
      obtain ⟨more, em, _⟩ := G1.pre
      rw [em, List.getElem?_append_left (List.getElem?_eq_some_iff.mp q2).1]
      exact q2
    obtain ⟨r1, z1⟩ := R1.heap.at_ n a o q3 e4
    refine ⟨Z1, [], o.d, d, w, R1.heap.zt, (fun _ h => nomatch h), r1.c (ρ := ρ1) z1, ?_, e6, fun Z2 z H2 pu rv => ?_⟩
    · rcases D1 with D1 | ⟨b, u, q⟩
      · exact .inl D1
      · obtain ⟨q4, q5, q6, q7, _⟩ := q
        exact .inr ⟨b, u, q4, q5, q6, q7, fun h => nomatch h⟩
    · refine P Z2 ρ1 z H2 (R1.pure pu) (G1.trans R1.heap (pu.grow ρ1)) ?_
      cases w with
      | v y => cases y with
        | d y => exact rv
        | ref k' =>
          obtain ⟨b, hb, _⟩ := rv
          simp at hb
      | o u =>
        exfalso
        unfold bIx at e6
        split at e6
        · obtain ⟨_, _, h⟩ := Option.map_eq_some_iff.mp e6; cases h
        · obtain ⟨_, _, h⟩ := Option.map_eq_some_iff.mp e6; cases h
        · split at e6
          · obtain ⟨_, _, h⟩ := Option.map_eq_some_iff.mp e6; cases h
          · cases e6
        · split at e6
          · obtain ⟨_, _, h⟩ := Option.map_eq_some_iff.mp e6; cases h
          · cases e6
        · cases e6
  · cases e1
theorem s_ixR (i : Nat) (O : Ox g X) (hN : X.N[i]? = some x) (hv : Vis X.env.scope x) (hd : (x == ("__debug__" : Str)) = false) (hcd : (x == ("__classdict__" : Str)) = false) (hk : PE X k (tI g mk)) (he : PE X e (tI g mv))
    (ha : ∀ v, assign (.Subscript (.Name x p) k pos') X.env v = (do
      let ov ← holding [v] (eval (.Name x p) X.env)
      let iv ← holding [v, ov] (eval k X.env)
      standAt pos'
      holding [v, ov, iv] (setItem ov iv v)
      release [v, ov, iv] []) := by intro _; rfl)
    (hs : swapsWithSole [.Subscript (.Name x p) k pos'] e pos.line X.env = pure false := by rfl) (hw : swappedStores [.Subscript (.Name x p) k pos'] e X.env = pure none := by rfl)
    (h1 : (assignEach [.Subscript (.Name x p) k pos'] X.env).map (·.2) = [assign (.Subscript (.Name x p) k pos') X.env] := by rfl) : PS X (.Assign [.Subscript (.Name x p) k pos'] e pos) (sI g (sIxR i (dv mk) (dv mv))) := by
  refine PSw (ps_asg (pe_d he) (pg_sub (pe_var hN hv hd hcd) (pe_d hk) set_list ha) hs hw h1) fun D σ H ⟨Z, ρ, st, hh, r, R, e1, P⟩ => ?_
  unfold sIxR at e1
  split at e1
  · rename_i n hn
    obtain ⟨⟨d, h2⟩, e2, e3⟩ := Option.bind_eq_some_iff.mp e1
    obtain ⟨⟨kd, h3⟩, e4, e5⟩ := Option.bind_eq_some_iff.mp e3
    split at e5
    · rename_i j xs hj hx
      split at e5
      · rename_i c
        cases e5
        have hj : kd = .int j := hj
        subst hj
        obtain ⟨y, q1, a, q2, rfl⟩ := R.slv i _ hn
        refine ⟨Z, ρ, st, hh, d, h2, R, e2, fun Z1 ρ1 y H1 R1 G1 D1 => ⟨_, q1, Z1, ρ1, st, h2, _, h3, R1, e4, fun Z2 ρ2 ky H2 R2 G2 D2 => ?_⟩⟩
        cases D2
        have q3 : ρ2[n]? = some a := by
          obtain ⟨more, em, _⟩ := (G1.trans R1.heap G2).pre
          rw [em, List.getElem?_append_left (List.getElem?_eq_some_iff.mp q2).1]
          exact q2
        obtain ⟨⟨vs, r1, r2⟩, z1⟩ := R2.heap.at_ n a _ q3 hx
        refine ⟨a, vs, j, j.toNat, rfl, rfl, r1, ?_, ?_⟩
        · unfold ixN
          rw [if_pos c.1, if_pos (by rw [r2.length]; exact c.2)]
        · have S : ∀ b w, Z2 b → Rd H2 b w → Rd (upd H2 a (.lst (vs.set j.toNat y))) b w := fun b w zb rb => by
            have ne : b ≠ a := fun e => z1 (e ▸ zb)
            rcases rb with rb | ⟨q, rb⟩
            · exact .inl (by rw [upd_ne ne]; exact rb)
            · exact .inr ⟨q, by rw [upd_ne ne]; exact rb⟩
          obtain ⟨R3, S3⟩ := R2.writeH (o' := .lst (xs.set j.toNat d)) (u := .lst (vs.set j.toNat y)) q3 ⟨_, upd_same, (r2.mono (fun _ h => h) S).set _ ((D1.grow G2).mono (fun _ h => h) S)⟩
          exact P Z2 ρ2 σ _ R3 ((G1.stay.trans G2.stay).trans S3)
      · cases e5
    · cases e5
  · cases e1
end
end FF

set_option Elab.async false
set_option linter.all false
set_option maxRecDepth 100000
set_option maxHeartbeats 1000000
set_option autoImplicit false
/-! FFIter: lists, tuples and texts as sources; zip and enumerate over any of them. -/
namespace FF
open PySem PySem.Spec PyProof.Rows L2

inductive Src where
  | lst (a : Addr)
  | tup (a : Addr)
  | str (x : Str) (t : Tok)
def Src.fp : Src → List Addr
  | .lst a => [a]
  | .tup a => [a]
  | .str _ _ => []
def Src.itr : Src → Heap → Addr → Nat → Prop
  | .lst a, h, it, i => h.IsListIter it a i
  | .tup a, h, it, i => h.IsTupleIter it a i
  | .str x t, h, it, i => h.IsStrIter it (strIterType x) x t i
def signs (x : Str) : List V := x.cps.toList.map fun c => .str ⟨#[c]⟩
def Src.ok (K : PySem.W.Frag) : Src → Hp → List V → Prop
  | .lst a, H, xs => SqL K H a xs
  | .tup a, H, xs => SqT K H a xs
  | .str x _, _, xs => xs = signs x
def Src.val : Src → Value
  | .lst a => .ref a
  | .tup a => .ref a
  | .str x t => .str x t
def Src.obj : Src → Obj
  | .lst a => { cls := .type "list_iterator", data := .fields #[.ref a, .int 0 0] }
  | .tup a => { cls := .type "tuple_iterator", data := .fields #[.ref a, .int 0 0] }
  | .str x t => { cls := .type (strIterType x), data := .fields #[.str x t, .int 0 0] }
theorem Src.itr_obj {c : Src} {h : Heap} {it : Addr} {i : Nat} (st : c.itr h it i) : ∃ o, h.get? it = some o ∧ ∀ v, o.data ≠ .cell v := by
  cases c with
  | lst a => obtain ⟨o, e, _, d⟩ := st; exact ⟨o, e, fun v z => by rw [d] at z; cases z⟩
  | tup a => obtain ⟨o, e, _, d⟩ := st; exact ⟨o, e, fun v z => by rw [d] at z; cases z⟩
  | str x t => obtain ⟨o, e, _, d⟩ := st; exact ⟨o, e, fun v z => by rw [d] at z; cases z⟩
theorem Src.itr_keep {c : Src} {h h' : Heap} {it : Addr} {i : Nat} (st : c.itr h it i) (k : ∀ o, h.get? it = some o → h'.get? it = some o) : c.itr h' it i := by
  cases c with
  | lst a => exact st.at fun o e => k o e
  | tup a => exact st.at fun o e => k o e
  | str x t => obtain ⟨o, e, r⟩ := st; exact ⟨o, k o e, r⟩
theorem Src.itr_new {c : Src} {h : Heap} {it : Addr} (e : h.get? it = some c.obj) : c.itr h it 0 := by
  cases c with
  | lst a => exact ⟨_, e, rfl, rfl⟩
  | tup a => exact ⟨_, e, rfl, rfl⟩
  | str x t => exact ⟨_, e, rfl, rfl⟩
section
variable {X : Cx} {pins : List (Addr × Obj)} {σ : L2.St} {H : Hp} {s : Shared} {xs : List V}
theorem Src.draws {c : Src} {it : Addr} (hh : X.A.handled = none) (I : Inv X pins σ H s) (ok : c.ok X.K H xs) (hne : it ∉ c.fp) :
    ∃ (P : Nat → Value → Prop) (St : Nat → Heap → Prop), Draws X.prog X.w X.A.in1 it (it :: c.fp) xs.length P St ∧ (∀ i, c.itr s.heap it i → St i s.heap) ∧ (∀ i v, P i v → ∃ x, xs[i]? = some x ∧ RelV x v) ∧ ∀ i h, St i h → c.itr h it i := by
  cases c with
  | lst a =>
    obtain ⟨its, rv, p, _⟩ := I.list ok
    have D := Draws.list (prog := X.prog) (w := X.w) (A := X.A.in1) hh it a (fun e => hne (by simp [Src.fp, e])) its.toArray
    have e : its.toArray.size = xs.length := by simpa using rv.length.symm
    rw [e] at D
    refine ⟨_, _, D, fun i st => ⟨st, p.isList⟩, fun i v hv => ?_, fun i h st => st.1⟩
    have hv : its[i]? = some v := by simpa using hv
    have hlt : i < xs.length := by rw [rv.length]; exact (List.getElem?_eq_some_iff.mp hv).1
    obtain ⟨u, hu, ru⟩ := rv.get (List.getElem?_eq_getElem hlt)
    rw [hv] at hu; cases hu
    exact ⟨_, List.getElem?_eq_getElem hlt, ru⟩
  | tup a =>
    obtain ⟨its, rv, p, _⟩ := I.tuple ok
    have D := Draws.tuple (prog := X.prog) (w := X.w) (A := X.A.in1) hh it a (fun e => hne (by simp [Src.fp, e])) its.toArray
    have e : its.toArray.size = xs.length := by simpa using rv.length.symm
    rw [e] at D
    refine ⟨_, _, D, fun i st => ⟨st, p⟩, fun i v hv => ?_, fun i h st => st.1⟩
    have hv : its[i]? = some v := by simpa using hv
    have hlt : i < xs.length := by rw [rv.length]; exact (List.getElem?_eq_some_iff.mp hv).1
    obtain ⟨u, hu, ru⟩ := rv.get (List.getElem?_eq_getElem hlt)
    rw [hv] at hu; cases hu
    exact ⟨_, List.getElem?_eq_getElem hlt, ru⟩
  | str x t =>
    have ok : xs = signs x := ok
    subst ok
    have D := Draws.text (prog := X.prog) (w := X.w) (A := X.A.in1) hh it x t
    have e : x.cps.size = (signs x).length := by simp [signs]
    rw [e] at D
    refine ⟨_, _, D, fun i st => st, fun i v hv => ?_, fun i h st => st⟩
    obtain ⟨k, u, h1, rfl⟩ := hv
    refine ⟨.str ⟨#[k]⟩, ?_, u, rfl⟩
    simp [signs, h1]
end
/-- the rows of a walk, each a new tuple -/
def ItP (n : Nat) (G : Hp → Prop) (row : Nat → List V) : It :=
  ⟨fun i H => G H ∧ i < n, fun i H v H' => ∃ T, v = .ref T ∧ H T = none ∧ H' = upd H T (.tup (row i)), fun i H => G H ∧ n = i⟩
def rowE (xs : List V) (i : Nat) : List V := [.int (i : Nat), xs.getD i .non]
def rowZ (xs ys : List V) (i : Nat) : List V := [xs.getD i .non, ys.getD i .non]
def rowZ3 (xs ys zs : List V) (i : Nat) : List V := [xs.getD i .non, ys.getD i .non, zs.getD i .non]
theorem getD_of {xs : List V} {i : Nat} {x : V} (h : xs[i]? = some x) : xs.getD i .non = x := by simp [List.getD, h]
theorem turn_zip2 {P : Program} {w : World} {K : PySem.W.Frag} {elts : List Expr} {kk : Nat} {tpos : Pos} {c1 c2 : Src} {xs ys : List V} {z TI TO i1 i2 : Addr} (D : ZipSep2 z TI TO i1 i2 (i1 :: c1.fp) (i2 :: c2.fp)) (n1 : i1 ∉ c1.fp) (n2 : i2 ∉ c2.fp) :
    Turn P w K (.Tuple elts kk tpos) (ItP (min xs.length ys.length) (fun H => c1.ok K H xs ∧ c2.ok K H ys) (rowZ xs ys)) [z, TI, TO, i1, i2] z
      (fun i h => IsZip h z TI TO .none ∧ IsTupOf2 h TI (.ref i1) (.ref i2) ∧ (∃ x y, IsTupOf2 h TO x y) ∧ c1.itr h i1 i ∧ c2.itr h i2 i) where
  mem := by simp
  obj := fun i h st c hc => by
    obtain ⟨hz, hTI, ⟨x, y, hTO⟩, h1, h2⟩ := st
    have e' : c = z ∨ c = TI ∨ c = TO ∨ c = i1 ∨ c = i2 := by simpa using hc
    rcases e' with q | q | q | q | q
    · rw [q]; exact ⟨_, hz, fun v q => nomatch q⟩
    · rw [q]; exact ⟨_, hTI, fun v q => nomatch q⟩
    · rw [q]; exact ⟨_, hTO, fun v q => nomatch q⟩
    · rw [q]; exact (Src.itr_obj (c := c1) h1)
    · rw [q]; exact (Src.itr_obj (c := c2) h2)
  keep := fun i h h' st k => by
    obtain ⟨hz, hTI, ⟨x, y, hTO⟩, h1, h2⟩ := st
    exact ⟨k z (by simp) _ hz, k TI (by simp) _ hTI, ⟨x, y, k TO (by simp) _ hTO⟩, Src.itr_keep (c := c1) h1 fun o q => k i1 (by simp) o q, Src.itr_keep (c := c2) h2 fun o q => k i2 (by simp) o q⟩
  item := by
    intro X hP hw hK hc i pins s σ H E I hf st hg
    subst hP hw hK
    obtain ⟨hz, hTI, ⟨x0, y0, hTO⟩, h1, h2⟩ := st
    obtain ⟨⟨ok1, ok2⟩, hi⟩ := hg
    obtain ⟨P1, S1, D1, a1, b1, d1⟩ := Src.draws (it := i1) (I.ok.hd hc) I ok1 n1
    obtain ⟨P2, S2, D2, a2, b2, d2⟩ := Src.draws (it := i2) (I.ok.hd hc) I ok2 n2
    have hzl : z < s.heap.objs.size := Heap.lt_size hz
    refine wpAny_pyNext_zipD2_item D D1 D2 hz hTI hTO (a1 i h1) (a2 i h2) (by omega) (by omega) fun u u2 h' tk p1 p2 z' TO' s1' s2' hT hsz hk => ?_
    obtain ⟨x, hx, ru⟩ := b1 i u p1
    obtain ⟨y, hy, ru2⟩ := b2 i u2 p2
    refine ⟨_, rfl, wpAny_letOwnedTupleGo_zip (s := { s with heap := h', toks := tk }) z' fun h'' z'' sb => ?_⟩
    have hT2 : h''.get? s.heap.objs.size = some { cls := .type "tuple", data := .seq #[u, u2] } := (sb.2 _ (Nat.ne_of_gt hzl)).trans hT
    have er : rowZ xs ys i = [x, y] := by rw [rowZ, getD_of hx, getD_of hy]
    have new : ObjOk X.prog X.w (upd H s.heap.objs.size (.tup (rowZ xs ys i))) h'' s.heap.objs.size (.tup (rowZ xs ys i)) := by
      rw [er]
      exact ⟨by show 2 ≤ sizeLine; decide, [u, u2], .cons ru (.cons ru2 .nil), ⟨_, hT2, rfl, _, rfl⟩⟩
    have I1 : Inv X pins σ (upd H s.heap.objs.size (.tup (rowZ xs ys i))) { s with heap := h'', toks := tk } :=
      I.turnedNew (t' := tk) (ch := [z, TI, TO, i1, i2]) (fun c o hb q => (sb.2 c (fun q' => hb (by simp [q']))).trans (hk c o (fun q' => hb (by simp [q'])) (fun q' => hb (by simp [q'])) (fun q' => hb (by simp [q'])) (fun q' => hb (by simp [q'])) q)) hf (Nat.le_refl _) new
    refine ⟨.ref s.heap.objs.size, _, I1, rfl, ⟨_, rfl, I.hok.fresh (Nat.le_refl _), rfl⟩, ⟨z'', ?_, ⟨u, u2, ?_⟩, ?_, ?_⟩, fun c hcm => ?_⟩
    · exact (sb.2 _ D.TIz).trans (hk _ _ D.TIz D.TITO D.TIi1 D.TIi2 hTI)
    · exact (sb.2 _ D.TOz).trans TO'
    · exact Src.itr_keep (c := c1) (d1 _ _ s1') fun o q => (sb.2 _ (Ne.symm D.zi1)).trans q
    · exact Src.itr_keep (c := c2) (d2 _ _ s2') fun o q => (sb.2 _ (Ne.symm D.zi2)).trans q
    · have hlt : c < s.heap.objs.size := by
        have e' : c = z ∨ c = TI ∨ c = TO ∨ c = i1 ∨ c = i2 := by simpa using hcm
        rcases e' with q | q | q | q | q
        · rw [q]; exact hzl
        · rw [q]; exact Heap.lt_size hTI
        · rw [q]; exact Heap.lt_size hTO
        · rw [q]; obtain ⟨_, e1, _⟩ := (Src.itr_obj (c := c1) h1); exact Heap.lt_size e1
        · rw [q]; obtain ⟨_, e2, _⟩ := (Src.itr_obj (c := c2) h2); exact Heap.lt_size e2
      rw [upd_ne (Nat.ne_of_lt hlt)]
      exact (hf c hcm).1
  done := by
    intro X hP hw hK hc i pins s σ H E I hf st hg
    subst hP hw hK
    obtain ⟨hz, hTI, ⟨x0, y0, hTO⟩, h1, h2⟩ := st
    obtain ⟨⟨ok1, ok2⟩, hi⟩ := hg
    obtain ⟨P1, S1, D1, a1, b1, d1⟩ := Src.draws (it := i1) (I.ok.hd hc) I ok1 n1
    obtain ⟨P2, S2, D2, a2, b2, d2⟩ := Src.draws (it := i2) (I.ok.hd hc) I ok2 n2
    exact wpAny_pyNext_zipD2_end D D1 D2 hz hTI hTO (a1 i h1) (a2 i h2) (by omega) (by omega) (by omega) fun h' tk hk => ⟨rfl, I.turnedL (t' := tk) (ch := [z, TI, TO, i1, i2]) (fun c o hb q =>
      hk c o (fun q' => hb (by simp [q'])) (fun q' => hb (by simp [q'])) (fun q' => hb (by simp [q'])) (fun q' => hb (by simp [q'])) q) hf⟩
  self := fun A i s Q E st h => wpAny_pyIter_zip st.1 h
theorem turn_zip3 {P : Program} {w : World} {K : PySem.W.Frag} {elts : List Expr} {kk : Nat} {tpos : Pos} {c1 c2 c3 : Src} {xs ys zs : List V} {z TI TO i1 i2 i3 : Addr} (D : ZipSep3 z TI TO i1 i2 i3 (i1 :: c1.fp) (i2 :: c2.fp) (i3 :: c3.fp)) (n1 : i1 ∉ c1.fp) (n2 : i2 ∉ c2.fp) (n3 : i3 ∉ c3.fp) :
    Turn P w K (.Tuple elts kk tpos) (ItP (min (min xs.length ys.length) zs.length) (fun H => c1.ok K H xs ∧ c2.ok K H ys ∧ c3.ok K H zs) (rowZ3 xs ys zs)) [z, TI, TO, i1, i2, i3] z
      (fun i h => IsZip h z TI TO .none ∧ IsTupOf3 h TI (.ref i1) (.ref i2) (.ref i3) ∧ (∃ x y u, IsTupOf3 h TO x y u) ∧ c1.itr h i1 i ∧ c2.itr h i2 i ∧ c3.itr h i3 i) where
  mem := by simp
  obj := fun i h st c hc => by
    obtain ⟨hz, hTI, ⟨x, y, u, hTO⟩, h1, h2, h3⟩ := st
    have e' : c = z ∨ c = TI ∨ c = TO ∨ c = i1 ∨ c = i2 ∨ c = i3 := by simpa using hc
    rcases e' with q | q | q | q | q | q
    · rw [q]; exact ⟨_, hz, fun v q => nomatch q⟩
    · rw [q]; exact ⟨_, hTI, fun v q => nomatch q⟩
    · rw [q]; exact ⟨_, hTO, fun v q => nomatch q⟩
    · rw [q]; exact (Src.itr_obj (c := c1) h1)
    · rw [q]; exact (Src.itr_obj (c := c2) h2)
    · rw [q]; exact (Src.itr_obj (c := c3) h3)
  keep := fun i h h' st k => by
    obtain ⟨hz, hTI, ⟨x, y, u, hTO⟩, h1, h2, h3⟩ := st
    exact ⟨k z (by simp) _ hz, k TI (by simp) _ hTI, ⟨x, y, u, k TO (by simp) _ hTO⟩, Src.itr_keep (c := c1) h1 fun o q => k i1 (by simp) o q, Src.itr_keep (c := c2) h2 fun o q => k i2 (by simp) o q, Src.itr_keep (c := c3) h3 fun o q => k i3 (by simp) o q⟩
  item := by
    intro X hP hw hK hc i pins s σ H E I hf st hg
    subst hP hw hK
    obtain ⟨hz, hTI, ⟨x0, y0, u0, hTO⟩, h1, h2, h3⟩ := st
    obtain ⟨⟨ok1, ok2, ok3⟩, hi⟩ := hg
    obtain ⟨P1, S1, D1, a1, b1, d1⟩ := Src.draws (it := i1) (I.ok.hd hc) I ok1 n1
    obtain ⟨P2, S2, D2, a2, b2, d2⟩ := Src.draws (it := i2) (I.ok.hd hc) I ok2 n2
    obtain ⟨P3, S3, D3, a3, b3, d3⟩ := Src.draws (it := i3) (I.ok.hd hc) I ok3 n3
    have hzl : z < s.heap.objs.size := Heap.lt_size hz
    refine wpAny_pyNext_zipD3_item D D1 D2 D3 hz hTI hTO (a1 i h1) (a2 i h2) (a3 i h3) (by omega) (by omega) (by omega) fun u u2 u3 h' tk p1 p2 p3 z' TO' s1' s2' s3' hT hsz hk => ?_
    obtain ⟨x, hx, ru⟩ := b1 i u p1
    obtain ⟨y, hy, ru2⟩ := b2 i u2 p2
    obtain ⟨v, hv, ru3⟩ := b3 i u3 p3
    refine ⟨_, rfl, wpAny_letOwnedTupleGo_zip (s := { s with heap := h', toks := tk }) z' fun h'' z'' sb => ?_⟩
    have hT2 : h''.get? s.heap.objs.size = some { cls := .type "tuple", data := .seq #[u, u2, u3] } := (sb.2 _ (Nat.ne_of_gt hzl)).trans hT
    have er : rowZ3 xs ys zs i = [x, y, v] := by rw [rowZ3, getD_of hx, getD_of hy, getD_of hv]
    have new : ObjOk X.prog X.w (upd H s.heap.objs.size (.tup (rowZ3 xs ys zs i))) h'' s.heap.objs.size (.tup (rowZ3 xs ys zs i)) := by
      rw [er]
      exact ⟨by show 3 ≤ sizeLine; decide, [u, u2, u3], .cons ru (.cons ru2 (.cons ru3 .nil)), ⟨_, hT2, rfl, _, rfl⟩⟩
    have I1 : Inv X pins σ (upd H s.heap.objs.size (.tup (rowZ3 xs ys zs i))) { s with heap := h'', toks := tk } :=
      I.turnedNew (t' := tk) (ch := [z, TI, TO, i1, i2, i3]) (fun c o hb q => (sb.2 c (fun q' => hb (by simp [q']))).trans (hk c o (fun q' => hb (by simp [q'])) (fun q' => hb (by simp [q'])) (fun q' => hb (by simp [q'])) (fun q' => hb (by simp [q'])) (fun q' => hb (by simp [q'])) q)) hf (Nat.le_refl _) new
    refine ⟨.ref s.heap.objs.size, _, I1, rfl, ⟨_, rfl, I.hok.fresh (Nat.le_refl _), rfl⟩, ⟨z'', ?_, ⟨u, u2, u3, ?_⟩, ?_, ?_, ?_⟩, fun c hcm => ?_⟩
    · exact (sb.2 _ D.TIz).trans (hk _ _ D.TIz D.TITO D.TIi1 D.TIi2 D.TIi3 hTI)
    · exact (sb.2 _ D.TOz).trans TO'
    · exact Src.itr_keep (c := c1) (d1 _ _ s1') fun o q => (sb.2 _ (Ne.symm D.zi1)).trans q
    · exact Src.itr_keep (c := c2) (d2 _ _ s2') fun o q => (sb.2 _ (Ne.symm D.zi2)).trans q
    · exact Src.itr_keep (c := c3) (d3 _ _ s3') fun o q => (sb.2 _ (Ne.symm D.zi3)).trans q
    · have hlt : c < s.heap.objs.size := by
        have e' : c = z ∨ c = TI ∨ c = TO ∨ c = i1 ∨ c = i2 ∨ c = i3 := by simpa using hcm
        rcases e' with q | q | q | q | q | q
        · rw [q]; exact hzl
        · rw [q]; exact Heap.lt_size hTI
        · rw [q]; exact Heap.lt_size hTO
        · rw [q]; obtain ⟨_, e1, _⟩ := (Src.itr_obj (c := c1) h1); exact Heap.lt_size e1
        · rw [q]; obtain ⟨_, e2, _⟩ := (Src.itr_obj (c := c2) h2); exact Heap.lt_size e2
        · rw [q]; obtain ⟨_, e2, _⟩ := (Src.itr_obj (c := c3) h3); exact Heap.lt_size e2
      rw [upd_ne (Nat.ne_of_lt hlt)]
      exact (hf c hcm).1
  done := by
    intro X hP hw hK hc i pins s σ H E I hf st hg
    subst hP hw hK
    obtain ⟨hz, hTI, ⟨x0, y0, u0, hTO⟩, h1, h2, h3⟩ := st
    obtain ⟨⟨ok1, ok2, ok3⟩, hi⟩ := hg
    obtain ⟨P1, S1, D1, a1, b1, d1⟩ := Src.draws (it := i1) (I.ok.hd hc) I ok1 n1
    obtain ⟨P2, S2, D2, a2, b2, d2⟩ := Src.draws (it := i2) (I.ok.hd hc) I ok2 n2
    obtain ⟨P3, S3, D3, a3, b3, d3⟩ := Src.draws (it := i3) (I.ok.hd hc) I ok3 n3
    exact wpAny_pyNext_zipD3_end D D1 D2 D3 hz hTI hTO (a1 i h1) (a2 i h2) (a3 i h3) (by omega) (by omega) (by omega) (by omega) fun h' tk hk => ⟨rfl, I.turnedL (t' := tk) (ch := [z, TI, TO, i1, i2, i3]) (fun c o hb q =>
      hk c o (fun q' => hb (by simp [q'])) (fun q' => hb (by simp [q'])) (fun q' => hb (by simp [q'])) (fun q' => hb (by simp [q'])) (fun q' => hb (by simp [q'])) q) hf⟩
  self := fun A i s Q E st h => wpAny_pyIter_zip st.1 h
theorem turn_enumS {P : Program} {w : World} {K : PySem.W.Frag} {elts : List Expr} {kk : Nat} {tpos : Pos} {c1 : Src} {xs : List V} (e it : Addr) (n1 : it ∉ c1.fp) (n2 : e ∉ c1.fp) :
    Turn P w K (.Tuple elts kk tpos) (ItP xs.length (fun H => c1.ok K H xs) (rowE xs)) [e, it] e (fun i h => (∃ old, IsEnum h e it ((i : Nat) : Int) old) ∧ c1.itr h it i ∧ e ≠ it) where
  mem := by simp
  obj := fun i h st b hb => by
    obtain ⟨⟨old, he⟩, h1, _⟩ := st
    have e' : b = e ∨ b = it := by simpa using hb
    rcases e' with z | z
    · rw [z]; exact ⟨_, he, fun v q => nomatch q⟩
    · rw [z]; exact (Src.itr_obj (c := c1) h1)
  keep := fun i h h' st k => let ⟨⟨old, he⟩, hi, hne⟩ := st; ⟨⟨old, k e (by simp) _ he⟩, Src.itr_keep (c := c1) hi fun o q => k it (by simp) o q, hne⟩
  item := by
    intro X hP hw hK hc i pins s σ H E I hf st hg
    subst hP hw hK
    obtain ⟨⟨old, he⟩, hit, hne⟩ := st
    obtain ⟨ok1, hi⟩ := hg
    obtain ⟨P1, S1, D1, a1, b1, d1⟩ := Src.draws (it := it) (I.ok.hd hc) I ok1 n1
    have hel : e < s.heap.objs.size := Heap.lt_size he
    have hil : it < s.heap.objs.size := by obtain ⟨_, q, _⟩ := Src.itr_obj (c := c1) hit; exact Heap.lt_size q
    refine wpAny_pyNext_enum_itemD D1 he (a1 i hit) hi hne (fun hm => (List.mem_cons.mp hm).elim hne n2) fun u h' tk p1 ho s1' hT hsz hk => ?_
    obtain ⟨x, hx, ru⟩ := b1 i u p1
    refine ⟨_, rfl, wpAny_letOwnedTupleGo_enum (s := { s with heap := h', toks := tk + 1 }) ho fun h'' he' sb => ?_⟩
    have hT2 : h''.get? s.heap.objs.size = some { cls := .type "tuple", data := .seq #[.int i tk, u] } := (sb.2 _ (Nat.ne_of_gt hel)).trans hT
    have er : rowE xs i = [.int (i : Nat), x] := by rw [rowE, getD_of hx]
    have new : ObjOk X.prog X.w (upd H s.heap.objs.size (.tup (rowE xs i))) h'' s.heap.objs.size (.tup (rowE xs i)) := by
      rw [er]
      exact ⟨by show 2 ≤ sizeLine; decide, [.int i tk, u], .cons ⟨_, rfl⟩ (.cons ru .nil), ⟨_, hT2, rfl, _, rfl⟩⟩
    have I1 : Inv X pins σ (upd H s.heap.objs.size (.tup (rowE xs i))) { s with heap := h'', toks := tk + 1 } :=
      I.turnedNew (ch := [e, it]) (fun b ob hb q => (sb.2 b (fun z => hb (by simp [z]))).trans (hk b ob (fun z => hb (by simp [z])) (fun z => hb (by simp [z])) q)) hf (Nat.le_refl _) new
    refine ⟨.ref s.heap.objs.size, _, I1, rfl, ⟨_, rfl, I.hok.fresh (Nat.le_refl _), rfl⟩, ⟨⟨u, ?_⟩, Src.itr_keep (c := c1) (d1 _ _ s1') fun o q => (sb.2 it (Ne.symm hne)).trans q, hne⟩, fun b hb => ?_⟩
    · have e1 : ((i + 1 : Nat) : Int) = (i : Int) + 1 := by omega
      rw [e1]; exact he'
    · have hb' : b < s.heap.objs.size := by
        have e' : b = e ∨ b = it := by simpa using hb
        rcases e' with z | z
        · rw [z]; exact hel
        · rw [z]; exact hil
      rw [upd_ne (Nat.ne_of_lt hb')]
      exact (hf b hb).1
  done := by
    intro X hP hw hK hc i pins s σ H E I hf st hg
    subst hP hw hK
    obtain ⟨⟨old, he⟩, hit, hne⟩ := st
    obtain ⟨ok1, hi⟩ := hg
    subst hi
    obtain ⟨P1, S1, D1, a1, b1, d1⟩ := Src.draws (it := it) (I.ok.hd hc) I ok1 n1
    obtain ⟨f0, f1, f2, f3, f4, f5⟩ := hf it (by simp)
    exact wpAny_pyNext_enum_endD D1 he (a1 _ hit) fun h' eb => ⟨rfl, I.turned (t' := s.toks) (fun b o hb q => eb b o hb q) f0 f1 f3 f4 f5⟩
  self := fun A i s Q E st h => let ⟨⟨_, he⟩, _⟩ := st; wpAny_pyIter_enum he h
end FF

set_option Elab.async false
set_option linter.all false
set_option maxRecDepth 100000
set_option maxHeartbeats 1000000
set_option autoImplicit false
/-! FFFor: what is walked, and the for loop. -/
namespace FF
open PySem PySem.Spec PyProof.Rows L2

abbrev Itv := List Sl → Hh → Option (List D × Hh)
structure WalkD (K : PySem.W.Frag) (J : It) (Z : Addr → Prop) (H : Hp) (xs : List D) : Prop where
  stop : ∀ Z' H', Stay Z H Z' H' → J.stop xs.length H'
  go : ∀ i Z' H', i < xs.length → Stay Z H Z' H' → J.go i H'
  yld : ∀ i d Z' H' x H'', xs[i]? = some d → Stay Z H Z' H' → (∀ a, Z' a → H' a ≠ none) → J.yld i H' x H'' → ∃ Z'', Pure Z' H' Z'' H'' ∧ DZ K Z'' H'' x d
def iI (g : G) (m : Itv) : TI := fun σ H R => ∃ Z ρ st hh xs hh', Rel g Z ρ st hh σ H ∧ m st hh = some (xs, hh') ∧
  ∀ Z' ρ' J H', Rel g Z' ρ' st hh' σ H' → Grow Z ρ H Z' ρ' H' → WalkD g.K J Z' H' xs → R J H'
theorem PIw {X : Cx} {tg e : Expr} {t t' : TI} (h : PI X tg e t) (w : ∀ σ H R, t' σ H R → t σ H R) : PI X tg e t' := ⟨fun pins s σ H R I q => h.run pins s σ H R I (w σ H R q)⟩
/-! ### values as sequences -/
def signsD (x : Str) : List D := x.cps.toList.map fun c => .str ⟨#[c]⟩
def elems : D → Option (List D)
  | .list xs => some xs
  | .tuple xs => some xs
  | .str x => some (signsD x)
  | _ => none
theorem dz_signs {K : PySem.W.Frag} {Z : Addr → Prop} {H : Hp} (x : Str) : DZs K Z H (signs x) (signsD x) := by
  unfold signs signsD
  induction x.cps.toList with
  | nil => exact .nil
  | cons c r ih => exact .cons (.str _) ih
def iSeq (m : Dv) : Itv := fun st hh => (m st hh).bind fun r => (elems r.1).map fun xs => (xs, r.2)
section
variable {K : PySem.W.Frag} {Z Z' : Addr → Prop} {H H' : Hp} {vs : List V} {ds : List D}
theorem Stay.l (S : Stay Z H Z' H') {a : Addr} (h : ZL K Z H a vs) : SqL K H' a vs := .inl (S.rd a _ h.1 h.2)
theorem Stay.t (S : Stay Z H Z' H') {a : Addr} (h : ZT K Z H a vs) : SqT K H' a vs := (h.mono S.z S.rd).sq
theorem walk_l {a : Addr} (h : ZL K Z H a vs) (hd : DZs K Z H vs ds) : WalkD K (Itl K a) Z H ds where
  stop := fun Z' H' S => ⟨vs, S.l h, by rw [hd.length]; exact Nat.le_refl _⟩
  go := fun i Z' H' hi S => by
    obtain ⟨v, hv, _⟩ := hd.get (List.getElem?_eq_getElem hi)
    exact ⟨vs, v, S.l h, hv⟩
  yld := fun i d Z' H' x H'' hi S zt y => by
    obtain ⟨rfl, y⟩ := y
    obtain ⟨v, hv, dz⟩ := hd.get hi
    have := y vs (S.l h)
    rw [hv] at this; cases this
    exact ⟨Z', Pure.refl zt, dz.mono S.z S.rd⟩
theorem walk_t {a : Addr} (h : ZT K Z H a vs) (hd : DZs K Z H vs ds) : WalkD K (Itt K a) Z H ds where
  stop := fun Z' H' S => ⟨vs, S.t h, by rw [hd.length]; exact Nat.le_refl _⟩
  go := fun i Z' H' hi S => by
    obtain ⟨v, hv, _⟩ := hd.get (List.getElem?_eq_getElem hi)
    exact ⟨vs, v, S.t h, hv⟩
  yld := fun i d Z' H' x H'' hi S zt y => by
    obtain ⟨rfl, y⟩ := y
    obtain ⟨v, hv, dz⟩ := hd.get hi
    have := y vs (S.t h)
    rw [hv] at this; cases this
    exact ⟨Z', Pure.refl zt, dz.mono S.z S.rd⟩
theorem walk_s (x : Str) : WalkD K (Its x) Z H (signsD x) where
  stop := fun Z' H' S => by show x.cps.size ≤ (signsD x).length; simp [signsD]
  go := fun i Z' H' hi S => by show i < x.cps.size; simpa [signsD] using hi
  yld := fun i d Z' H' v H'' hi S zt y => by
    obtain ⟨rfl, c, h1, rfl⟩ := y
    have : d = .str ⟨#[c]⟩ := by
      simp [signsD, h1] at hi
      exact hi.symm
    subst this
    exact ⟨Z', Pure.refl zt, .str _⟩
theorem walk_r (lo : Int) (n : Nat) : WalkD K (Itr lo n) Z H ((List.range n).map fun (k : Nat) => (.int (lo + (k : Int)) : D)) where
  stop := fun Z' H' S => by show n ≤ _; simp
  go := fun i Z' H' hi S => by show i < n; simpa using hi
  yld := fun i d Z' H' v H'' hi S zt y => by
    obtain ⟨rfl, rfl⟩ := y
    have : d = .int (lo + i) := by
      have hlt : i < n := by simpa using (List.getElem?_eq_some_iff.mp hi).1
      rw [List.getElem?_map, List.getElem?_range hlt] at hi
      simpa using hi.symm
    subst this
    exact ⟨Z', Pure.refl zt, .int _⟩
theorem walk_c (lo c : Int) (n : Nat) : WalkD K (Itc lo c n) Z H ((List.range n).map fun (k : Nat) => (.int (lo + (k : Int) * c) : D)) where
  stop := fun Z' H' S => by show n ≤ _; simp
  go := fun i Z' H' hi S => by show i < n; simpa using hi
  yld := fun i d Z' H' v H'' hi S zt y => by
    obtain ⟨rfl, rfl⟩ := y
    have : d = .int (lo + i * c) := by
      have hlt : i < n := by simpa using (List.getElem?_eq_some_iff.mp hi).1
      rw [List.getElem?_map, List.getElem?_range hlt] at hi
      simpa using hi.symm
    subst this
    exact ⟨Z', Pure.refl zt, .int _⟩
theorem walk_p {n : Nat} {G : Hp → Prop} {row : Nat → List V} {rd : Nat → List D} (hG : ∀ Z' H', Stay Z H Z' H' → G H') (hl : ds.length = n) (hd : ∀ (i : Nat) (d : D), ds[i]? = some d → d = PyData.tuple (rd i)) (hr : ∀ i, i < n → DZs K Z H (row i) (rd i)) : WalkD K (ItP n G row) Z H ds where
  stop := fun Z' H' S => ⟨hG Z' H' S, hl.symm⟩
  go := fun i Z' H' hi S => ⟨hG Z' H' S, by rw [← hl]; exact hi⟩
  yld := fun i d Z' H' v H'' hi S zt y => by
    obtain ⟨T, rfl, nT, rfl⟩ := y
    have hlt : i < n := by rw [← hl]; exact (List.getElem?_eq_some_iff.mp hi).1
    have := hd i d hi
    subst this
    have pu := Pure.newZ (o := .tup (row i)) zt nT
    exact ⟨_, pu, .tup (.inl ⟨.inr rfl, .inl upd_same⟩) ((hr i hlt).mono (fun a z => pu.z a (S.z a z)) fun a u z r => pu.rd a u (S.rd a u z r))⟩
end
section
variable {X : Cx} {g : G} {tg e : Expr} {m : Ev} {p pos : Pos}
theorem x_seq (O : Ox g X) (he : PE X e (tI g m)) : PI X tg e (iI g (iSeq (dv m))) := by
  refine ⟨fun pins s σ H R I h => ?_⟩
  obtain ⟨Z, ρ, st, hh, xs, hh', R0, e1, P⟩ := h
  obtain ⟨⟨d, h1⟩, e2, e3⟩ := Option.bind_eq_some_iff.mp e1
  obtain ⟨ys, e4, e5⟩ := Option.map_eq_some_iff.mp e3
  cases e5
  have K0 := O.k
  cases d with
  | list zs =>
    cases e4
    refine (pi_list (pe_d he)).run pins s σ H R I ⟨Z, ρ, st, hh, _, _, R0, e2, fun Z1 ρ1 x H1 R1 G1 D1 => ?_⟩
    cases D1 with
    | lst a b => exact ⟨_, rfl, ⟨_, .inl a.2⟩, by rw [K0]; exact P Z1 ρ1 _ H1 R1 G1 (walk_l a b)⟩
  | tuple zs =>
    cases e4
    refine (pi_tup (pe_d he)).run pins s σ H R I ⟨Z, ρ, st, hh, _, _, R0, e2, fun Z1 ρ1 x H1 R1 G1 D1 => ?_⟩
    cases D1 with
    | tup a b => exact ⟨_, rfl, ⟨_, by rw [K0]; exact a.sq⟩, by rw [K0]; exact P Z1 ρ1 _ H1 R1 G1 (walk_t a b)⟩
  | str x =>
    cases e4
    refine (pi_str (pe_d he)).run pins s σ H R I ⟨Z, ρ, st, hh, _, _, R0, e2, fun Z1 ρ1 x H1 R1 G1 D1 => ?_⟩
    cases D1 with
    | str y => exact ⟨_, rfl, P Z1 ρ1 _ H1 R1 G1 (walk_s _)⟩
  | none => cases e4
  | bool b => cases e4
  | int i => cases e4
  | dict kvs => cases e4
/-! ### ranges -/
def I62 : Int := 4611686018427387904
def rgOk (i : Int) : Bool := decide (-I62 ≤ i) && decide (i < I62)
theorem rgOk_iff {i : Int} (h : rgOk i = true) : -(2 ^ 62) ≤ i ∧ i < 2 ^ 62 := by
  unfold rgOk at h
  rw [Bool.and_eq_true] at h
  have e : I62 = 2 ^ 62 := by decide
  rw [e] at h
  exact ⟨of_decide_eq_true h.1, of_decide_eq_true h.2⟩
def rangeD : List D → Option (List D)
  | [.int j] => if rgOk j then some ((List.range j.toNat).map fun (k : Nat) => (.int ((0 : Int) + (k : Int)) : D)) else none
  | [.int i, .int j] => if rgOk i && rgOk j then some ((List.range (j - i).toNat).map fun (k : Nat) => (.int (i + (k : Int)) : D)) else none
  | [.int i, .int j, .int c] => if (rgOk i && rgOk j) && decide (c = -1) then some ((List.range (i - j).toNat).map fun (k : Nat) => (.int (i + (k : Int) * (-1)) : D)) else none
  | _ => none
def iArgs (f : List D → Option (List D)) (ms : List Dv) : Itv := fun st hh => (evd ms st hh).bind fun r => (f r.1).map fun xs => (xs, r.2)
def iRange (ms : List Dv) : Itv := iArgs rangeD ms
theorem len1 {α : Type} {l : List α} (h : l.length = 1) : ∃ a, l = [a] := by
  match l, h with
  | [a], _ => exact ⟨a, rfl⟩
theorem len2 {α : Type} {l : List α} (h : l.length = 2) : ∃ a b, l = [a, b] := by
  match l, h with
  | [a, b], _ => exact ⟨a, b, rfl⟩
theorem len3 {α : Type} {l : List α} (h : l.length = 3) : ∃ a b c, l = [a, b, c] := by
  match l, h with
  | [a, b, c], _ => exact ⟨a, b, c, rfl⟩
theorem x_range1 {a : Expr} {ma : Dv} (hg : Gl X "range") (hm : X.mg "range" = none) (ha : PA X [a] (aD g [ma])) (hs : starEach [a] X.env = [(false, eval a X.env)] := by rfl) : PI X tg (.Call (.Name "range" p) [a] [] pos) (iI g (iRange [ma])) := by
  refine PIw (pi_range1 hg hm ha hs) fun σ H R ⟨Z, ρ, st, hh, xs, hh', R0, e1, P⟩ => ?_
  obtain ⟨⟨ds, h1⟩, e2, e3⟩ := Option.bind_eq_some_iff.mp e1
  obtain ⟨ys, e4, e5⟩ := Option.map_eq_some_iff.mp e3
  cases e5
  obtain ⟨d, rfl⟩ := len1 (evd_length e2)
  refine ⟨Z, ρ, st, hh, _, _, R0, e2, fun Z1 ρ1 vs H1 R1 G1 D1 => ?_⟩
  unfold rangeD at e4
  split at e4
  · rename_i j hj
    cases hj
    split at e4
    · rename_i c
      cases e4
      cases D1 with
      | cons a b => cases a; cases b; exact ⟨j, rfl, (rgOk_iff c).1, (rgOk_iff c).2, P Z1 ρ1 _ H1 R1 G1 (walk_r 0 _)⟩
    · cases e4
  · rename_i hj; cases hj
  · rename_i hj; cases hj
  · cases e4
theorem x_range2 {a b : Expr} {ma mb : Dv} (hg : Gl X "range") (hm : X.mg "range" = none) (ha : PA X [a, b] (aD g [ma, mb])) (hs : starEach [a, b] X.env = [(false, eval a X.env), (false, eval b X.env)] := by rfl) (hs2 : starEach [b] X.env = [(false, eval b X.env)] := by rfl) :
    PI X tg (.Call (.Name "range" p) [a, b] [] pos) (iI g (iRange [ma, mb])) := by
  refine PIw (pi_range2 hg hm ha hs hs2) fun σ H R ⟨Z, ρ, st, hh, xs, hh', R0, e1, P⟩ => ?_
  obtain ⟨⟨ds, h1⟩, e2, e3⟩ := Option.bind_eq_some_iff.mp e1
  obtain ⟨ys, e4, e5⟩ := Option.map_eq_some_iff.mp e3
  cases e5
  obtain ⟨d, d2, rfl⟩ := len2 (evd_length e2)
  refine ⟨Z, ρ, st, hh, _, _, R0, e2, fun Z1 ρ1 vs H1 R1 G1 D1 => ?_⟩
  unfold rangeD at e4
  split at e4
  · rename_i hj; cases hj
  · rename_i i j hj
    cases hj
    split at e4
    · rename_i c
      rw [Bool.and_eq_true] at c
      cases e4
      cases D1 with
      | cons a b =>
        cases a
        cases b with
        | cons a b =>
          cases a; cases b
          exact ⟨i, j, rfl, ⟨(rgOk_iff c.1).1, (rgOk_iff c.1).2, (rgOk_iff c.2).1, (rgOk_iff c.2).2⟩, P Z1 ρ1 _ H1 R1 G1 (walk_r i _)⟩
    · cases e4
  · rename_i hj; cases hj
  · cases e4
theorem x_range3 {a b c : Expr} {ma mb mc : Dv} (hg : Gl X "range") (hm : X.mg "range" = none) (ha : PA X [a, b, c] (aD g [ma, mb, mc]))
    (hs : starEach [a, b, c] X.env = (false, eval a X.env) :: starEach [b, c] X.env := by rfl) (hpl : (backTo pos (starEach [b, c] X.env)).any (·.1) = false := by rfl) : PI X tg (.Call (.Name "range" p) [a, b, c] [] pos) (iI g (iRange [ma, mb, mc])) := by
  refine PIw (pi_range3 hg hm ha hs hpl) fun σ H R ⟨Z, ρ, st, hh, xs, hh', R0, e1, P⟩ => ?_
  obtain ⟨⟨ds, h1⟩, e2, e3⟩ := Option.bind_eq_some_iff.mp e1
  obtain ⟨ys, e4, e5⟩ := Option.map_eq_some_iff.mp e3
  cases e5
  obtain ⟨d, d2, d3, rfl⟩ := len3 (evd_length e2)
  refine ⟨Z, ρ, st, hh, _, _, R0, e2, fun Z1 ρ1 vs H1 R1 G1 D1 => ?_⟩
  unfold rangeD at e4
  split at e4
  · rename_i hj; cases hj
  · rename_i hj; cases hj
  · rename_i i j k hj
    cases hj
    split at e4
    · rename_i c
      rw [Bool.and_eq_true, Bool.and_eq_true] at c
      obtain ⟨⟨c1, c2⟩, c3⟩ := c
      have c3 := of_decide_eq_true c3
      subst c3
      cases e4
      cases D1 with
      | cons a b =>
        cases a
        cases b with
        | cons a b =>
          cases a
          cases b with
          | cons a b =>
            cases a; cases b
            exact ⟨i, j, -1, _, rfl, RgC.neg (rgOk_iff c1).1 (rgOk_iff c1).2 (rgOk_iff c2).1 (rgOk_iff c2).2, P Z1 ρ1 _ H1 R1 G1 (walk_c i (-1) _)⟩
    · cases e4
  · cases e4
end
/-! ### zip, enumerate -/
def zipD : List D → Option (List D)
  | [a, b] => (elems a).bind fun xs => (elems b).map fun ys => (xs.zip ys).map fun p => .tuple [p.1, p.2]
  | [a, b, c] => (elems a).bind fun xs => (elems b).bind fun ys => (elems c).map fun zs => (xs.zip (ys.zip zs)).map fun p => .tuple [p.1, p.2.1, p.2.2]
  | _ => none
def enumD : List D → Option (List D)
  | [a] => (elems a).map fun xs => xs.zipIdx.map fun p => .tuple [.int p.2, p.1]
  | _ => none
def iZip (ms : List Dv) : Itv := iArgs zipD ms
def iEnu (ms : List Dv) : Itv := iArgs enumD ms
section
variable {X : Cx} {pins : List (Addr × Obj)} {σ : L2.St} {H : Hp} {s : Shared}
theorem dz_src {Z : Addr → Prop} {x : V} {u : Value} {d : D} {ds : List D} (I : Inv X pins σ H s) (h : DZ X.K Z H x d) (he : elems d = some ds) (r : RelV x u) :
    ∃ (c : Src) (vs : List V) (HB : Heap → Prop), u = c.val ∧ (∀ Z' H', Stay Z H Z' H' → c.ok X.K H' vs) ∧ DZs X.K Z H vs ds ∧ (∀ b ∈ c.fp, b < s.heap.objs.size) ∧ Begins c.val c.obj HB ∧ HB s.heap := by
  cases h with
  | lst a b =>
    cases he
    cases r
    obtain ⟨its, rv, p, _⟩ := I.list a.sq
    exact ⟨.lst _, _, _, rfl, fun Z' H' S => S.l a, b, fun c hc => by rw [List.mem_singleton.mp hc]; exact p.lt, begins_list _ its.toArray, p.isList⟩
  | tup a b =>
    cases he
    cases r
    obtain ⟨its, rv, p, _⟩ := I.tuple a.sq
    exact ⟨.tup _, _, _, rfl, fun Z' H' S => S.t a, b, fun c hc => by rw [List.mem_singleton.mp hc]; obtain ⟨o, e, _⟩ := p; exact Heap.lt_size e, begins_tuple _ its.toArray, p⟩
  | str x =>
    cases he
    obtain ⟨t, rfl⟩ := r
    exact ⟨.str x t, signs x, fun _ => True, rfl, fun _ _ _ => rfl, dz_signs x, (fun c hc => nomatch hc), begins_text x t, trivial⟩
  | non => cases he
  | bl b => cases he
  | int i => cases he
  | dct a b c => cases he
theorem DZs.getD {K : PySem.W.Frag} {Z : Addr → Prop} {vs : List V} {ds : List D} (h : DZs K Z H vs ds) {i : Nat} (hi : i < vs.length) : DZ K Z H (vs.getD i .non) (ds.getD i .none) := by
  obtain ⟨d, hd, q⟩ := h.getV (List.getElem?_eq_getElem hi)
  rw [getD_of (List.getElem?_eq_getElem hi)]
  simp [List.getD, hd]
  exact q
end
section
variable {X : Cx} {g : G} {m : Ev} {elts : List Expr} {kk : Nat} {p pos tpos : Pos}
theorem zipWalk2 {K : PySem.W.Frag} {Z : Addr → Prop} {H : Hp} {G : Hp → Prop} {v1 v2 : List V} {d1 d2 : List D} (h1 : DZs K Z H v1 d1) (h2 : DZs K Z H v2 d2) (hG : ∀ Z' H', Stay Z H Z' H' → G H') :
    WalkD K (ItP (min v1.length v2.length) G (rowZ v1 v2)) Z H ((d1.zip d2).map fun p => (.tuple [p.1, p.2] : D)) := by
  refine walk_p (rd := fun i => [d1.getD i .none, d2.getD i .none]) hG (by simp [h1.length, h2.length]) (fun i d hd => ?_) fun i hi => ?_
  · rw [List.getElem?_map] at hd
    obtain ⟨q, hq, rfl⟩ := Option.map_eq_some_iff.mp hd
    obtain ⟨q1, q2⟩ := q
    have := List.getElem?_zip_eq_some.mp hq
    simp [List.getD, this.1, this.2]
  · exact .cons (h1.getD (by omega)) (.cons (h2.getD (by omega)) .nil)
theorem zipWalk3 {K : PySem.W.Frag} {Z : Addr → Prop} {H : Hp} {G : Hp → Prop} {v1 v2 v3 : List V} {d1 d2 d3 : List D} (h1 : DZs K Z H v1 d1) (h2 : DZs K Z H v2 d2) (h3 : DZs K Z H v3 d3) (hG : ∀ Z' H', Stay Z H Z' H' → G H') :
    WalkD K (ItP (min (min v1.length v2.length) v3.length) G (rowZ3 v1 v2 v3)) Z H ((d1.zip (d2.zip d3)).map fun p => (.tuple [p.1, p.2.1, p.2.2] : D)) := by
  refine walk_p (rd := fun i => [d1.getD i .none, d2.getD i .none, d3.getD i .none]) hG (by simp [h1.length, h2.length, h3.length, Nat.min_assoc]) (fun i d hd => ?_) fun i hi => ?_
  · rw [List.getElem?_map] at hd
    obtain ⟨q, hq, rfl⟩ := Option.map_eq_some_iff.mp hd
    obtain ⟨q1, q2, q3⟩ := q
    have a := List.getElem?_zip_eq_some.mp hq
    have b := List.getElem?_zip_eq_some.mp a.2
    simp [List.getD, a.1, b.1, b.2]
  · exact .cons (h1.getD (by omega)) (.cons (h2.getD (by omega)) (.cons (h3.getD (by omega)) .nil))
theorem enumWalk {K : PySem.W.Frag} {Z : Addr → Prop} {H : Hp} {G : Hp → Prop} {v1 : List V} {d1 : List D} (h1 : DZs K Z H v1 d1) (hG : ∀ Z' H', Stay Z H Z' H' → G H') :
    WalkD K (ItP v1.length G (rowE v1)) Z H (d1.zipIdx.map fun p => (.tuple [.int p.2, p.1] : D)) := by
  refine walk_p (rd := fun i => [.int (i : Nat), d1.getD i .none]) hG (by simp [h1.length]) (fun i d hd => ?_) fun i hi => ?_
  · rw [List.getElem?_map] at hd
    obtain ⟨q, hq, rfl⟩ := Option.map_eq_some_iff.mp hd
    obtain ⟨q1, q2⟩ := q
    rw [List.getElem?_zipIdx] at hq
    obtain ⟨y, hy, hz⟩ := Option.map_eq_some_iff.mp hq
    simp at hz
    obtain ⟨rfl, rfl⟩ := hz
    simp [List.getD, hy]
  · exact .cons (.int _) (.cons (h1.getD hi) .nil)
theorem fresh_fp {pins : List (Addr × Obj)} {σ : L2.St} {H : Hp} {s : Shared} (I : Inv X pins σ H s) {fp : List Addr} (h : ∀ c ∈ fp, s.heap.objs.size ≤ c) : ∀ c ∈ fp, FpOk X pins H c := fun c hc => I.fpOk (h c hc) (I.hok.fresh (h c hc))
theorem x_zip2 {e e2 : Expr} {ma mb : Dv} (O : Ox g X) (hg : Gl X "zip") (hm : X.mg "zip" = none) (ha : PA X [e, e2] (aD g [ma, mb])) (hs : starEach [e, e2] X.env = (false, eval e X.env) :: starEach [e2] X.env := by rfl) (hpl : (backTo pos (starEach [e2] X.env)).any (·.1) = false := by rfl) :
    PI X (.Tuple elts kk tpos) (.Call (.Name "zip" p) [e, e2] [] pos) (iI g (iZip [ma, mb])) := by
  refine ⟨fun pins s σ H R I h => ?_⟩
  obtain ⟨Z, ρ, st, hh, xs, hh', R0, e1, P⟩ := h
  obtain ⟨⟨ds, h1⟩, e2', e3⟩ := Option.bind_eq_some_iff.mp e1
  obtain ⟨ys, e4, e5⟩ := Option.map_eq_some_iff.mp e3
  cases e5
  obtain ⟨d, d2, rfl⟩ := len2 (evd_length e2')
  have K0 := O.k
  refine Call_ (ld_blt I hg hm PyProof.Rows.boot_zip (PyProof.Rows.callWith_type1 (thn (ha.run pos pins s σ H (fun vs H1 => ∃ Z1 ρ1, Rel g Z1 ρ1 st h1 σ H1 ∧ Grow Z ρ H Z1 ρ1 H1 ∧ DZs g.K Z1 H1 vs [d, d2]) I ⟨Z, ρ, st, hh, _, _, R0, e2', fun Z1 ρ1 vs H1 R1 G1 D1 => ⟨Z1, ρ1, R1, G1, D1⟩⟩) fun us s1 ⟨vs, H1, I1, r1, Z1, ρ1, R1, G1, D1⟩ => ?_) hs hpl))
  obtain ⟨xs1, q1, e4⟩ := Option.bind_eq_some_iff.mp e4
  obtain ⟨xs2, q2, e4⟩ := Option.map_eq_some_iff.mp e4
  subst e4
  cases D1 with
  | cons a b =>
    cases b with
    | cons b c =>
      cases c
      cases r1 with
      | cons r r1 =>
        cases r1 with
        | cons r' r1 =>
          cases r1
          rw [← K0] at a b
          obtain ⟨c1, v1, B1, rfl, ok1, z1, l1, b1, hb1⟩ := dz_src I1 a q1 r
          obtain ⟨c2, v2, B2, rfl, ok2, z2, l2, b2, hb2⟩ := dz_src I1 b q2 r'
          refine zip_begins2 b1 b2 hb1 hb2 fun h' hz hTI hTO g1 g2 hsz hk => wpAny_pyIter_zip hz ?_
          have I2 : Inv X pins σ H1 { s1 with heap := h' } := I1.kept (t' := s1.toks) hk
          have S := zip_sep2 (N := s1.heap.objs.size) l1 l2
          refine ⟨s1.heap.objs.size + 4, [s1.heap.objs.size + 4, s1.heap.objs.size + 2, s1.heap.objs.size + 3, s1.heap.objs.size, s1.heap.objs.size + 1], _, _, H1, rfl, I2, turn_zip2 (c1 := c1) (c2 := c2) (xs := v1) (ys := v2) S (fun hm => Nat.lt_irrefl _ (l1 _ hm)) (fun hm => Nat.lt_irrefl _ (Nat.lt_of_succ_lt (l2 _ hm))), ⟨hz, hTI, ⟨_, _, hTO⟩, Src.itr_new (c := c1) g1, Src.itr_new (c := c2) g2⟩, fresh_fp I1 fun c hcm => ?_, ?_⟩
          · have e' : c = s1.heap.objs.size + 4 ∨ c = s1.heap.objs.size + 2 ∨ c = s1.heap.objs.size + 3 ∨ c = s1.heap.objs.size ∨ c = s1.heap.objs.size + 1 := by simpa using hcm
            rcases e' with z | z | z | z | z
            · rw [z]; exact Nat.le_add_right _ _
            · rw [z]; exact Nat.le_add_right _ _
            · rw [z]; exact Nat.le_add_right _ _
            · rw [z]; exact Nat.le_refl _
            · rw [z]; exact Nat.le_add_right _ _
          · refine P Z1 ρ1 _ H1 R1 G1 ?_
            rw [K0] at z1 z2 ok1 ok2 ⊢
            exact zipWalk2 z1 z2 fun Z' H' S => ⟨ok1 Z' H' S, ok2 Z' H' S⟩
theorem x_zip3 {e e2 e3 : Expr} {ma mb mc : Dv} (O : Ox g X) (hg : Gl X "zip") (hm : X.mg "zip" = none) (ha : PA X [e, e2, e3] (aD g [ma, mb, mc])) (hs : starEach [e, e2, e3] X.env = (false, eval e X.env) :: starEach [e2, e3] X.env := by rfl) (hpl : (backTo pos (starEach [e2, e3] X.env)).any (·.1) = false := by rfl) :
    PI X (.Tuple elts kk tpos) (.Call (.Name "zip" p) [e, e2, e3] [] pos) (iI g (iZip [ma, mb, mc])) := by
  refine ⟨fun pins s σ H R I h => ?_⟩
  obtain ⟨Z, ρ, st, hh, xs, hh', R0, e1, P⟩ := h
  obtain ⟨⟨ds, h1⟩, e2', e3'⟩ := Option.bind_eq_some_iff.mp e1
  obtain ⟨ys, e4, e5⟩ := Option.map_eq_some_iff.mp e3'
  cases e5
  obtain ⟨d, d2, d3, rfl⟩ := len3 (evd_length e2')
  have K0 := O.k
  refine Call_ (ld_blt I hg hm PyProof.Rows.boot_zip (PyProof.Rows.callWith_type1 (thn (ha.run pos pins s σ H (fun vs H1 => ∃ Z1 ρ1, Rel g Z1 ρ1 st h1 σ H1 ∧ Grow Z ρ H Z1 ρ1 H1 ∧ DZs g.K Z1 H1 vs [d, d2, d3]) I ⟨Z, ρ, st, hh, _, _, R0, e2', fun Z1 ρ1 vs H1 R1 G1 D1 => ⟨Z1, ρ1, R1, G1, D1⟩⟩) fun us s1 ⟨vs, H1, I1, r1, Z1, ρ1, R1, G1, D1⟩ => ?_) hs hpl))
  obtain ⟨xs1, q1, e4⟩ := Option.bind_eq_some_iff.mp e4
  obtain ⟨xs2, q2, e4⟩ := Option.bind_eq_some_iff.mp e4
  obtain ⟨xs3, q3, e4⟩ := Option.map_eq_some_iff.mp e4
  subst e4
  cases D1 with
  | cons a b =>
    cases b with
    | cons b c =>
      cases c with
      | cons c k =>
        cases k
        cases r1 with
        | cons r r1 =>
          cases r1 with
          | cons r' r1 =>
            cases r1 with
            | cons r'' r1 =>
              cases r1
              rw [← K0] at a b c
              obtain ⟨c1, v1, B1, rfl, ok1, z1, l1, b1, hb1⟩ := dz_src I1 a q1 r
              obtain ⟨c2, v2, B2, rfl, ok2, z2, l2, b2, hb2⟩ := dz_src I1 b q2 r'
              obtain ⟨c3, v3, B3, rfl, ok3, z3, l3, b3, hb3⟩ := dz_src I1 c q3 r''
              refine zip_begins3 b1 b2 b3 hb1 hb2 hb3 fun h' hz hTI hTO g1 g2 g3 hsz hk => wpAny_pyIter_zip hz ?_
              have I2 : Inv X pins σ H1 { s1 with heap := h' } := I1.kept (t' := s1.toks) hk
              have S := zip_sep3 (N := s1.heap.objs.size) l1 l2 l3
              refine ⟨s1.heap.objs.size + 5, [s1.heap.objs.size + 5, s1.heap.objs.size + 3, s1.heap.objs.size + 4, s1.heap.objs.size, s1.heap.objs.size + 1, s1.heap.objs.size + 2], _, _, H1, rfl, I2, turn_zip3 (c1 := c1) (c2 := c2) (c3 := c3) (xs := v1) (ys := v2) (zs := v3) S (fun hm => Nat.lt_irrefl _ (l1 _ hm)) (fun hm => Nat.lt_irrefl _ (Nat.lt_of_succ_lt (l2 _ hm))) (fun hm => Nat.lt_irrefl _ (Nat.lt_of_succ_lt (Nat.lt_of_succ_lt (l3 _ hm)))), ⟨hz, hTI, ⟨_, _, _, hTO⟩, Src.itr_new (c := c1) g1, Src.itr_new (c := c2) g2, Src.itr_new (c := c3) g3⟩, fresh_fp I1 fun c hcm => ?_, ?_⟩
              · have e' : c = s1.heap.objs.size + 5 ∨ c = s1.heap.objs.size + 3 ∨ c = s1.heap.objs.size + 4 ∨ c = s1.heap.objs.size ∨ c = s1.heap.objs.size + 1 ∨ c = s1.heap.objs.size + 2 := by simpa using hcm
                rcases e' with z | z | z | z | z | z
                · rw [z]; exact Nat.le_add_right _ _
                · rw [z]; exact Nat.le_add_right _ _
                · rw [z]; exact Nat.le_add_right _ _
                · rw [z]; exact Nat.le_refl _
                · rw [z]; exact Nat.le_add_right _ _
                · rw [z]; exact Nat.le_add_right _ _
              · refine P Z1 ρ1 _ H1 R1 G1 ?_
                rw [K0] at z1 z2 z3 ok1 ok2 ok3 ⊢
                exact zipWalk3 z1 z2 z3 fun Z' H' S => ⟨ok1 Z' H' S, ok2 Z' H' S, ok3 Z' H' S⟩
theorem meets_enumerate_S {v : Value} {o : Obj} {H : Heap → Prop} (B : Begins v o H) :
    Meets (Builtin.«enumerate.__new__» ⟨[.type "enumerate", v], []⟩) (fun _ R s => H s.heap ∧
      R (.ok (.ret (.ref (s.heap.push o).objs.size))) { s with heap := (s.heap.push o).push { cls := .type "enumerate", data := .fields #[.none, .bool false, .ref s.heap.objs.size, rawInt 0, .none, .none] } }) :=
  .of_wp fun prog w A R s h => by
    obtain ⟨hp, g, d, tk, os⟩ := s; obtain ⟨h1, h⟩ := h
    have hsub := sub_enumerate
    have q1 : ∀ {A' : Around} {E : Value → Shared → Prop} {Q : Value → Shared → Prop}, Q (.ref hp.objs.size) ⟨hp.push o, g, d, tk, os⟩ → wpAny (model prog w) A' (pyIter v) Q E ⟨hp, g, d, tk, os⟩ :=
      fun q => B.iter prog w _ _ ⟨hp, g, d, tk, os⟩ _ h1 q
    wp_walk using q1
    refine wpAny_stack_any fun st => wpAny_pure ?_
    split
    · rename_i c _ _ _ _ _
      cases (c == Value.type "enumerate")
      · wp_walk using q1
        exact ⟨_, rfl, h⟩
      · wp_walk using q1
        exact ⟨_, rfl, h⟩
    · wp_walk using q1
      exact ⟨_, rfl, h⟩
theorem enum_S {prog : Program} {w : World} {A : Around} {E : Value → Shared → Prop} {s : Shared} {v : Value} {o : Obj} {H : Heap → Prop} {Q : Value → Shared → Prop} (B : Begins v o H) (h1 : H s.heap)
    (h : ∀ h', IsEnum h' (s.heap.objs.size + 1) s.heap.objs.size 0 .none → h'.get? s.heap.objs.size = some o → h'.objs.size = s.heap.objs.size + 2 →
      (∀ b o, s.heap.get? b = some o → h'.get? b = some o) → Q (.ref (s.heap.objs.size + 1)) { s with heap := h' }) :
    wpAny (model prog w) A (call (.type "enumerate") [v]) Q E s := by
  refine callType_new F.called_enumerate (by decide) (F.typeCall_enumerate_1 _) (F.newCall_enumerate_1 _) (fun obj => F.args_object_init_2 obj _) F.entry_enumerate_new
    (meets_enumerate_S B) ⟨h1, ?_⟩
  have hz : (s.heap.push o).objs.size = s.heap.objs.size + 1 := Heap.size_push ..
  show _ ∧ _
  rw [hz]
  have he : IsEnum ((s.heap.push o).push { cls := .type "enumerate", data := .fields #[.none, .bool false, .ref s.heap.objs.size, rawInt 0, .none, .none] }) (s.heap.objs.size + 1) s.heap.objs.size 0 .none := by
    have := Heap.get?_push_size (s.heap.push o) (o := { cls := .type "enumerate", data := .fields #[.none, .bool false, .ref s.heap.objs.size, rawInt 0, .none, .none] }) rfl
    rw [hz] at this; exact this
  refine ⟨⟨_, he, rfl⟩, h _ he (Heap.get?_push_of_some _ (Heap.get?_push_size _ B.free)) (by rw [Heap.size_push, hz]) fun b o x => Heap.get?_push_of_some _ (Heap.get?_push_of_some _ x)⟩
theorem x_enum {e : Expr} {ma : Dv} (O : Ox g X) (hg : Gl X "enumerate") (hm : X.mg "enumerate" = none) (ha : PA X [e] (aD g [ma])) (hs : starEach [e] X.env = [(false, eval e X.env)] := by rfl) :
    PI X (.Tuple elts kk tpos) (.Call (.Name "enumerate" p) [e] [] pos) (iI g (iEnu [ma])) := by
  refine ⟨fun pins s σ H R I h => ?_⟩
  obtain ⟨Z, ρ, st, hh, xs, hh', R0, e1, P⟩ := h
  obtain ⟨⟨ds, h1⟩, e2', e3⟩ := Option.bind_eq_some_iff.mp e1
  obtain ⟨ys, e4, e5⟩ := Option.map_eq_some_iff.mp e3
  cases e5
  obtain ⟨d, rfl⟩ := len1 (evd_length e2')
  have K0 := O.k
  refine Call_ (ld_blt I hg hm boot_enumerate (PyProof.Rows.callWith_type1 (thn (ha.run pos pins s σ H (fun vs H1 => ∃ Z1 ρ1, Rel g Z1 ρ1 st h1 σ H1 ∧ Grow Z ρ H Z1 ρ1 H1 ∧ DZs g.K Z1 H1 vs [d]) I ⟨Z, ρ, st, hh, _, _, R0, e2', fun Z1 ρ1 vs H1 R1 G1 D1 => ⟨Z1, ρ1, R1, G1, D1⟩⟩) fun us s1 ⟨vs, H1, I1, r1, Z1, ρ1, R1, G1, D1⟩ => ?_) hs rfl))
  obtain ⟨xs1, q1, e4⟩ := Option.map_eq_some_iff.mp e4
  subst e4
  cases D1 with
  | cons a b =>
    cases b
    cases r1 with
    | cons r r1 =>
      cases r1
      rw [← K0] at a
      obtain ⟨c1, v1, B1, rfl, ok1, z1, l1, b1, hb1⟩ := dz_src I1 a q1 r
      refine enum_S b1 hb1 fun h' he g1 hsz hk => wpAny_pyIter_enum he ?_
      have I2 : Inv X pins σ H1 { s1 with heap := h' } := I1.kept (t' := s1.toks) hk
      refine ⟨s1.heap.objs.size + 1, [s1.heap.objs.size + 1, s1.heap.objs.size], _, _, H1, rfl, I2, turn_enumS (c1 := c1) (xs := v1) (s1.heap.objs.size + 1) s1.heap.objs.size (fun hm => Nat.lt_irrefl _ (l1 _ hm)) (fun hm => Nat.lt_irrefl _ (Nat.lt_of_succ_lt (l1 _ hm))), ⟨⟨.none, he⟩, Src.itr_new (c := c1) g1, Nat.succ_ne_self _⟩, fresh_fp I1 fun c hcm => ?_, ?_⟩
      · have e' : c = s1.heap.objs.size + 1 ∨ c = s1.heap.objs.size := by simpa using hcm
        rcases e' with z | z
        · rw [z]; exact Nat.le_add_right _ _
        · rw [z]; exact Nat.le_refl _
      · refine P Z1 ρ1 _ H1 R1 G1 ?_
        rw [K0] at z1 ok1 ⊢
        exact enumWalk z1 fun Z' H' S => ok1 Z' H' S
end
/-! ### for -/
def forL (t : Tg) (b : Sv) : List D → Sv
  | [], st, hh => some (.nx st hh)
  | d :: ds, st, hh => (t (.v (.d d)) st).bind fun st' => (b st' hh).bind fun r => match r with
    | .nx st2 hh2 => forL t b ds st2 hh2
    | .rt e hh' => some (.rt e hh')
def sFor (it : Itv) (t : Tg) (b : Sv) : Sv := fun st hh => (it st hh).bind fun r => forL t b r.1 st r.2
theorem Stay.of_pure {Z Z1 Z' : Addr → Prop} {H H1 H' : Hp} (S : Stay Z H Z1 H1) (p : Pure Z1 H1 Z' H') : Stay Z H Z' H' := S.trans p.stay
section
variable {X : Cx} {g : G} {tg iter : Expr} {t : Tg} {idx : List Nat} {body : List Stmt} {it : Itv} {m : Sv} {pos : Pos}
theorem s_for (O : Ox g X) (hp : PassesOwn (model X.prog X.w) X.A X.env X.xe) (hi : PI X tg iter (iI g it)) (hg : PG X tg (gI g t idx)) (hb : PSs X body (sI g m))
    (hs : ∀ x, foldedSetIterable iter X.env x = pure x := by intro _; rfl) : PS X (.For tg iter body [] pos) (sI g (sFor it t m)) := by
  refine PSw (ps_for hp O.calm hi hg hb hs) fun D σ H ⟨Z, ρ, st, hh, r, R, e1, P⟩ => ?_
  obtain ⟨⟨xs, h1⟩, e2, e3⟩ := Option.bind_eq_some_iff.mp e1
  refine ⟨Z, ρ, st, hh, xs, h1, R, e2, fun Z1 ρ1 J H1 R1 G1 W => ?_⟩
  refine ⟨fun i n σ H => n = xs.length - i ∧ i ≤ xs.length ∧ ∃ Z ρ st hh, Rel g Z ρ st hh σ H ∧ Stay Z1 H1 Z H ∧ forL t m (xs.drop i) st hh = some r, ⟨xs.length, by simp, Nat.zero_le _, Z1, ρ1, st, h1, R1, Stay.refl _ _, e3⟩, ?_⟩
  rintro i n σ H ⟨rfl, hi, Z2, ρ2, st2, hh2, R2, S2, e4⟩
  by_cases hlt : i < xs.length
  · rw [List.drop_eq_getElem_cons hlt] at e4
    obtain ⟨st3, e5, e6⟩ := Option.bind_eq_some_iff.mp e4
    obtain ⟨q, e7, e8⟩ := Option.bind_eq_some_iff.mp e6
    refine .inr ⟨W.go i Z2 H hlt S2, fun σ' H' => ∃ Z ρ st hh, Rel g Z ρ st hh σ' H' ∧ Stay Z1 H1 Z H' ∧ forL t m (xs.drop (i + 1)) st hh = some r, fun σ' H' h => ⟨xs.length - (i + 1), by omega, rfl, hlt, h⟩, fun x H' y => ?_⟩
    obtain ⟨Z3, pu, dz⟩ := W.yld i _ Z2 H x H' (List.getElem?_eq_getElem hlt) S2 R2.heap.zt y
    have R3 := R2.pure pu
    refine ⟨Z3, ρ2, st2, hh2, .v (.d xs[i]), st3, R3, dz, e5, fun σ4 R4 _ _ => ⟨Z3, ρ2, st3, hh2, q, R4, e7, ?_⟩⟩
    cases q with
    | nx st' hh' => exact fun Z4 ρ4 σ4 H4 R4 S4 => ⟨Z4, ρ4, st', hh', R4, (S2.of_pure pu).trans S4, e8⟩
    | rt e hh' =>
      cases e8
      exact P
  · have ei : i = xs.length := by omega
    subst ei
    rw [List.drop_length] at e4
    cases e4
    exact .inl ⟨W.stop Z2 H S2, P Z2 ρ2 σ H R2 (G1.stay.trans S2)⟩
end
end FF

set_option Elab.async false
set_option linter.all false
set_option maxRecDepth 100000
set_option maxHeartbeats 1000000
set_option autoImplicit false
/-! FFComp: list comprehensions. -/
namespace FF
open PySem PySem.Spec PyProof.Rows L2

def wipeS (st : List Sl) : List Nat → List Sl
  | [] => st
  | v :: vs => (wipeS st vs).set v .un
section
variable {g : G} {Z Z1 Z' : Addr → Prop} {ρ ρ1 ρ' : List Addr} {st : List Sl} {hh hh' : Hh} {σ : L2.St} {H H1 H' : Hp} {a : Addr} {u : HO}
theorem Rel.un2 (R : Rel g Z ρ st hh σ H) (i : Nat) : Rel g Z ρ (st.set i .un) hh (σ.set i none) H where
  grow := R.grow
  heap := R.heap
  len := by rw [List.length_set, List.length_set]; exact R.len
  slv := fun j v h => by
    by_cases e : i = j
    · subst e
      have hlt : i < st.length := by
        have := (List.getElem?_eq_some_iff.mp h).1
        rwa [List.length_set] at this
      rw [List.getElem?_set_self hlt] at h; cases h
    · rw [List.getElem?_set_ne e] at h ⊢; exact R.slv j v h
  slo := fun j v h => by
    by_cases e : i = j
    · subst e
      have hlt : i < st.length := by
        have := (List.getElem?_eq_some_iff.mp h).1
        rwa [List.length_set] at this
      rw [List.getElem?_set_self hlt] at h; cases h
    · rw [List.getElem?_set_ne e] at h ⊢; exact R.slo j v h
  sld := fun j k w w' a hjk h1 h2 => by
    have e1 : i ≠ j := fun e => by
      subst e
      have hlt : i < st.length := by
        have := (List.getElem?_eq_some_iff.mp h1).1
        rwa [List.length_set] at this
      rw [List.getElem?_set_self hlt] at h1; cases h1
    have e2 : i ≠ k := fun e => by
      subst e
      have hlt : i < st.length := by
        have := (List.getElem?_eq_some_iff.mp h2).1
        rwa [List.length_set] at this
      rw [List.getElem?_set_self hlt] at h2; cases h2
    rw [List.getElem?_set_ne e1] at h1 ⊢
    rw [List.getElem?_set_ne e2] at h2 ⊢
    exact R.sld j k w w' a hjk h1 h2
theorem Rel.wipe (R : Rel g Z ρ st hh σ H) : ∀ vs : List Nat, Rel g Z ρ (wipeS st vs) hh (L2.wipe σ vs) H
  | [] => R
  | v :: vs => (Rel.wipe R vs).un2 v
theorem wipe_wipe (σ : L2.St) (vs : List Nat) : L2.wipe (L2.wipe σ vs) vs = L2.wipe σ vs := by
  apply List.ext_getElem?
  intro j
  rw [wipe_get, wipe_get]
  by_cases h : j ∈ vs
  · rw [if_pos h, if_pos h]
    cases σ[j]? <;> rfl
  · rw [if_neg h, if_neg h]
theorem wipe_sub (σ σ' : L2.St) {vs ws : List Nat} (h : L2.wipe σ vs = L2.wipe σ' vs) (hs : ∀ i ∈ vs, i ∈ ws) : L2.wipe σ ws = L2.wipe σ' ws := by
  apply List.ext_getElem?
  intro j
  have q : (L2.wipe σ vs)[j]? = (L2.wipe σ' vs)[j]? := by rw [h]
  rw [wipe_get, wipe_get] at q ⊢
  by_cases hj : j ∈ ws
  · rw [if_pos hj, if_pos hj]
    have hl : σ.length = σ'.length := by
      have := congrArg List.length h
      rwa [wipe_length, wipe_length] at this
    by_cases hlt : j < σ.length
    · rw [List.getElem?_eq_getElem hlt, List.getElem?_eq_getElem (hl ▸ hlt)] <;> rfl
    · rw [List.getElem?_eq_none (by omega), List.getElem?_eq_none (by omega)]
  · have : j ∉ vs := fun hv => hj (hs j hv)
    rw [if_neg this, if_neg this] at q
    rw [if_neg hj, if_neg hj]
    exact q
/-- a new thing that no slot holds is written (or laid) -/
theorem Rel.writeF (R : Rel g Z ρ st hh σ H) (z : ¬ Z a) (n : a ∉ ρ) (f : g.H a = none) (fr : Fresh st σ a) : Rel g Z ρ st hh σ (upd H a u) := by
  have S : ∀ b w, Z b → Rd H b w → Rd (upd H a u) b w := fun b w zb rb => by
    have ne : b ≠ a := fun e => z (e ▸ zb)
    rcases rb with rb | ⟨q, rb⟩
    · exact .inl (by rw [upd_ne ne]; exact rb)
    · exact .inr ⟨q, by rw [upd_ne ne]; exact rb⟩
  have ob : ∀ {w : Ob} {b : Addr}, b ≠ a → RepOb g.K Z H w b → RepOb g.K Z (upd H a u) w b := fun {w b} ne q => by
    cases w with
    | lst xs => obtain ⟨vs, q1, q2⟩ := q; exact ⟨vs, by rw [upd_ne ne]; exact q1, q2.mono (fun _ h => h) S⟩
    | dct xs => obtain ⟨vs, q1, q2⟩ := q; exact ⟨vs, by rw [upd_ne ne]; exact q1, q2.mono (fun _ h => h) S⟩
  refine ⟨⟨R.grow.z, fun b w zb rb => S b w (R.grow.z b zb) (R.grow.rd b w zb rb), fun b w hb zb nb => ?_, R.grow.pre⟩, ⟨R.heap.len, fun k b w k1 k2 => ?_, R.heap.nd, fun b zb => ?_⟩, R.len, fun j v hv => ?_, fun j w hw => ?_, R.sld⟩
  · obtain ⟨q1, q2⟩ := R.grow.fr b w hb zb nb
    refine ⟨?_, q2⟩
    rw [upd_ne (fun e => by rw [e, f] at hb; cases hb)]
    exact q1
  · obtain ⟨q1, q2⟩ := R.heap.at_ k b w k1 k2
    exact ⟨ob (fun e => n (e ▸ List.mem_of_getElem? k1)) q1, q2⟩
  · have ne : b ≠ a := fun e => z (e ▸ zb)
    rw [upd_ne ne]
    exact R.heap.zt b zb
  · obtain ⟨x, q1, q2⟩ := R.slv j v hv
    refine ⟨x, q1, ?_⟩
    cases v with
    | d d => exact DZ.mono (fun _ h => h) S q2
    | ref k => exact q2
  · obtain ⟨b, q1, q2, q3, q4, q5⟩ := R.slo j w hw
    refine ⟨b, q1, ob (fun e => ?_) q2, q3, q4, q5⟩
    rw [e] at q1
    exact fr j w hw q1
theorem Grow.writeF (G : Grow Z1 ρ1 H1 Z ρ H) (z : ¬ Z a) (f : H1 a = none) : Grow Z1 ρ1 H1 Z ρ (upd H a u) := by
  refine ⟨G.z, fun b w zb rb => ?_, fun b w hb zb nb => ?_, G.pre⟩
  · have ne : b ≠ a := fun e => z (e ▸ G.z b zb)
    rcases G.rd b w zb rb with rb | ⟨q, rb⟩
    · exact .inl (by rw [upd_ne ne]; exact rb)
    · exact .inr ⟨q, by rw [upd_ne ne]; exact rb⟩
  · obtain ⟨q1, q2⟩ := G.fr b w hb zb nb
    refine ⟨?_, q2⟩
    rw [upd_ne (fun e => by rw [e, f] at hb; cases hb)]
    exact q1
end
theorem Ox.blk {g : G} {X : Cx} {s : Shared} {H : Hp} {scope : Scope} {ce : Env} {fp : List Addr} (O : Ox g X) : Ox g (X.blk s H scope ce fp) := ⟨O.k, O.calm, O.un⟩
def yes : Dv := fun _ hh => some (.bool true, hh)
theorem PTsw {X : Cx} {e : List Expr} {t t' : TT} (h : PTs X e t) (w : ∀ σ H Q, t' σ H Q → t σ H Q) : PTs X e t' := ⟨fun pins s σ H Q I q => h.run pins s σ H Q I (w σ H Q q)⟩
/-- [e for t in .. if c] -/
def compL (vs : List Nat) (t : Tg) (c e : Dv) : List D → List Sl → Hh → Option (List D × Hh)
  | [], _, hh => some ([], hh)
  | d :: ds, st, hh => (t (.v (.d d)) (wipeS st vs)).bind fun st' => (c st' hh).bind fun r => match r.1 with
    | .bool true => (e st' r.2).bind fun y => (compL vs t c e ds st y.2).map fun q => (y.1 :: q.1, q.2)
    | .bool false => compL vs t c e ds st r.2
    | _ => none
def eComp (vs : List Nat) (it : Itv) (t : Tg) (c e : Dv) : Ev := fun st hh => (it st hh).bind fun r => if fits r.1.length then (compL vs t c e r.1 st r.2).map fun q => (.o (.lst q.1), q.2) else none
section
variable {X : Cx} {g : G} {tg elt iter : Expr} {ifs : List Expr} {t : Tg} {idx vs : List Nat} {it : Itv} {c e : Dv}
theorem ts_nil : PTs X [] (tB g yes) := PTsw pts_nil fun σ H Q ⟨Z, ρ, st, hh, b, hh', R, e1, P⟩ => by
  cases e1
  exact P Z ρ H R (Grow.refl Z ρ H)
theorem ts_one {a : Expr} (h : PT X a (tB g c)) : PTs X [a] (tB g c) := pts_one h
/-- the loop's own story -/
theorem comp_read {σ : L2.St} {H : Hp} {Q : VK} (hidx : ∀ i ∈ idx, i ∈ vs) (h : tI g (eComp vs it t c e) σ H Q) : tLc (iI g it) (gI g t idx) (tB g c) (tD g e) vs σ H Q := by
  obtain ⟨Z, ρ, st, hh, w, hh', R, e1, P⟩ := h
  obtain ⟨⟨xs, h1⟩, e2, e3⟩ := Option.bind_eq_some_iff.mp e1
  split at e3
  case isFalse => cases e3
  rename_i hf
  have hf : xs.length ≤ sizeLine := fits_iff.mp hf
  obtain ⟨⟨res, h2⟩, e4, e5⟩ := Option.map_eq_some_iff.mp e3
  cases e5
  refine ⟨Z, ρ, st, hh, xs, h1, R, e2, fun Z1 ρ1 J H1 R1 G1 W D nD => ?_⟩
  have fD : g.H D = none := R1.newG nD
  have zD1 : ¬ Z1 D := fun z => R1.heap.zt D z nD
  have nD1 : D ∉ ρ1 := fun hm => R1.heap.trk D hm nD
  have fr1 : Fresh st σ D := fun k w k1 k2 => R1.tracked k1 k2 nD
  have Rw := R1.wipe vs
  have frw : Fresh (wipeS st vs) (wipe σ vs) D := fun k w k1 k2 => Rw.tracked k1 k2 nD
  refine ⟨fun i n H => n = xs.length - i ∧ i ≤ xs.length ∧ ∃ Z ρ hh acc vals rest, Rel g Z ρ st hh σ H ∧ Grow Z1 ρ1 H1 Z ρ H ∧ H D = some (.lst vals) ∧ DZs g.K Z H vals acc ∧ ¬ Z D ∧ D ∉ ρ ∧ compL vs t c e (xs.drop i) st hh = some (rest, h2) ∧ res = acc ++ rest ∧ acc.length ≤ i,
    ⟨xs.length, by simp, Nat.zero_le _, Z1, ρ1, h1, [], [], res, R1.writeF zD1 nD1 fD fr1, (Grow.refl Z1 ρ1 H1).writeF zD1 nD, upd_same, .nil, zD1, nD1, e4, rfl, Nat.le_refl _⟩, ?_⟩
  rintro i n H ⟨rfl, hi, Z2, ρ2, hh2, acc, vals, rest, R2, G2, eD, dz, zD, nD2, e5, er, la⟩
  by_cases hlt : i < xs.length
  · rw [List.drop_eq_getElem_cons hlt] at e5
    obtain ⟨st3, e6, e7⟩ := Option.bind_eq_some_iff.mp e5
    obtain ⟨⟨d3, h3⟩, e8, e9⟩ := Option.bind_eq_some_iff.mp e7
    refine .inr ⟨W.go i Z2 H hlt G2.stay, fun H => ∃ Z ρ hh acc vals rest, Rel g Z ρ st hh σ H ∧ Grow Z1 ρ1 H1 Z ρ H ∧ H D = some (.lst vals) ∧ DZs g.K Z H vals acc ∧ ¬ Z D ∧ D ∉ ρ ∧ compL vs t c e (xs.drop (i + 1)) st hh = some (rest, h2) ∧ res = acc ++ rest ∧ acc.length ≤ i + 1,
      fun H' h => ⟨xs.length - (i + 1), by omega, rfl, hlt, h⟩, fun x H' y => ?_⟩
    obtain ⟨Z3, pu, dzx⟩ := W.yld i _ Z2 H x H' (List.getElem?_eq_getElem hlt) G2.stay R2.heap.zt y
    have R3 := R2.pure pu
    have G3 := pu.grow ρ2
    refine ⟨Z3, ρ2, wipeS st vs, hh2, .v (.d xs[i]), st3, R3.wipe vs, dzx, e6, fun σ4 R4 W4 F4 => ⟨?_, ?_⟩⟩
    · exact (W4 vs hidx).trans (wipe_wipe σ vs)
    split at e9
    · rename_i hd
      have hd : d3 = .bool true := hd
      subst hd
      obtain ⟨⟨yd, h5⟩, e10, e11⟩ := Option.bind_eq_some_iff.mp e9
      obtain ⟨⟨rs, h6⟩, e12, e13⟩ := Option.map_eq_some_iff.mp e11
      cases e13
      refine ⟨Z3, ρ2, st3, hh2, true, h3, R4, e8, fun Z5 ρ5 H5 R5 G5 => ?_⟩
      refine iteT ?_
      refine ⟨Z5, ρ5, st3, h3, yd, h5, R5, e10, fun Z6 ρ6 yv H6 R6 G6 D6 => ?_⟩
      have Ga : Grow Z2 ρ2 H Z5 ρ5 H5 := G3.trans R3.heap G5
      have Gb : Grow Z2 ρ2 H Z6 ρ6 H6 := Ga.trans R5.heap G6
      obtain ⟨eD6, zD6⟩ := Gb.fr D _ eD zD nD2
      have nD6 := Gb.out eD nD2
      refine ⟨vals, eD6, by rw [dz.length]; omega, Z6, ρ6, h5, acc ++ [yd], vals ++ [yv], rs, ?_, ?_, upd_same, ?_, zD6, nD6, e12, by rw [er]; simp, by simp; omega⟩
      · exact (R2.step Gb R6.heap).writeF zD6 nD6 fD fr1
      · exact (G2.trans R2.heap Gb).writeF zD6 nD
      · have S : ∀ b w, Z6 b → Rd H6 b w → Rd (upd H6 D (.lst (vals ++ [yv]))) b w := fun b w zb rb => by
          have ne : b ≠ D := fun e => zD6 (e ▸ zb)
          rcases rb with rb | ⟨q, rb⟩
          · exact .inl (by rw [upd_ne ne]; exact rb)
          · exact .inr ⟨q, by rw [upd_ne ne]; exact rb⟩
        exact ((dz.grow Gb).append (.cons D6 .nil)).mono (fun _ h => h) S
    · rename_i hd
      have hd : d3 = .bool false := hd
      subst hd
      refine ⟨Z3, ρ2, st3, hh2, false, h3, R4, e8, fun Z5 ρ5 H5 R5 G5 => ?_⟩
      refine iteF ?_
      have Ga : Grow Z2 ρ2 H Z5 ρ5 H5 := G3.trans R3.heap G5
      obtain ⟨eD5, zD5⟩ := Ga.fr D _ eD zD nD2
      have nD5 := Ga.out eD nD2
      exact ⟨Z5, ρ5, h3, acc, vals, rest, R2.step Ga R5.heap, G2.trans R2.heap Ga, eD5, dz.grow Ga, zD5, nD5, e9, er, by omega⟩
    · cases e9
  · have ei : i = xs.length := by omega
    subst ei
    rw [List.drop_length] at e5
    cases e5
    rw [List.append_nil] at er
    subst er
    refine .inl ⟨W.stop Z2 H G2.stay, P Z2 ρ2 (.ref D) H R2 (G1.trans R1.heap G2) ⟨D, rfl, ⟨vals, eD, dz⟩, zD, nD2, G1.back R1.heap D nD⟩⟩
variable {scope : Scope} {own : List (Str × Nat)} {pos : Pos}
/-- three plain local names -/
theorem s_asg3 (i j k : Nat) {x y z : Str} {a b cc : Expr} {ma mb mc : Ev} {px py pz pt pt2 : Pos} {kt k2 : Nat} (O : Ox g X) (hN : X.N.Nodup) (hi : X.N[i]? = some x) (hj : X.N[j]? = some y) (hk : X.N[k]? = some z) (hij : i ≠ j) (hik : i ≠ k) (hjk : j ≠ k)
    (hx : X.env.scope.names.lookup x = some .local) (hy : X.env.scope.names.lookup y = some .local) (hz : X.env.scope.names.lookup z = some .local) (ha : PA X [a, b, cc] (aE g [ma, mb, mc]))
    (hw : swappedStores [.Tuple [.Name x px, .Name y py, .Name z pz] kt pt] (.Tuple [a, b, cc] k2 pt2) X.env = pure (some [x, y, z]))
    (hs : swapsWithSole [.Tuple [.Name x px, .Name y py, .Name z pz] kt pt] (.Tuple [a, b, cc] k2 pt2) pos.line X.env = pure false := by rfl) :
    PS X (.Assign [.Tuple [.Name x px, .Name y py, .Name z pz] kt pt] (.Tuple [a, b, cc] k2 pt2) pos) (sI g (sAsgs [tN i, tN j, tN k] [ma, mb, mc])) := by
  refine PSw (ps_par3 O.calm hN hi hj hk hij hik hjk hx hy hz ha hw hs) fun D σ H ⟨Z, ρ, st, hh, r, R, e1, P⟩ => ?_
  obtain ⟨⟨ws, h2⟩, e2, e3⟩ := Option.bind_eq_some_iff.mp e1
  obtain ⟨st', e4, rfl⟩ := Option.map_eq_some_iff.mp e3
  refine ⟨Z, ρ, st, hh, ws, h2, R, e2, fun Z1 ρ1 xs H1 R1 G1 E1 N1 => ?_⟩
  have hl := tAll_len e4
  match ws, xs, E1, hl, e4 with
  | [w1, w2, w3], [v1, v2, v3], E1, _, e4 =>
    cases e4
    refine ⟨v1, v2, v3, rfl, P Z1 ρ1 _ H1 ?_ G1.stay⟩
    -- one after the other
    have step : ∀ {i : Nat} {st : List Sl} {σ : L2.St} {w : EV} {v : V} {es : List EV} {vs : List V}, Rel g Z1 ρ1 st h2 σ H1 → RepEs g Z1 ρ1 st σ H1 (w :: es) (v :: vs) → Rel g Z1 ρ1 (st.set i w.sl) h2 (σ.set i (some v)) H1 ∧ RepEs g Z1 ρ1 (st.set i w.sl) (σ.set i (some v)) H1 es vs := by
      intro i st σ w v es vs R E
      cases E with
      | cons a b c =>
        refine ⟨R.set a i, b.after fun ad j u k1 k2 => ?_⟩
        have fr := b.fresh ad j u k1 k2
        intro m u' q1 q2
        by_cases hm : i = m
        · subst hm
          have hlt : i < st.length := by
            have := (List.getElem?_eq_some_iff.mp q1).1
            rwa [List.length_set] at this
          rw [List.getElem?_set_self hlt] at q1
          rw [List.getElem?_set_self (by rw [← R.len]; exact hlt)] at q2
          cases q2
          cases w with
          | v z => cases q1
          | o w' => exact c ad w' rfl rfl j u k1 k2
        · rw [List.getElem?_set_ne hm] at q1 q2
          exact fr m u' q1 q2
    obtain ⟨Ra, Ea⟩ := step (i := i) R1 E1
    obtain ⟨Rb, Eb⟩ := step (i := j) Ra Ea
    obtain ⟨Rc, _⟩ := step (i := k) Rb Eb
    exact Rc
theorem x_lc (O : Ox g X) (hN : X.N.Nodup) (hi : PI X tg iter (iI g it)) (ok : BlkOk X.N X.env.scope scope own)
    (hg : ∀ (s : Shared) (H : Hp) (C : Addr) (cl : List (Str × Addr)) (fp : List Addr), Ox g (X.blk s H scope (compEnvC scope cl C X.env) fp) → PG (X.blk s H scope (compEnvC scope cl C X.env) fp) tg (gI g t idx))
    (ht : ∀ (s : Shared) (H : Hp) (C : Addr) (cl : List (Str × Addr)) (fp : List Addr), Ox g (X.blk s H scope (compEnvC scope cl C X.env) fp) → PTs (X.blk s H scope (compEnvC scope cl C X.env) fp) ifs (tB g c))
    (he : ∀ (s : Shared) (H : Hp) (C : Addr) (cl : List (Str × Addr)) (fp : List Addr), Ox g (X.blk s H scope (compEnvC scope cl C X.env) fp) → PE (X.blk s H scope (compEnvC scope cl C X.env) fp) elt (tD g e))
    (hidx : ∀ i ∈ idx, i ∈ own.map (·.2) := by decide) (hs : ∀ x, foldedSetIterable iter X.env x = pure x := by intro _; rfl) :
    PE X (.ListComp elt [⟨tg, iter, ifs, 0⟩] scope pos) (tI g (eComp (own.map (·.2)) it t c e)) :=
  PEw (pe_lc O.calm hN hi ok (fun s H C cl fp => hg s H C cl fp O.blk) (fun s H C cl fp => ht s H C cl fp O.blk) (fun s H C cl fp => he s H C cl fp O.blk) hs) fun _ _ _ h => comp_read hidx h
theorem s_setLc (i : Nat) {y : Str} {py spos : Pos} (O : Ox g X) (hN : X.N.Nodup) (hy : X.N[i]? = some y) (hyl : X.env.scope.names.lookup y = some .local)
    (hsw : swapsWith (.ListComp elt [⟨tg, iter, ifs, 0⟩] scope pos) (some (.Name y py)) spos.line X.env = pure true) (hi : PI X tg iter (iI g it)) (ok : BlkOk X.N X.env.scope scope own)
    (hg : ∀ (s : Shared) (H : Hp) (C : Addr) (cl : List (Str × Addr)) (fp : List Addr), Ox g (X.blk s H scope (compEnvC scope cl C X.env) fp) → PG (X.blk s H scope (compEnvC scope cl C X.env) fp) tg (gI g t idx))
    (ht : ∀ (s : Shared) (H : Hp) (C : Addr) (cl : List (Str × Addr)) (fp : List Addr), Ox g (X.blk s H scope (compEnvC scope cl C X.env) fp) → PTs (X.blk s H scope (compEnvC scope cl C X.env) fp) ifs (tB g c))
    (he : ∀ (s : Shared) (H : Hp) (C : Addr) (cl : List (Str × Addr)) (fp : List Addr), Ox g (X.blk s H scope (compEnvC scope cl C X.env) fp) → PE (X.blk s H scope (compEnvC scope cl C X.env) fp) elt (tD g e))
    (hidx : ∀ i ∈ idx, i ∈ own.map (·.2) := by decide) (hs : ∀ x, foldedSetIterable iter X.env x = pure x := by intro _; rfl) :
    PS X (.Assign [.Name y py] (.ListComp elt [⟨tg, iter, ifs, 0⟩] scope pos) spos) (sI g (sSet i (eComp (own.map (·.2)) it t c e))) := by
  refine PSw (ps_setLc O.calm hN hy hyl hsw hi ok (fun s H C cl fp => hg s H C cl fp O.blk) (fun s H C cl fp => ht s H C cl fp O.blk) (fun s H C cl fp => he s H C cl fp O.blk) hs) fun D σ H ⟨Z, ρ, st, hh, r, R, e1, P⟩ => ?_
  obtain ⟨⟨w, h1⟩, e2, rfl⟩ := Option.map_eq_some_iff.mp e1
  exact comp_read hidx ⟨Z, ρ, st, hh, w, h1, R, e2, fun Z' ρ' x' H' R' G' E => P Z' ρ' _ H' (R'.set (E.rep R) i) G'.stay⟩
end
end FF

set_option Elab.async false
set_option linter.all false
set_option maxRecDepth 100000
set_option maxHeartbeats 1000000
set_option autoImplicit false
/-! FFCall: the program's own defs, and how they are called. -/
namespace FF
open PySem PySem.Spec PyProof.Rows L2
abbrev Fn := List Val → Hh → Option (EV × Hh)
def spF (K : PySem.W.Frag) (n : Nat) (F : Fn) : Sp := fun vs H Q _ => vs.length = n ∧ ∃ Z ρ hh as r hh', HeapRep K Z ρ hh H ∧ RepVs K Z ρ H as vs ∧ F as hh = some (r, hh') ∧
  ∀ Z' ρ' x H', Grow Z ρ H Z' ρ' H' → HeapRep K Z' ρ' hh' H' → RepEV K Z' ρ' H H' r x → Q x H'
def mkFn (n ns : Nat) (m : Sv) : Fn := fun as hh => if as.length = n then (m (as.map .val ++ List.replicate (ns - n) .un) hh).bind fun r => match r with
  | .rt e hh' => some (e, hh')
  | .nx _ hh' => some (.v (.d .none), hh') else none
/-- a def as the module binds it -/
structure FC (P : Program) (w : World) (K : PySem.W.Frag) (mg : Str → Option Value) (base : Heap) (k : Nat) (x : Str) (n : Nat) (F : Fn) : Prop where
  ex : ∃ (f : Addr) (fd : FuncData) (ps : List Str), FnOk P w K mg base CX0 k f fd ps (spF K n F) ∧ mg x = some (.ref f) ∧ PySem.W.keepIn K (.ref f) = true ∧ Binds K fd ps []
theorem FC.mono {P : Program} {w : World} {K : PySem.W.Frag} {mg : Str → Option Value} {base : Heap} {j k : Nat} {x : Str} {n : Nat} {F : Fn} (c : FC P w K mg base j x n F) (h : j ≤ k) : FC P w K mg base k x n F := by
  obtain ⟨f, fd, ps, a, b, d, e⟩ := c.ex
  exact ⟨f, fd, ps, a.mono h, b, d, e⟩
theorem RepVs.length {K : PySem.W.Frag} {Z : Addr → Prop} {ρ : List Addr} {H : Hp} : ∀ {as : List Val} {vs : List V}, RepVs K Z ρ H as vs → as.length = vs.length
  | _, _, .nil => rfl
  | _, _, .cons _ b => by simp [RepVs.length b]
theorem RepVs.get {K : PySem.W.Frag} {Z : Addr → Prop} {ρ : List Addr} {H : Hp} : ∀ {as : List Val} {vs : List V} {i : Nat} {a : Val}, RepVs K Z ρ H as vs → as[i]? = some a → ∃ v, vs[i]? = some v ∧ RepV K Z ρ H a v
  | _, _, _, _, .nil, e => by simp at e
  | _, _, 0, _, .cons a _, e => by simp at e; subst e; exact ⟨_, rfl, a⟩
  | _, _, i + 1, _, .cons _ b, e => by
    obtain ⟨v, h1, h2⟩ := RepVs.get (i := i) b (by simpa using e)
    exact ⟨v, by simpa using h1, h2⟩
abbrev cxF (P : Program) (w : World) (K : PySem.W.Frag) (mg : Str → Option Value) (base : Heap) (N : List Str) (x : Str) (sc : Scope) (f : Addr) (cdv : Value) (A : Around) (outer : List Env) (s : Shared) (H : Hp) (E : XK) : Cx :=
  (cxOf CX0 P w K mg base N x sc f cdv A outer s H E).nox
theorem start_rel {K : PySem.W.Frag} {Z : Addr → Prop} {ρ : List Addr} {H : Hp} {hh : Hh} {as : List Val} {vs : List V} {N : List Str} (hr : HeapRep K Z ρ hh H) (rv : RepVs K Z ρ H as vs) : Rel ⟨K, Z, ρ, H⟩ Z ρ (as.map .val ++ List.replicate (N.length - as.length) .un) hh (L2.start N vs) H where
  grow := Grow.refl Z ρ H
  heap := hr
  len := by unfold L2.start; simp [rv.length]
  slv := fun i v h => by
    by_cases hi : i < as.length
    · rw [List.getElem?_append_left (by simpa using hi), List.getElem?_map] at h
      obtain ⟨a, h1, h2⟩ := Option.map_eq_some_iff.mp h
      cases h2
      obtain ⟨x, q1, q2⟩ := rv.get h1
      refine ⟨x, ?_, q2⟩
      unfold L2.start
      rw [List.getElem?_append_left (by have := rv.length; simp; omega), List.getElem?_map, q1]
      rfl
    · rw [List.getElem?_append_right (by simpa using hi), List.getElem?_replicate] at h
      split at h <;> cases h
  slo := fun i o h => by
    by_cases hi : i < as.length
    · rw [List.getElem?_append_left (by simpa using hi), List.getElem?_map] at h
      obtain ⟨a, h1, h2⟩ := Option.map_eq_some_iff.mp h
      cases h2
    · rw [List.getElem?_append_right (by simpa using hi), List.getElem?_replicate] at h
      split at h <;> cases h
  sld := fun i j o o' a _ h => by
    by_cases hi : i < as.length
    · rw [List.getElem?_append_left (by simpa using hi), List.getElem?_map] at h
      obtain ⟨a, h1, h2⟩ := Option.map_eq_some_iff.mp h
      cases h2
    · rw [List.getElem?_append_right (by simpa using hi), List.getElem?_replicate] at h
      split at h <;> cases h
section
variable {P : Program} {w : World} {K : PySem.W.Frag} {mg : Str → Option Value} {base : Heap} {x : Str}
/-- a def by its body -/
theorem fnok_of {params : Arguments} {body : List Stmt} {scope : Scope} {f : Addr} {fd : FuncData} {N ps : List Str} {k n : Nat} {m : Sv} (F : FunD K x x params body scope [] [] f fd) (S : FnScope N ps scope) (hn : ps.length = n)
    (ho : ∀ (cdv : Value) (A : Around) (outer : List Env) (s : Shared) (H : Hp) (E : XK) (g : G), Ox g (cxF P w K mg base N x scope f cdv A outer s H E) → Room k (cxF P w K mg base N x scope f cdv A outer s H E).A → PSs (cxF P w K mg base N x scope f cdv A outer s H E) body (sI g m)) :
    FnOk P w K mg base CX0 (k + 1) f fd ps (spF K n (mkFn n N.length m)) := by
  refine F.ok S (fun vs H Q E h => by rw [h.1, hn]) fun cdv A outer s H vs Q E hr h => ?_
  obtain ⟨hl, Z, ρ, hh, as, r, hh', hrep, rv, hF, P'⟩ := h
  refine ⟨_, (ho cdv A outer s H E ⟨K, Z, ρ, H⟩ ⟨rfl, rfl, by have := hr.un; show A.units + 3 + 100 < cLine; have : (A.deeper (envOfC x scope s.heap.objs.size f cdv)).units = A.units + 3 := rfl; omega⟩ hr).nox, ?_⟩
  unfold mkFn at hF
  have hal : as.length = n := by rw [rv.length, hl]
  rw [if_pos hal] at hF
  obtain ⟨q, e1, e2⟩ := Option.bind_eq_some_iff.mp hF
  rw [← hal] at e1
  refine ⟨Z, ρ, _, hh, q, start_rel hrep rv, e1, ?_⟩
  cases q with
  | nx st h1 =>
    cases e2
    exact fun Z' ρ' σ' H' R' _ => P' Z' ρ' .non H' R'.grow R'.heap .non
  | rt e h1 =>
    cases e2
    exact fun Z' ρ' x H' R' E' => P' Z' ρ' x H' R'.grow R'.heap E'
theorem fc_of {params : Arguments} {body : List Stmt} {scope : Scope} {f : Addr} {fd : FuncData} {N ps : List Str} {k n : Nat} {m : Sv} (F : FunD K x x params body scope [] [] f fd) (hmg : mg x = some (.ref f)) (hb : Binds K fd ps []) (S : FnScope N ps scope) (hn : ps.length = n)
    (ho : ∀ (cdv : Value) (A : Around) (outer : List Env) (s : Shared) (H : Hp) (E : XK) (g : G), Ox g (cxF P w K mg base N x scope f cdv A outer s H E) → Room k (cxF P w K mg base N x scope f cdv A outer s H E).A → PSs (cxF P w K mg base N x scope f cdv A outer s H E) body (sI g m)) :
    FC P w K mg base (k + 1) x n (mkFn n N.length m) := ⟨f, fd, ps, fnok_of F S hn ho, hmg, F.kp, hb⟩
/-- a def that promises nothing -/
theorem fc_none {params : Arguments} {body : List Stmt} {scope : Scope} {f : Addr} {fd : FuncData} {ps : List Str} {k n : Nat} (F : FunD K x x params body scope [] [] f fd) (hmg : mg x = some (.ref f)) (hb : Binds K fd ps []) (hn : ps.length = n) :
    FC P w K mg base k x n (fun _ _ => none) := by
  refine ⟨f, fd, ps, ⟨fun vs H Q E h => by rw [h.1, hn], fun A outer s H args us vs Q E _ _ _ _ h => ?_⟩, hmg, F.kp, hb⟩
  obtain ⟨_, _, _, _, _, _, _, _, _, h, _⟩ := h
  cases h
end
def eCall (F : Fn) (ms : List Vv) : Ev := fun st hh => (evv ms st hh).bind fun r => F r.1 r.2
theorem evv_length : ∀ {ms : List Vv} {st : List Sl} {hh hh' : Hh} {ds : List Val}, evv ms st hh = some (ds, hh') → ds.length = ms.length
  | [], _, _, _, _, h => by cases h; rfl
  | m :: ms, st, hh, hh', ds, h => by
    obtain ⟨r, _, h2⟩ := Option.bind_eq_some_iff.mp h
    obtain ⟨q, h3, h4⟩ := Option.map_eq_some_iff.mp h2
    cases h4
    simp [evv_length (ds := q.1) (hh' := q.2) h3]
section
variable {X : Cx} {g : G} {x : Str} {e : Expr} {es : List Expr} {p pos : Pos} {F : Fn} {ms : List Vv} {k n : Nat}
theorem x_call (O : Ox g X) (c : FC X.prog X.w X.K X.mg X.base k x n F) (hr : Room k X.A) (hg : Gl X x) (ha : PA X (e :: es) (aV g ms)) (hn : ms.length = n := by rfl) (hdb : (x == ("__debug__" : Str)) = false := by decide)
    (he : starEach (e :: es) X.env = (false, eval e X.env) :: starEach es X.env := by rfl) (hpl : (backTo pos (starEach es X.env)).any (·.1) = false := by rfl) : PE X (.Call (.Name x p) (e :: es) [] pos) (tI g (eCall F ms)) := by
  obtain ⟨f, fd, ps, Fo, hm, hk, hb⟩ := c.ex
  refine PEw (pe_call Fo hr hg hm hk hb .nil pass0 ha hdb he hpl) fun σ H Q ⟨Z, ρ, st, hh, w, hh', R, e1, P⟩ => ?_
  obtain ⟨⟨as, h1⟩, e2, e3⟩ := Option.bind_eq_some_iff.mp e1
  refine ⟨Z, ρ, st, hh, as, h1, R, e2, fun Z1 ρ1 vs H1 R1 G1 V1 => ?_⟩
  show spF X.K n F (vs ++ []) H1 Q E0
  rw [List.append_nil]
  refine ⟨by rw [← V1.length, evv_length e2, hn], Z1, ρ1, h1, as, w, hh', ?_, ?_, e3, fun Z2 ρ2 y H2 G2 hr2 E2 => ?_⟩
  · rw [O.k]; exact R1.heap
  · rw [O.k]; exact V1
  · rw [O.k] at hr2 E2
    exact P Z2 ρ2 y H2 (R1.step G2 hr2) (G1.trans R1.heap G2) (E2.back (G1.back R1.heap))
theorem x_call0 (O : Ox g X) (c : FC X.prog X.w X.K X.mg X.base k x 0 F) (hr : Room k X.A) (hg : Gl X x) (hdb : (x == ("__debug__" : Str)) = false := by decide) : PE X (.Call (.Name x p) [] [] pos) (tI g (eCall F [])) := by
  obtain ⟨f, fd, ps, Fo, hm, hk, hb⟩ := c.ex
  refine PEw (pe_call0 Fo hr hg hm hk hb .nil pass0 hdb) fun σ H Q ⟨Z, ρ, st, hh, w, hh', R, e1, P⟩ => ?_
  obtain ⟨⟨as, h1⟩, e2, e3⟩ := Option.bind_eq_some_iff.mp e1
  cases e2
  refine ⟨rfl, Z, ρ, hh, [], w, hh', ?_, .nil, e3, fun Z2 ρ2 y H2 G2 hr2 E2 => ?_⟩
  · rw [O.k]; exact R.heap
  · rw [O.k] at hr2 E2
    exact P Z2 ρ2 y H2 (R.step G2 hr2) G2 E2
end
/-! ### built-ins by values -/
def rF (g : G) (f : List D → Option EV) : List V → Hp → VK → Prop := fun xs H Q => ∃ Z ρ as e, (∀ c, Z c → H c ≠ none) ∧ (∀ c, c ∈ ρ → H c ≠ none) ∧ RepCs g Z ρ H as xs ∧ f as = some e ∧
  ∀ Z' z H', Pure Z H Z' H' → RepEV g.K Z' ρ H H' e z → Q z H'
def eFn (f : List D → Option EV) (ms : List Dv) : Ev := fun st hh => (evd ms st hh).bind fun r => (f r.1).map fun e => (e, r.2)
section
variable {X : Cx} {g : G} {x : Str} {e : Expr} {es : List Expr} {p pos : Pos} {f : List D → Option EV} {ms : List Dv} {id T : String}
theorem fn_read {σ : L2.St} {H : Hp} {Q : VK} (h : tI g (eFn f ms) σ H Q) : tCB (rF g f) (aC g ms) σ H Q := by
  obtain ⟨Z, ρ, st, hh, w, hh', R, e1, P⟩ := h
  obtain ⟨⟨ds, h1⟩, e2, e3⟩ := Option.bind_eq_some_iff.mp e1
  obtain ⟨w', e4, e5⟩ := Option.map_eq_some_iff.mp e3
  cases e5
  refine ⟨Z, ρ, st, hh, ds, h1, R, e2, fun Z1 ρ1 vs H1 R1 G1 C1 => ⟨Z1, ρ1, ds, w, R1.heap.zt, R1.heap.trk, C1, e4, fun Z2 z H2 pu rv => ?_⟩⟩
  exact P Z2 ρ1 z H2 (R1.pure pu) (G1.trans R1.heap (pu.grow ρ1)) (rv.back (G1.back R1.heap))
theorem x_fnB (hc : CallR X (.builtin id) (rF g f)) (hg : Gl X x) (hm : X.mg x = none) (hv : bootBuiltins x = some (.builtin id)) (ha : PA X (e :: es) (aC g ms)) (hn : x ≠ "__name__" := by decide) (hdb : (x == ("__debug__" : Str)) = false := by decide)
    (he : starEach (e :: es) X.env = (false, eval e X.env) :: starEach es X.env := by rfl) (hpl : (backTo pos (starEach es X.env)).any (·.1) = false := by rfl) : PE X (.Call (.Name x p) (e :: es) [] pos) (tI g (eFn f ms)) :=
  PEw (pe_callB hc hg hm hv ha hn hdb he hpl) fun _ _ _ h => fn_read h
theorem x_fnT (hc : CallR X (.type T) (rF g f)) (hg : Gl X x) (hm : X.mg x = none) (hv : bootBuiltins x = some (.type T)) (ha : PA X (e :: es) (aC g ms)) (hn : x ≠ "__name__" := by decide) (hdb : (x == ("__debug__" : Str)) = false := by decide)
    (he : starEach (e :: es) X.env = (false, eval e X.env) :: starEach es X.env := by rfl) (hpl : (backTo pos (starEach es X.env)).any (·.1) = false := by rfl) : PE X (.Call (.Name x p) (e :: es) [] pos) (tI g (eFn f ms)) :=
  PEw (pe_callTy hc hg hm hv ha hn hdb he hpl) fun _ _ _ h => fn_read h
end
end FF

set_option Elab.async false
set_option linter.all false
set_option maxRecDepth 100000
set_option maxHeartbeats 1000000
set_option autoImplicit false
/-! FFBuilt: built-in functions and methods by values. -/
namespace FF
open PySem PySem.Spec PyProof.Rows L2
theorem CallR.imp {X : Cx} {f : Value} {r r' : List V → Hp → VK → Prop} (h : CallR X f r) (w : ∀ xs H Q, r' xs H Q → r xs H Q) : CallR X f r' := fun pins s σ H xs us Q I rv q => h pins s σ H xs us Q I rv (w xs H Q q)
/-! ### isinstance -/
def tyD : D → String
  | .none => "NoneType"
  | .bool _ => "bool"
  | .int _ => "int"
  | .str _ => "str"
  | .list _ => "list"
  | .tuple _ => "tuple"
  | .dict _ => "dict"
def instT (T t : String) : Bool := match kitB t T with
  | some b => b
  | none => false
def instD (T : String) (d : D) : Bool := instT T (tyD d)
def eIs (T : String) (m : Dv) : Ev := fun st hh => (m st hh).map fun r => (.v (.d (.bool (instD T r.1))), r.2)
section
variable {X : Cx} {g : G} {Z : Addr → Prop} {ρ : List Addr} {H : Hp} {d : D} {x : V}
theorem Rd.tyL {K : PySem.W.Frag} {a : Addr} {xs : List V} (h : Rd H a (.lst xs)) : TyX K H (.ref a) (.type "list") := by
  rcases h with h | ⟨o, h⟩
  · exact .base (.lst h)
  · exact .base (.frz h)
theorem RepC.ty (h : RepC g Z ρ H d x) : TyX g.K H x (.type (tyD d)) := by
  rcases h with h | ⟨a, o, rfl, rfl, r, _⟩
  · cases h with
    | non => exact .base .non
    | bl b => exact .base (.bl b)
    | int i => exact .base (.int i)
    | str s => exact .base (.str s)
    | lst a b => exact Rd.tyL a.2
    | tup a b =>
      rcases a with ⟨_, a | ⟨o, a⟩⟩ | ⟨o, its, n, k, c, _⟩
      · exact .base (.tup a)
      · exact .fTuple a
      · exact .kTuple k c
    | dct z r k =>
      rcases r with r | ⟨o, r⟩
      · exact .base (.dK r)
      · exact .fDict r
  · cases o with
    | lst xs =>
      obtain ⟨vs, h1, _⟩ := r
      exact .base (.lst h1)
    | dct ks =>
      obtain ⟨vs, h1, _⟩ := r
      exact .base (.dK h1)
theorem kit_all (d : D) (T : String) (hT : ∀ t, t ∈ ["NoneType", "bool", "int", "str", "list", "tuple", "dict"] → (kitB t T).isSome = true) : kitB (tyD d) T = some (instD T d) := by
  have := hT (tyD d) (by cases d <;> simp [tyD])
  unfold instD instT
  cases q : kitB (tyD d) T with
  | none => rw [q] at this; cases this
  | some b => rfl
theorem x_isinst (T : String) {tn : Str} {e : Expr} {m : Dv} {p p2 pos : Pos} (O : Ox g X) (hg : Gl X "isinstance") (hm : X.mg "isinstance" = none) (hg2 : Gl X tn) (hm2 : X.mg tn = none) (hv : bootBuiltins tn = some (.type T)) (he : PE X e (tC g m))
    (hT : ∀ t, t ∈ ["NoneType", "bool", "int", "str", "list", "tuple", "dict"] → (kitB t T).isSome = true) (hn : tn ≠ "__name__" := by decide) (hdb : (tn == ("__debug__" : Str)) = false := by decide)
    (hs : starEach [e, .Name tn p2] X.env = (false, eval e X.env) :: starEach [.Name tn p2] X.env := by rfl) : PE X (.Call (.Name "isinstance" p) [e, .Name tn p2] [] pos) (tI g (eIs T m)) := by
  refine PEw (pe_callB call_isi hg hm PyProof.Rows.boot_isinstance (pa_cons he (pa_cons (pe_bltn (v := .ty T) hg2 hm2 hv rfl hn hdb) pa_nil) hs) (he := hs)) fun σ H Q ⟨Z, ρ, st, hh, w, hh', R, e1, P⟩ => ?_
  obtain ⟨⟨d, h1⟩, e2, e3⟩ := Option.map_eq_some_iff.mp e1
  cases e3
  refine ⟨Z, ρ, st, hh, d, h1, R, e2, fun Z1 ρ1 x H1 R1 G1 C1 => ?_⟩
  refine ⟨x, .ty T, .type (tyD d), .type T, instD T d, rfl, .ty T, ?_, kit_ty (kit_all d T hT), P Z1 ρ1 _ H1 R1 G1 (.bl _)⟩
  rw [O.k]
  exact C1.ty
end
theorem kit_int : ∀ t, t ∈ ["NoneType", "bool", "int", "str", "list", "tuple", "dict"] → (kitB t "int").isSome = true := by decide +kernel
theorem kit_bool : ∀ t, t ∈ ["NoneType", "bool", "int", "str", "list", "tuple", "dict"] → (kitB t "bool").isSome = true := by decide +kernel
theorem kit_str : ∀ t, t ∈ ["NoneType", "bool", "int", "str", "list", "tuple", "dict"] → (kitB t "str").isSome = true := by decide +kernel
theorem kit_list : ∀ t, t ∈ ["NoneType", "bool", "int", "str", "list", "tuple", "dict"] → (kitB t "list").isSome = true := by decide +kernel
theorem kit_tuple : ∀ t, t ∈ ["NoneType", "bool", "int", "str", "list", "tuple", "dict"] → (kitB t "tuple").isSome = true := by decide +kernel
theorem kit_dict : ∀ t, t ∈ ["NoneType", "bool", "int", "str", "list", "tuple", "dict"] → (kitB t "dict").isSome = true := by decide +kernel
theorem inst_int (d : D) : instD "int" d = match d with | .int _ => true | .bool _ => true | _ => false := match d with
  | .none => (by decide +kernel : instT "int" "NoneType" = false)
  | .bool _ => (by decide +kernel : instT "int" "bool" = true)
  | .int _ => (by decide +kernel : instT "int" "int" = true)
  | .str _ => (by decide +kernel : instT "int" "str" = false)
  | .list _ => (by decide +kernel : instT "int" "list" = false)
  | .tuple _ => (by decide +kernel : instT "int" "tuple" = false)
  | .dict _ => (by decide +kernel : instT "int" "dict" = false)
theorem inst_bool (d : D) : instD "bool" d = match d with | .bool _ => true | _ => false := match d with
  | .none => (by decide +kernel : instT "bool" "NoneType" = false)
  | .bool _ => (by decide +kernel : instT "bool" "bool" = true)
  | .int _ => (by decide +kernel : instT "bool" "int" = false)
  | .str _ => (by decide +kernel : instT "bool" "str" = false)
  | .list _ => (by decide +kernel : instT "bool" "list" = false)
  | .tuple _ => (by decide +kernel : instT "bool" "tuple" = false)
  | .dict _ => (by decide +kernel : instT "bool" "dict" = false)
theorem inst_str (d : D) : instD "str" d = match d with | .str _ => true | _ => false := match d with
  | .none => (by decide +kernel : instT "str" "NoneType" = false)
  | .bool _ => (by decide +kernel : instT "str" "bool" = false)
  | .int _ => (by decide +kernel : instT "str" "int" = false)
  | .str _ => (by decide +kernel : instT "str" "str" = true)
  | .list _ => (by decide +kernel : instT "str" "list" = false)
  | .tuple _ => (by decide +kernel : instT "str" "tuple" = false)
  | .dict _ => (by decide +kernel : instT "str" "dict" = false)
theorem inst_list (d : D) : instD "list" d = match d with | .list _ => true | _ => false := match d with
  | .none => (by decide +kernel : instT "list" "NoneType" = false)
  | .bool _ => (by decide +kernel : instT "list" "bool" = false)
  | .int _ => (by decide +kernel : instT "list" "int" = false)
  | .str _ => (by decide +kernel : instT "list" "str" = false)
  | .list _ => (by decide +kernel : instT "list" "list" = true)
  | .tuple _ => (by decide +kernel : instT "list" "tuple" = false)
  | .dict _ => (by decide +kernel : instT "list" "dict" = false)
theorem inst_tuple (d : D) : instD "tuple" d = match d with | .tuple _ => true | _ => false := match d with
  | .none => (by decide +kernel : instT "tuple" "NoneType" = false)
  | .bool _ => (by decide +kernel : instT "tuple" "bool" = false)
  | .int _ => (by decide +kernel : instT "tuple" "int" = false)
  | .str _ => (by decide +kernel : instT "tuple" "str" = false)
  | .list _ => (by decide +kernel : instT "tuple" "list" = false)
  | .tuple _ => (by decide +kernel : instT "tuple" "tuple" = true)
  | .dict _ => (by decide +kernel : instT "tuple" "dict" = false)
theorem inst_dict (d : D) : instD "dict" d = match d with | .dict _ => true | _ => false := match d with
  | .none => (by decide +kernel : instT "dict" "NoneType" = false)
  | .bool _ => (by decide +kernel : instT "dict" "bool" = false)
  | .int _ => (by decide +kernel : instT "dict" "int" = false)
  | .str _ => (by decide +kernel : instT "dict" "str" = false)
  | .list _ => (by decide +kernel : instT "dict" "list" = false)
  | .tuple _ => (by decide +kernel : instT "dict" "tuple" = false)
  | .dict _ => (by decide +kernel : instT "dict" "dict" = true)
/-! ### the functions -/
def fLen : List D → Option EV
  | [.list xs] => some (.v (.d (.int xs.length)))
  | [.tuple xs] => some (.v (.d (.int xs.length)))
  | [.str x] => if fits x.length then some (.v (.d (.int x.length))) else none
  | _ => none
def fInt : List D → Option EV
  | [.int i] => some (.v (.d (.int i)))
  | [.bool b] => some (.v (.d (.int (if b then 1 else 0))))
  | _ => none
def fAbs : List D → Option EV
  | [.int i] => some (.v (.d (.int (if i < 0 then -i else i))))
  | _ => none
def fMin2 : List D → Option EV
  | [.int i, .int j] => some (.v (.d (.int (if j < i then j else i))))
  | _ => none
def fMax2 : List D → Option EV
  | [.int i, .int j] => some (.v (.d (.int (if j > i then j else i))))
  | _ => none
def fList : List D → Option EV
  | [.list xs] => some (.o (.lst xs))
  | [.tuple xs] => some (.o (.lst xs))
  | [.str x] => if fits x.length then some (.o (.lst (signsD x))) else none
  | _ => none
def fTuple : List D → Option EV
  | [.list xs] => some (.v (.d (.tuple xs)))
  | [.tuple xs] => some (.v (.d (.tuple xs)))
  | [.str x] => if fits x.length then some (.v (.d (.tuple (signsD x)))) else none
  | _ => none
def truthD : D → Option Bool
  | .bool b => some b
  | _ => none
def fAll : List D → Option EV
  | [.list xs] => (xs.mapM truthD).map fun bs => .v (.d (.bool (bs.all id)))
  | _ => none
section
variable {X : Cx} {g : G}
theorem RepCs.one {Z : Addr → Prop} {ρ : List Addr} {H : Hp} {a : D} {xs : List V} (h : RepCs g Z ρ H [a] xs) : ∃ x, xs = [x] ∧ RepC g Z ρ H a x := by
  cases h with
  | cons h r => cases r; exact ⟨_, rfl, h⟩
theorem RepCs.two {Z : Addr → Prop} {ρ : List Addr} {H : Hp} {a b : D} {xs : List V} (h : RepCs g Z ρ H [a, b] xs) : ∃ x y, xs = [x, y] ∧ RepC g Z ρ H a x ∧ RepC g Z ρ H b y := by
  cases h with
  | cons h r => obtain ⟨y, rfl, h2⟩ := r.one; exact ⟨_, _, rfl, h, h2⟩
theorem c_len (O : Ox g X) : CallR X (.builtin "len") (rF g fLen) := by
  intro pins s σ H xs us Q I rv ⟨Z, ρ, as, e, zt, tr, C, hf, P⟩
  unfold fLen at hf
  split at hf
  · cases hf
    obtain ⟨x, rfl, c⟩ := C.one
    obtain ⟨p, vs, rfl, h1, h2⟩ := c.lst
    exact call_len_seq pins s σ H _ us Q I rv ⟨p, vs, rfl, .inl (.inl h1), give_d zt P (by rw [h2.length]; exact .int _)⟩
  · cases hf
    obtain ⟨x, rfl, c⟩ := C.one
    obtain ⟨p, vs, rfl, h1, h2⟩ := c.tup
    rw [← O.k] at h1
    exact call_len_seq pins s σ H _ us Q I rv ⟨p, vs, rfl, .inr h1, give_d zt P (by rw [h2.length]; exact .int _)⟩
  · split at hf
    · rename_i c
      cases hf
      obtain ⟨x, rfl, k⟩ := C.one
      cases k.str
      exact call_len_str pins s σ H _ us Q I rv ⟨_, rfl, fits_iff.mp c, give_d zt P (.int _)⟩
    · cases hf
  · cases hf
theorem c_int : CallR X (.type "int") (rF g fInt) := by
  intro pins s σ H xs us Q I rv ⟨Z, ρ, as, e, zt, tr, C, hf, P⟩
  unfold fInt at hf
  split at hf
  · cases hf
    obtain ⟨x, rfl, c⟩ := C.one
    cases c.int
    exact call_int1 pins s σ H _ us Q I rv (.inl ⟨_, rfl, give_d zt P (.int _)⟩)
  · cases hf
    obtain ⟨x, rfl, c⟩ := C.one
    cases c.bool
    exact call_int1 pins s σ H _ us Q I rv (.inr ⟨_, rfl, give_d zt P (.int _)⟩)
  · cases hf
theorem c_abs : CallR X (.builtin "abs") (rF g fAbs) := by
  intro pins s σ H xs us Q I rv ⟨Z, ρ, as, e, zt, tr, C, hf, P⟩
  unfold fAbs at hf
  split at hf
  · cases hf
    obtain ⟨x, rfl, c⟩ := C.one
    cases c.int
    exact call_abs pins s σ H _ us Q I rv ⟨_, rfl, give_d zt P (.int _)⟩
  · cases hf
theorem c_min2 (O : Ox g X) : CallR X (.builtin "min") (rF g fMin2) := by
  intro pins s σ H xs us Q I rv ⟨Z, ρ, as, e, zt, tr, C, hf, P⟩
  unfold fMin2 at hf
  split at hf
  · cases hf
    obtain ⟨x, y, rfl, c, c2⟩ := C.two
    cases c.int; cases c2.int
    exact call_min2 O.calm pins s σ H _ us Q I rv ⟨_, _, rfl, give_d zt P (.int _)⟩
  · cases hf
theorem c_max2 (O : Ox g X) : CallR X (.builtin "max") (rF g fMax2) := by
  intro pins s σ H xs us Q I rv ⟨Z, ρ, as, e, zt, tr, C, hf, P⟩
  unfold fMax2 at hf
  split at hf
  · cases hf
    obtain ⟨x, y, rfl, c, c2⟩ := C.two
    cases c.int; cases c2.int
    exact call_max2 O.calm pins s σ H _ us Q I rv ⟨_, _, rfl, give_d zt P (.int _)⟩
  · cases hf
theorem vals_signs {x : Str} {acc : Array Value} (h : ItemsOf (SignAt x) acc x.cps.size) : Vals (signs x) acc.toList := by
  have hl : (signs x).length = acc.toList.length := by simp [signs, h.1]
  have go : ∀ {vs : List V} {us : List Value}, vs.length = us.length → (∀ (i : Nat) (v : V) (u : Value), vs[i]? = some v → us[i]? = some u → RelV v u) → Vals vs us := by
    intro vs
    induction vs with
    | nil => intro us hl _; cases us with | nil => exact .nil | cons _ _ => simp at hl
    | cons v vs ih =>
      intro us hl h
      cases us with
      | nil => simp at hl
      | cons u us => exact .cons (h 0 v u rfl rfl) (ih (by simpa using hl) fun i v' u' h1 h2 => h (i + 1) v' u' (by simpa using h1) (by simpa using h2))
  refine go hl fun i v u h1 h2 => ?_
  obtain ⟨c, t, hc, rfl⟩ := h.2 i u (by simpa using h2)
  have : v = .str ⟨#[c]⟩ := by
    simp [signs, hc] at h1
    exact h1.symm
  subst this
  exact ⟨t, rfl⟩
theorem c_list (O : Ox g X) : CallR X (.type "list") (rF g fList) := by
  intro pins s σ H xs us Q I rv ⟨Z, ρ, as, e, zt, tr, C, hf, P⟩
  unfold fList at hf
  split at hf
  · cases hf
    obtain ⟨x, rfl, c⟩ := C.one
    obtain ⟨p, vs, rfl, h1, h2⟩ := c.lst
    exact call_list_of pins s σ H _ us Q I rv ⟨p, vs, rfl, .inl (.inl h1), give_lst zt tr P h2⟩
  · cases hf
    obtain ⟨x, rfl, c⟩ := C.one
    obtain ⟨p, vs, rfl, h1, h2⟩ := c.tup
    rw [← O.k] at h1
    exact call_list_of pins s σ H _ us Q I rv ⟨p, vs, rfl, .inr h1, give_lst zt tr P h2⟩
  · split at hf
    · rename_i z c
      cases hf
      obtain ⟨x, rfl, k⟩ := C.one
      cases k.str
      obtain ⟨u, rfl, t, rfl⟩ := vals1 rv
      have hz : z.cps.size ≤ sizeLine := fits_iff.mp c
      refine PySem.call_list_str (I.ok.hd O.calm) z t (fun h' tk acc' c' hk e hI => ?_) hz
      have q := give_lst (vs := signs z) zt tr P (dz_signs z)
      refine ⟨.ref s.heap.objs.size, _, I.laid (t' := tk) hk (Nat.le_refl _) (show ObjOk X.prog X.w _ h' _ (.lst (signs z)) from ⟨?_, acc'.toList, c', vals_signs hI, ?_⟩), rfl, q _ (I.hok.fresh (Nat.le_refl _))⟩
      · simpa [signs] using hz
      · simpa using e
    · cases hf
  · cases hf
theorem c_tuple (O : Ox g X) : CallR X (.type "tuple") (rF g fTuple) := by
  intro pins s σ H xs us Q I rv ⟨Z, ρ, as, e, zt, tr, C, hf, P⟩
  unfold fTuple at hf
  split at hf
  · cases hf
    obtain ⟨x, rfl, c⟩ := C.one
    obtain ⟨p, vs, rfl, h1, h2⟩ := c.lst
    exact call_tuple_of pins s σ H _ us Q I rv ⟨p, vs, rfl, .inl ⟨.inl h1, give_tup zt P h2⟩⟩
  · cases hf
    obtain ⟨x, rfl, c⟩ := C.one
    obtain ⟨p, vs, rfl, h1, h2⟩ := c.tup
    rw [← O.k] at h1
    exact call_tuple_of pins s σ H _ us Q I rv ⟨p, vs, rfl, .inr ⟨h1, give_d zt P (c.dz (fun _ => PyData.noConfusion) (fun _ => PyData.noConfusion))⟩⟩
  · split at hf
    · rename_i z c
      cases hf
      obtain ⟨x, rfl, k⟩ := C.one
      cases k.str
      obtain ⟨u, rfl, t, rfl⟩ := vals1 rv
      have hz : z.cps.size ≤ sizeLine := fits_iff.mp c
      refine PySem.call_tuple_str (I.ok.hd O.calm) z t (fun h' tk acc hk hI => ?_) hz
      have q := give_tup (vs := signs z) zt P (dz_signs z)
      have I1 : Inv X pins σ H { s with heap := h', toks := tk } := I.kept (t' := tk) hk
      refine ⟨.ref h'.objs.size, _, I1.laid (t' := tk) (fun b o e => Heap.get?_push_of_some _ e) (Nat.le_refl _) (show ObjOk X.prog X.w _ _ _ (.tup (signs z)) from ⟨?_, acc.toList, vals_signs hI, ?_⟩), rfl, q _ (I1.hok.fresh (Nat.le_refl _))⟩
      · simpa [signs] using hz
      · have e : acc = acc.toList.toArray := by simp
        rw [e]
        exact ⟨_, Heap.get?_push_size _ rfl, rfl, _, rfl⟩
    · cases hf
  · cases hf
theorem dz_bools {K : PySem.W.Frag} {Z : Addr → Prop} {H : Hp} : ∀ {vs : List V} {ds : List D} {bs : List Bool}, DZs K Z H vs ds → ds.mapM truthD = some bs → vs = bs.map V.bl
  | _, _, _, .nil, h => by cases h; rfl
  | _, _, _, @DZs.cons _ _ _ v vs d ds a b, h => by
    rw [List.mapM_cons] at h
    obtain ⟨t, h1, h2⟩ := Option.bind_eq_some_iff.mp h
    obtain ⟨ts, h3, h4⟩ := Option.bind_eq_some_iff.mp h2
    cases h4
    cases d <;> simp [truthD] at h1
    subst h1
    cases a
    simp [dz_bools b h3]
theorem c_all (O : Ox g X) : CallR X (.builtin "all") (rF g fAll) := by
  intro pins s σ H xs us Q I rv ⟨Z, ρ, as, e, zt, tr, C, hf, P⟩
  unfold fAll at hf
  split at hf
  · obtain ⟨bs, hb, hf⟩ := Option.map_eq_some_iff.mp hf
    subst hf
    obtain ⟨x, rfl, c⟩ := C.one
    obtain ⟨p, vs, rfl, h1, h2⟩ := c.lst
    have := dz_bools h2 hb
    subst this
    exact cr_all O.calm pins s σ H _ us Q I rv ⟨p, bs, rfl, .inl h1, give_d zt P (.bl _)⟩
  · cases hf
variable {e : Expr} {es : List Expr} {ms : List Dv} {p pos : Pos}
theorem x_len (O : Ox g X) (hg : Gl X "len") (hm : X.mg "len" = none) (ha : PA X (e :: es) (aC g ms)) (he : starEach (e :: es) X.env = (false, eval e X.env) :: starEach es X.env := by rfl) (hpl : (backTo pos (starEach es X.env)).any (·.1) = false := by rfl) : PE X (.Call (.Name "len" p) (e :: es) [] pos) (tI g (eFn fLen ms)) := x_fnB (c_len O) hg hm PySem.boot_len ha (he := he) (hpl := hpl)
theorem x_fint (O : Ox g X) (hg : Gl X "int") (hm : X.mg "int" = none) (ha : PA X (e :: es) (aC g ms)) (he : starEach (e :: es) X.env = (false, eval e X.env) :: starEach es X.env := by rfl) (hpl : (backTo pos (starEach es X.env)).any (·.1) = false := by rfl) : PE X (.Call (.Name "int" p) (e :: es) [] pos) (tI g (eFn fInt ms)) := x_fnT c_int hg hm PyProof.Rows.boot_int ha (he := he) (hpl := hpl)
theorem x_abs (O : Ox g X) (hg : Gl X "abs") (hm : X.mg "abs" = none) (ha : PA X (e :: es) (aC g ms)) (he : starEach (e :: es) X.env = (false, eval e X.env) :: starEach es X.env := by rfl) (hpl : (backTo pos (starEach es X.env)).any (·.1) = false := by rfl) : PE X (.Call (.Name "abs" p) (e :: es) [] pos) (tI g (eFn fAbs ms)) := x_fnB c_abs hg hm PyProof.Rows.boot_abs ha (he := he) (hpl := hpl)
theorem x_min2 (O : Ox g X) (hg : Gl X "min") (hm : X.mg "min" = none) (ha : PA X (e :: es) (aC g ms)) (he : starEach (e :: es) X.env = (false, eval e X.env) :: starEach es X.env := by rfl) (hpl : (backTo pos (starEach es X.env)).any (·.1) = false := by rfl) : PE X (.Call (.Name "min" p) (e :: es) [] pos) (tI g (eFn fMin2 ms)) := x_fnB (c_min2 O) hg hm PyProof.Rows.boot_min ha (he := he) (hpl := hpl)
theorem x_max2 (O : Ox g X) (hg : Gl X "max") (hm : X.mg "max" = none) (ha : PA X (e :: es) (aC g ms)) (he : starEach (e :: es) X.env = (false, eval e X.env) :: starEach es X.env := by rfl) (hpl : (backTo pos (starEach es X.env)).any (·.1) = false := by rfl) : PE X (.Call (.Name "max" p) (e :: es) [] pos) (tI g (eFn fMax2 ms)) := x_fnB (c_max2 O) hg hm PyProof.Rows.boot_max ha (he := he) (hpl := hpl)
theorem x_flist (O : Ox g X) (hg : Gl X "list") (hm : X.mg "list" = none) (ha : PA X (e :: es) (aC g ms)) (he : starEach (e :: es) X.env = (false, eval e X.env) :: starEach es X.env := by rfl) (hpl : (backTo pos (starEach es X.env)).any (·.1) = false := by rfl) : PE X (.Call (.Name "list" p) (e :: es) [] pos) (tI g (eFn fList ms)) := x_fnT (c_list O) hg hm PyProof.Rows.boot_list ha (he := he) (hpl := hpl)
theorem x_ftuple (O : Ox g X) (hg : Gl X "tuple") (hm : X.mg "tuple" = none) (ha : PA X (e :: es) (aC g ms)) (he : starEach (e :: es) X.env = (false, eval e X.env) :: starEach es X.env := by rfl) (hpl : (backTo pos (starEach es X.env)).any (·.1) = false := by rfl) : PE X (.Call (.Name "tuple" p) (e :: es) [] pos) (tI g (eFn fTuple ms)) := x_fnT (c_tuple O) hg hm PyProof.Rows.boot_tuple ha (he := he) (hpl := hpl)
theorem x_all (O : Ox g X) (hg : Gl X "all") (hm : X.mg "all" = none) (ha : PA X (e :: es) (aC g ms)) (he : starEach (e :: es) X.env = (false, eval e X.env) :: starEach es X.env := by rfl) (hpl : (backTo pos (starEach es X.env)).any (·.1) = false := by rfl) : PE X (.Call (.Name "all" p) (e :: es) [] pos) (tI g (eFn fAll ms)) := x_fnB (c_all O) hg hm PyProof.Rows.boot_all ha (he := he) (hpl := hpl)
end
/-! ### join -/
def textD : D → Option Str
  | .str x => some x
  | _ => none
def joinD (a b : D) : Option D := match a, b with
  | .str s, .list ys => (ys.mapM textD).bind fun xs => if fits ((xs.map (·.length)).sum + xs.length * s.length) then some (.str (Txt.join s xs)) else none
  | _, _ => none
def eJoin (a b : Dv) : Ev := fun st hh => (a st hh).bind fun r => (b st r.2).bind fun q => (joinD r.1 q.1).map fun d => (.v (.d d), q.2)
section
variable {X : Cx} {g : G} {o e : Expr} {ma mb : Dv} {apos pos : Pos}
theorem dz_texts {K : PySem.W.Frag} {Z : Addr → Prop} {H : Hp} : ∀ {vs : List V} {ds : List D} {bs : List Str}, DZs K Z H vs ds → ds.mapM textD = some bs → vs = bs.map V.str
  | _, _, _, .nil, h => by cases h; rfl
  | _, _, _, @DZs.cons _ _ _ v vs d ds a b, h => by
    rw [List.mapM_cons] at h
    obtain ⟨t, h1, h2⟩ := Option.bind_eq_some_iff.mp h
    obtain ⟨ts, h3, h4⟩ := Option.bind_eq_some_iff.mp h2
    cases h4
    cases d <;> simp [textD] at h1
    subst h1
    cases a
    simp [dz_texts b h3]
theorem x_join (O : Ox g X) (ho : PE X o (tC g ma)) (he : PE X e (tC g mb)) (hs : starEach [e] X.env = [(false, eval e X.env)] := by rfl) (hbase : attributeBase o "join" X.env (eval o X.env) = eval o X.env := by rfl) (hline : (apos.endLine == pos.line) = true := by rfl) :
    PE X (.Call (.Attribute o "join" apos) [e] [] pos) (tI g (eJoin ma mb)) := by
  refine PEw (pe_join ho he hs hbase hline) fun σ H Q ⟨Z, ρ, st, hh, w, hh', R, e1, P⟩ => ?_
  obtain ⟨⟨d, h1⟩, e2, e3⟩ := Option.bind_eq_some_iff.mp e1
  obtain ⟨⟨d2, h2⟩, e4, e5⟩ := Option.bind_eq_some_iff.mp e3
  obtain ⟨r, e6, e7⟩ := Option.map_eq_some_iff.mp e5
  cases e7
  unfold joinD at e6
  split at e6
  · rename_i s ys hd hd2
    have hd : d = .str s := hd
    have hd2 : d2 = .list ys := hd2
    subst hd hd2
    obtain ⟨bs, hb, e6⟩ := Option.bind_eq_some_iff.mp e6
    split at e6
    · rename_i c
      cases e6
      refine ⟨Z, ρ, st, hh, _, h1, R, e2, fun Z1 ρ1 x H1 R1 G1 C1 => ?_⟩
      cases C1.str
      refine ⟨⟨s, rfl⟩, Z1, ρ1, st, h1, _, h2, R1, e4, fun Z2 ρ2 y H2 R2 G2 C2 => ?_⟩
      obtain ⟨p, vs, rfl, q1, q2⟩ := C2.lst
      have := dz_texts q2 hb
      subst this
      exact ⟨s, p, bs, rfl, rfl, .inl (.inl q1), of_decide_eq_true c, P Z2 ρ2 _ H2 R2 (G1.trans R1.heap G2) (.str _)⟩
    · cases e6
  · cases e6
end
/-! ### a written dict of texts -/
def KTab (K : PySem.W.Frag) (w : World) (a : Addr) (kvs : List (Str × Str)) : Prop := ∀ q, q ∈ kvs → KDct K w a q.1 (.str q.2)
def eKd (kvs : List (Str × Str)) (m : Dv) : Ev := fun st hh => (m st hh).bind fun r => match r.1 with
  | .str x => (kvs.lookup x).map fun y => (.v (.d (.str y)), r.2)
  | _ => none
theorem lookup_memS {α β : Type} [BEq α] [LawfulBEq α] {l : List (α × β)} {x : α} {y : β} (h : l.lookup x = some y) : (x, y) ∈ l := by
  induction l with
  | nil => simp at h
  | cons a r ih =>
    obtain ⟨k, v⟩ := a
    rw [List.lookup_cons] at h
    split at h
    · rename_i e
      have e := eq_of_beq e
      cases h
      rw [e]
      exact List.mem_cons_self
    · exact List.mem_cons_of_mem _ (ih h)
section
variable {X : Cx} {g : G} {k : Expr} {mk : Dv} {p pos : Pos} {x : Str} {a : Addr} {kvs : List (Str × Str)}
theorem x_kd (hg : Gl X x) (hm : X.mg x = some (.ref a)) (T : KTab X.K X.w a kvs) (hk : PE X k (tC g mk)) (hdb : (x == ("__debug__" : Str)) = false := by decide) (hs : PlainIx k := by intro _ _; rfl) :
    PE X (.Subscript (.Name x p) k pos) (tI g (eKd kvs mk)) := by
  refine PEw (pe_ix ix_kdict (pe_glob (v := .ref a) hg hm rfl hdb) hk hs) fun σ H Q ⟨Z, ρ, st, hh, w, hh', R, e1, P⟩ => ?_
  obtain ⟨⟨d, h1⟩, e2, e3⟩ := Option.bind_eq_some_iff.mp e1
  refine ⟨Z, ρ, st, hh, d, h1, R, e2, fun Z1 ρ1 y H1 R1 G1 C1 => ?_⟩
  split at e3
  · rename_i z hz
    have hz : d = .str z := hz
    subst hz
    obtain ⟨y', hy, e4⟩ := Option.map_eq_some_iff.mp e3
    cases e4
    cases C1.str
    exact ⟨a, z, .str y', rfl, rfl, T _ (lookup_memS hy), P Z1 ρ1 _ H1 R1 G1 (.str _)⟩
  · cases e3
end
end FF

set_option Elab.async false
set_option linter.all false
set_option maxRecDepth 100000
set_option maxHeartbeats 1000000
set_option autoImplicit false
/-! FFMore: an empty dict, the module's numbers and texts, a value frozen on its way. -/
namespace FF
open PySem PySem.Spec PyProof.Rows L2
def eDict0 : Ev := fun _ hh => some (.o (.dct []), hh)
def fr (m : Ev) : Ev := fun st hh => (m st hh).map fun r => (.v r.1.val, r.2)
section
variable {X : Cx} {g : G} {e : Expr} {m : Ev} {p pos : Pos} {x : Str}
theorem x_dict0 : PE X (.Dict [] [] pos) (tI g eDict0) := by
  refine PEw pe_dnewK fun σ H Q ⟨Z, ρ, st, hh, w, hh', R, e1, P⟩ => ?_
  cases e1
  intro p np
  have pu := Pure.new (o := .dK []) R.heap.zt np
  exact P Z ρ _ _ (R.pure pu) (pu.grow ρ) ⟨p, rfl, ⟨[], upd_same, .nil⟩, fun z => R.heap.zt p z np, fun hm => R.heap.trk p hm np, np⟩
theorem x_gint {i : Int} (hg : Gl X x) (h : ∃ t, X.mg x = some (.int i t)) (hdb : (x == ("__debug__" : Str)) = false := by decide) : PE X (.Name x pos) (tI g (eC (.int i))) := by
  obtain ⟨t, h⟩ := h
  exact x_glob (v := .int i) hg h ⟨t, rfl⟩ (fun _ _ => .int i) hdb
theorem x_gstr {i : Str} (hg : Gl X x) (h : ∃ t, X.mg x = some (.str i t)) (hdb : (x == ("__debug__" : Str)) = false := by decide) : PE X (.Name x pos) (tI g (eC (.str i))) := by
  obtain ⟨t, h⟩ := h
  exact x_glob (v := .str i) hg h ⟨t, rfl⟩ (fun _ _ => .str i) hdb
theorem x_fr (h : PE X e (tI g m)) : PE X e (tI g (fr m)) := by
  refine PEw (pe_v h) fun σ H Q ⟨Z, ρ, st, hh, w, hh', R, e1, P⟩ => ?_
  unfold fr at e1
  obtain ⟨r, e2, e3⟩ := Option.map_eq_some_iff.mp e1
  cases e3
  exact ⟨Z, ρ, st, hh, r.1.val, r.2, R, by unfold vv; rw [e2]; rfl, fun Z' ρ' x H' R' G' E => P Z' ρ' x H' R' G' E⟩
end
theorem boot_bool_ : bootBuiltins "bool" = some (.type "bool") := by decide +kernel
end FF

set_option Elab.async false
set_option linter.all false
set_option maxRecDepth 100000
set_option maxHeartbeats 1000000
set_option autoImplicit false
/-! FFPlain: the evaluator's codes run on values. -/
namespace FF
open PySem PySem.Spec PyProof.Rows L2
/-- a loop that goes on to its end -/
theorem forL_ok {α : Type} {t : Tg} {b : Sv} (Inv : α → List Sl → Hh → Prop) (step : α → D → α) : ∀ (ds : List D), (∀ a d st hh, d ∈ ds → Inv a st hh → ∃ st1 st2 hh2, t (.v (.d d)) st = some st1 ∧ b st1 hh = some (.nx st2 hh2) ∧ Inv (step a d) st2 hh2) →
    ∀ a st hh, Inv a st hh → ∃ st' hh', forL t b ds st hh = some (.nx st' hh') ∧ Inv (ds.foldl step a) st' hh'
  | [], _, a, st, hh, i => ⟨st, hh, rfl, i⟩
  | d :: ds, h, a, st, hh, i => by
    obtain ⟨st1, st2, hh2, e1, e2, i2⟩ := h a d st hh List.mem_cons_self i
    obtain ⟨st', hh', e3, i3⟩ := forL_ok Inv step ds (fun a d st hh hd => h a d st hh (List.mem_cons_of_mem _ hd)) (step a d) st2 hh2 i2
    refine ⟨st', hh', ?_, i3⟩
    rw [forL, e1, Option.bind_some, e2, Option.bind_some]
    exact e3
/-- a comprehension with nothing but values -/
theorem compL_pure {vs : List Nat} {t : Tg} {c e : Dv} {st : List Sl} {hh : Hh} {p : D → Bool} {f : D → D} : ∀ ds : List D, (∀ d, d ∈ ds → ∃ st1, t (.v (.d d)) (wipeS st vs) = some st1 ∧ c st1 hh = some (.bool (p d), hh) ∧ (p d = true → e st1 hh = some (f d, hh))) →
    compL vs t c e ds st hh = some ((ds.filter p).map f, hh)
  | [], _ => rfl
  | d :: ds, h => by
    obtain ⟨st1, e1, e2, e3⟩ := h d List.mem_cons_self
    have ih := compL_pure ds fun d hd => h d (List.mem_cons_of_mem _ hd)
    rw [compL, e1, Option.bind_some, e2, Option.bind_some]
    cases q : p d with
    | true =>
      show (e st1 hh).bind _ = _
      rw [e3 q, Option.bind_some]
      show (compL vs t c e ds st hh).map _ = _
      rw [ih, List.filter_cons_of_pos q]
      rfl
    | false =>
      show compL vs t c e ds st hh = _
      rw [ih, List.filter_cons_of_neg (by rw [q]; exact Bool.false_ne_true)]
theorem compL_map {vs : List Nat} {t : Tg} {e : Dv} {st : List Sl} {hh : Hh} {f : D → D} (ds : List D) (h : ∀ d, d ∈ ds → ∃ st1, t (.v (.d d)) (wipeS st vs) = some st1 ∧ e st1 hh = some (f d, hh)) :
    compL vs t yes e ds st hh = some (ds.map f, hh) := by
  have := compL_pure (vs := vs) (t := t) (c := yes) (e := e) (st := st) (hh := hh) (p := fun _ => true) (f := f) ds fun d hd => by
    obtain ⟨st1, e1, e2⟩ := h d hd
    exact ⟨st1, e1, rfl, fun _ => e2⟩
  rw [this, List.filter_eq_self.mpr (by simp)]
theorem compL_mapped {α : Type} {vs : List Nat} {t : Tg} {e : Dv} {st : List Sl} {hh : Hh} {g f : α → D} : ∀ ys : List α, (∀ y, y ∈ ys → ∃ st1, t (.v (.d (g y))) (wipeS st vs) = some st1 ∧ e st1 hh = some (f y, hh)) →
    compL vs t yes e (ys.map g) st hh = some (ys.map f, hh)
  | [], _ => rfl
  | y :: ys, h => by
    obtain ⟨st1, e1, e2⟩ := h y List.mem_cons_self
    have ih := compL_mapped (g := g) (f := f) ys fun d hd => h d (List.mem_cons_of_mem _ hd)
    rw [List.map_cons, compL, e1, Option.bind_some]
    show (e st1 hh).bind _ = _
    rw [e2, Option.bind_some]
    show (compL vs t yes e (ys.map g) st hh).map _ = _
    rw [ih]
    rfl
/-- a while loop: one turn -/
theorem whileL_go {c : Dv} {b : Sv} {n : Nat} {st st2 : List Sl} {hh h1 h2 : Hh} (e1 : c st hh = some (.bool true, h1)) (e2 : b st h1 = some (.nx st2 h2)) : whileL c b (n + 1) st hh = whileL c b n st2 h2 := by
  show (c st hh).bind _ = _
  rw [e1, Option.bind_some]
  show (b st h1).bind _ = _
  rw [e2, Option.bind_some]
theorem whileL_stop {c : Dv} {b : Sv} {n : Nat} {st : List Sl} {hh h1 : Hh} (e1 : c st hh = some (.bool false, h1)) : whileL c b (n + 1) st hh = some (.nx st h1) := by
  show (c st hh).bind _ = _
  rw [e1, Option.bind_some]
/-! ### operators on numbers, texts, truth values -/
section
variable (a b : Int) (x y : Str) (p q : Bool)
theorem plI (n : Nat) : pl n (.int a) = true := by cases n <;> rfl
theorem plS (n : Nat) : pl n (.str x) = true := by cases n <;> rfl
theorem plB (n : Nat) : pl n (.bool p) = true := by cases n <;> rfl
theorem plN (n : Nat) : pl n .none = true := by cases n <;> rfl
theorem eq_ii : PyData.eqv (.int a) (.int b) = decide (a = b) := by rw [PyData.eqv]; by_cases h : a = b <;> simp [h]
theorem eq_ss : PyData.eqv (.str x) (.str y) = decide (x = y) := by rw [PyData.eqv]; by_cases h : x = y <;> simp [h]
theorem eq_bb : PyData.eqv (.bool p) (.bool q) = decide (p = q) := by rw [PyData.eqv]; cases p <;> cases q <;> rfl
theorem bEq_ii : bEq (.int a) (.int b) = some (.v (.d (.bool (decide (a = b))))) := by unfold bEq; rw [plI, plI, eq_ii]; rfl
theorem bEq_ss : bEq (.str x) (.str y) = some (.v (.d (.bool (decide (x = y))))) := by unfold bEq; rw [plS, plS, eq_ss]; rfl
theorem bEq_bb : bEq (.bool p) (.bool q) = some (.v (.d (.bool (decide (p = q))))) := by unfold bEq; rw [plB, plB, eq_bb]; rfl
theorem bNe_ii : bNe (.int a) (.int b) = some (.v (.d (.bool (!decide (a = b))))) := by unfold bNe; rw [plI, plI, eq_ii]; rfl
theorem bNe_ss : bNe (.str x) (.str y) = some (.v (.d (.bool (!decide (x = y))))) := by unfold bNe; rw [plS, plS, eq_ss]; rfl
theorem bNe_bb : bNe (.bool p) (.bool q) = some (.v (.d (.bool (!decide (p = q))))) := by unfold bNe; rw [plB, plB, eq_bb]; rfl
theorem cmpOk_ii : cmpOk (.int a) (.int b) = true := by unfold cmpOk; rw [plI, plI]; rfl
theorem bLt_ii : bLt (.int a) (.int b) = some (.v (.d (.bool (decide (a < b))))) := by unfold bLt; rw [cmpOk_ii, PySem.W.dataLt_int]; rfl
theorem bGt_ii : bGt (.int a) (.int b) = some (.v (.d (.bool (decide (b < a))))) := by unfold bGt; rw [cmpOk_ii, PySem.W.dataLt_int]; rfl
theorem bLe_ii : bLe (.int a) (.int b) = some (.v (.d (.bool (decide (a ≤ b))))) := by
  unfold bLe; rw [cmpOk_ii, PySem.W.dataLt_int]
  have : (!decide (b < a)) = decide (a ≤ b) := by by_cases h : b < a <;> simp [h] <;> omega
  rw [this]; rfl
theorem bGe_ii : bGe (.int a) (.int b) = some (.v (.d (.bool (decide (b ≤ a))))) := by
  unfold bGe; rw [cmpOk_ii, PySem.W.dataLt_int]
  have : (!decide (a < b)) = decide (b ≤ a) := by by_cases h : a < b <;> simp [h] <;> omega
  rw [this]; rfl
theorem bAdd_ii : bAdd (.int a) (.int b) = some (.v (.d (.int (a + b)))) := (rfl)
theorem bSub_ii : bSub (.int a) (.int b) = some (.v (.d (.int (a - b)))) := (rfl)
theorem bIs_n (d : D) : bIs d .none = some (.v (.d (.bool (isNone d)))) := by cases d <;> rfl
theorem bIsNot_n (d : D) : bIsNot d .none = some (.v (.d (.bool (!isNone d)))) := by cases d <;> rfl
theorem bDiv_ii (h : 0 < b) (h2 : b < 1073741824) : bDiv (.int a) (.int b) = some (.v (.d (.int (a / b)))) := by unfold bDiv; simp only [h, h2, decide_true, Bool.and_self, if_true]
theorem bMod_ii (h : 0 < b) : bMod (.int a) (.int b) = some (.v (.d (.int (a % b)))) := by unfold bMod; simp only [h, decide_true, if_true]
theorem bMul_ii (h : mulOk a b = true) : bMul (.int a) (.int b) = some (.v (.d (.int (a * b)))) := by unfold bMul; simp only [h, if_true]
theorem mulOk_l {i j : Int} (h0 : -4294967296 < i) (h1 : i < 4294967296) : mulOk i j = true := by
  unfold mulOk I64
  rw [decide_eq_true (show -18446744073709551616 < i by omega), decide_eq_true (show i < 18446744073709551616 by omega)]
  rfl
theorem mulOk_r {i j : Int} (h0 : -4294967296 < j) (h1 : j < 4294967296) : mulOk i j = true := by
  unfold mulOk I64
  rw [decide_eq_true (show -18446744073709551616 < j by omega), decide_eq_true (show j < 18446744073709551616 by omega), Bool.and_true, Bool.or_true]
theorem fits_le {n m : Nat} (h : n ≤ m) (hm : m ≤ 16777216) : fits n = true := decide_eq_true (Nat.le_trans h hm)
theorem ixD_nat {α : Type} {xs : List α} {i : Int} (h : 0 ≤ i) : ixD xs i = xs[i.toNat]? := by unfold ixD; rw [if_pos h]
theorem bIx_l (xs : List D) (i : Int) : bIx (.list xs) (.int i) = (ixD xs i).map fun d => .v (.d d) := (rfl)
theorem bIx_t (xs : List D) (i : Int) : bIx (.tuple xs) (.int i) = (ixD xs i).map fun d => .v (.d d) := (rfl)
theorem bIx_s (x : Str) (i : Int) : bIx (.str x) (.int i) = if fits x.length then (ixD x.cps.toList i).map fun c => .v (.d (.str ⟨[c].toArray⟩)) else none := (rfl)
theorem rg_ok {i : Int} (h : -I62 ≤ i) (h2 : i < I62) : rgOk i = true := by unfold rgOk; rw [decide_eq_true h, decide_eq_true h2]; rfl
theorem range_n {n : Nat} (h : n < 4611686018427387904) : rangeD [.int n] = some ((List.range n).map fun (k : Nat) => (.int (k : Int) : D)) := by
  have := rg_ok (i := (n : Int)) (by unfold I62; omega) (by unfold I62; omega)
  show (if rgOk (n : Int) then some ((List.range (n : Int).toNat).map fun (k : Nat) => (.int ((0 : Int) + (k : Int)) : D)) else none) = _
  rw [if_pos this]
  simp
theorem range_2 {i j : Int} (h1 : -4611686018427387904 ≤ i) (h2 : i < 4611686018427387904) (h3 : -4611686018427387904 ≤ j) (h4 : j < 4611686018427387904) : rangeD [.int i, .int j] = some ((List.range (j - i).toNat).map fun (k : Nat) => (.int (i + (k : Int)) : D)) := by
  show (if rgOk i && rgOk j then some ((List.range (j - i).toNat).map fun (k : Nat) => (.int (i + (k : Int)) : D)) else none) = _
  rw [rg_ok (by unfold I62; omega) (by unfold I62; omega), rg_ok (by unfold I62; omega) (by unfold I62; omega)]
  rfl
end
end FF

set_option Elab.async false
set_option linter.all false
set_option maxRecDepth 100000
set_option autoImplicit false
/-! FFLawCode: the five helpers that every law has. -/
namespace FF.L
open PySem PySem.Spec PyProof.Rows L2
/-! _law_cup: 0 script, 1 cell -/
def c__law_cup : Sv := (sSeq (sSet 1 (fr (eFn fAbs [(dv (eBin bIx (dv (eBin bAdd (dv (eFn fList [(pk 0)])) (dv (eLst [(dv (eC (.int 0)))])))) (dv (eC (.int 0)))))]))) (sRet (eLst [(dv (eIte (dv (eBin bGe (pk 1) (dv (eBin bPow (dv (eC (.int 10))) (dv (eC (.int 18))))))) (eBin bDiv (pk 1) (dv (eC (.int 73)))) (eC (.int 0)))), (dv (eBin bAdd (dv (eBin bMod (dv (eFn fInt [(dv (eBin bAdd (dv (eBin bMul (pk 1) (dv (eC (.int 283))))) (dv (eC (.int 3907)))))])) (dv (eC (.int 2077503167))))) (dv (eC (.int 167)))))])))
def F__law_cup : Fn := mkFn 1 2 c__law_cup
/-! _law_roll: 0 cup, 1 many, 2 found, 3 deep -/
def c__law_roll : Sv := (sSeq (sIf (dv (eBin bGt (dv (eIxR 0 (dv (eC (.int 0))))) (dv (eC (.int 0))))) (sSeq (sSet 2 (fr (eBin bMod (dv (eFn fInt [(dv (eIxR 0 (dv (eC (.int 0)))))])) (pk 1)))) (sSeq (sIxR 0 (dv (eC (.int 0))) (dv (eBin bDiv (dv (eIxR 0 (dv (eC (.int 0))))) (pk 1)))) (sRetV 2))) sSkip) (sSeq (sIxR 0 (dv (eC (.int 1))) (dv (eBin bMod (dv (eFn fInt [(dv (eBin bAdd (dv (eBin bMul (dv (eIxR 0 (dv (eC (.int 1))))) (dv (eC (.int 31051))))) (dv (eC (.int 7993)))))])) (dv (eC (.int 2147483543)))))) (sSeq (sSet 3 (fr (eBin bMod (dv (eFn fInt [(dv (eBin bMul (dv (eIxR 0 (dv (eC (.int 1))))) (dv (eBin bAdd (dv (eIxR 0 (dv (eC (.int 1))))) (dv (eC (.int 229)))))))])) (dv (eC (.int 2147483587)))))) (sRet (eBin bMod (dv (eFn fInt [(dv (eBin bDiv (pk 3) (dv (eC (.int 821)))))])) (pk 1))))))
def F__law_roll : Fn := mkFn 2 4 c__law_roll
/-! _law_some: 0 cup, 1 things -/
def c__law_some : Sv := (sRet (eBin bIx (pk 1) (dv (eCall F__law_roll [(vv (eVar 0)), (vv (eFn fLen [(pk 1)]))]))))
def F__law_some : Fn := mkFn 2 2 c__law_some
/-! _law_sort: 0 value -/
def c__law_sort : Sv := (sSeq (sIf (bOr (dv (eBin bIs (pk 0) (dv (eC .none)))) (dv (eIs "bool" (pk 0)))) (sRet (eIte (dv (eBin bIs (pk 0) (dv (eC .none)))) (eC (.int 0)) (eC (.int 1)))) sSkip) (sSeq (sIf (bOr (dv (eIs "int" (pk 0))) (dv (eIs "str" (pk 0)))) (sRet (eIte (dv (eIs "int" (pk 0))) (eC (.int 2)) (eC (.int 3)))) sSkip) (sRet (eIte (dv (eIs "tuple" (pk 0))) (eC (.int 4)) (eIte (dv (eIs "list" (pk 0))) (eC (.int 5)) (eC (.int 6)))))))
def F__law_sort : Fn := mkFn 1 1 c__law_sort
/-! _law_like: 0 one, 1 other, 2 sort, 3 first, 4 second -/
def c__law_like_q0 (self : Fn) : Dv := (dv (eC (.int 1)))
def c__law_like (self : Fn) : Sv := (sSeq (sSet 2 (fr (eCall F__law_sort [(vv (eVar 1))]))) (sSeq (sIf (bOr (dv (eBin bNe (dv (eCall F__law_sort [(vv (eVar 0))])) (pk 2))) (dv (eBin bEq (pk 2) (dv (eC (.int 6)))))) (sRet (eC (.bool false))) sSkip) (sSeq (sIf (dv (eBin bIn (pk 2) (dv (eTup [(dv (eC (.int 4))), (dv (eC (.int 5)))])))) (sRet (eAnd (dv (eBin bEq (dv (eFn fLen [(pk 0)])) (dv (eFn fLen [(pk 1)])))) (eBin bEq (dv (eComp [3, 4] (iZip [(dv (eVar 0)), (dv (eVar 1))]) (tT [(tN 3), (tN 4)]) (bNot (dv (eCall self [(vv (eVar 3)), (vv (eVar 4))]))) (c__law_like_q0 self))) (dv (eLst []))))) sSkip) (sRet (eBin bEq (pk 0) (pk 1))))))
def F__law_like : Nat → Fn
  | 0 => fun _ _ => none
  | k + 1 => mkFn 2 5 (c__law_like (F__law_like k))
end FF.L

set_option Elab.async false
set_option linter.all false
set_option maxRecDepth 100000
set_option maxHeartbeats 1000000
set_option autoImplicit false
/-! FFLaw: what the five helpers of every law give. -/
namespace FF.L
open PySem PySem.Spec PyProof.Rows L2
def CupAt (hh : Hh) (n : Nat) : Prop := ∃ a b : Int, hh[n]? = some (.lst [.int a, .int b]) ∧ 0 ≤ b ∧ b < 2147483648
def absI (c : Int) : Int := if c < 0 then -c else c
theorem cup_ok (ns : List Int) (hl : ns.length ≤ 63) (hh : Hh) : ∃ a b : Int, F__law_cup [.d (.list (ns.map fun i => .int i))] hh = some (.o (.lst [.int a, .int b]), hh) ∧ 0 ≤ b ∧ b < 2147483648 := by
  obtain ⟨c, r, hc⟩ : ∃ c r, (ns.map fun i => (.int i : D)) ++ [.int 0] = .int c :: r := by
    cases ns with
    | nil => exact ⟨0, [], rfl⟩
    | cons n r => exact ⟨n, _, rfl⟩
  have hf : fits ((ns.map fun i => (.int i : D)).length + 1) = true := fits_le (m := 64) (by simp; omega) (by decide)
  have hp : (10 : Int) ^ (18 : Int).toNat = 1000000000000000000 := by decide
  have hm : mulOk (absI c) 283 = true := mulOk_r (by decide) (by decide)
  refine ⟨if 1000000000000000000 ≤ absI c then absI c / 73 else 0, (absI c * 283 + 3907) % 2077503167 + 167, ?_, by omega, by omega⟩
  have hb : bPow (.int 10) (.int 18) = some (.v (.d (.int 1000000000000000000))) := (rfl)
  have hx : bIx (.list (.int c :: r)) (.int 0) = some (.v (.d (.int c))) := (rfl)
  have ha : fAbs [.int c] = some (.v (.d (.int (absI c)))) := (rfl)
  simp -implicitDefEqProofs only [mkFn, sSeq, sSet, sSkip, sIf, sRet, sRetV, sExpr, sFz, fzs, fz, sPr, sAsg, sAsgs, evs, tAll, tN, tT, sFor, sWhile, sApp, sDput, eIxR, sIxR, fr, eC, eVar, pk, ev, dv, vv, evd, evv, EV.sl, EV.val, EV.data, Ob.d, eTup, eLst, eBin, eUn, eChain, eAnd, eOr, eNot, eIte, bAnd, bOr, bNot, eFn, eCall, eIs, eJoin, eKd, eDict0, eSl, eSl3, pN, pI, iSeq, iRange, iZip, iEnu, iArgs, eComp, wipeS, sNo, yes, List.length_cons, List.length_nil, List.map_cons, List.map_nil, List.replicate, List.cons_append, List.nil_append, Option.bind_some, Option.bind_none, Option.map_some, Option.map_none, List.set_cons_succ, List.set_cons_zero, List.getElem?_cons_succ, List.getElem?_cons_zero, Nat.reduceSub, Nat.reduceAdd, Nat.zero_add, if_pos, ite_true, ite_false, reduceIte, eq_self, Bool.false_eq_true, and_self, and_true, true_and, F__law_cup, c__law_cup, fList, bAdd, hf, hc, hx, ha, hb, bGe_ii, fInt, bMul_ii _ _ hm, bDiv_ii _ 73 (by decide) (by decide), bMod_ii _ 2077503167 (by decide)]
  by_cases h : 1000000000000000000 ≤ absI c
  · simp -implicitDefEqProofs only [mkFn, sSeq, sSet, sSkip, sIf, sRet, sRetV, sExpr, sFz, fzs, fz, sPr, sAsg, sAsgs, evs, tAll, tN, tT, sFor, sWhile, sApp, sDput, eIxR, sIxR, fr, eC, eVar, pk, ev, dv, vv, evd, evv, EV.sl, EV.val, EV.data, Ob.d, eTup, eLst, eBin, eUn, eChain, eAnd, eOr, eNot, eIte, bAnd, bOr, bNot, eFn, eCall, eIs, eJoin, eKd, eDict0, eSl, eSl3, pN, pI, iSeq, iRange, iZip, iEnu, iArgs, eComp, wipeS, sNo, yes, List.length_cons, List.length_nil, List.map_cons, List.map_nil, List.replicate, List.cons_append, List.nil_append, Option.bind_some, Option.bind_none, Option.map_some, Option.map_none, List.set_cons_succ, List.set_cons_zero, List.getElem?_cons_succ, List.getElem?_cons_zero, Nat.reduceSub, Nat.reduceAdd, Nat.zero_add, if_pos, ite_true, ite_false, reduceIte, eq_self, Bool.false_eq_true, and_self, and_true, true_and, h, decide_true, bDiv_ii _ 73 (by decide) (by decide)]
  · simp -implicitDefEqProofs only [mkFn, sSeq, sSet, sSkip, sIf, sRet, sRetV, sExpr, sFz, fzs, fz, sPr, sAsg, sAsgs, evs, tAll, tN, tT, sFor, sWhile, sApp, sDput, eIxR, sIxR, fr, eC, eVar, pk, ev, dv, vv, evd, evv, EV.sl, EV.val, EV.data, Ob.d, eTup, eLst, eBin, eUn, eChain, eAnd, eOr, eNot, eIte, bAnd, bOr, bNot, eFn, eCall, eIs, eJoin, eKd, eDict0, eSl, eSl3, pN, pI, iSeq, iRange, iZip, iEnu, iArgs, eComp, wipeS, sNo, yes, List.length_cons, List.length_nil, List.map_cons, List.map_nil, List.replicate, List.cons_append, List.nil_append, Option.bind_some, Option.bind_none, Option.map_some, Option.map_none, List.set_cons_succ, List.set_cons_zero, List.getElem?_cons_succ, List.getElem?_cons_zero, Nat.reduceSub, Nat.reduceAdd, Nat.zero_add, if_pos, ite_true, ite_false, reduceIte, eq_self, Bool.false_eq_true, and_self, and_true, true_and, h, decide_false]
theorem getset {hh : Hh} {n : Nat} {o p : Ob} (h : hh[n]? = some o) : (hh.set n p)[n]? = some p := List.getElem?_set_self (List.getElem?_eq_some_iff.mp h).1
theorem roll_ok {hh : Hh} {n : Nat} (hc : CupAt hh n) {many : Int} (h1 : 0 < many) (h2 : many < 1073741824) :
    ∃ (r : Int) (hh' : Hh), F__law_roll [.ref n, .d (.int many)] hh = some (.v (.d (.int r)), hh') ∧ 0 ≤ r ∧ r < many ∧ CupAt hh' n := by
  obtain ⟨a, b, hn, hb0, hb1⟩ := hc
  have i0 : ∀ x y : Int, bIx (.list [.int x, .int y]) (.int 0) = some (.v (.d (.int x))) := fun _ _ => rfl
  have i1 : ∀ x y : Int, bIx (.list [.int x, .int y]) (.int 1) = some (.v (.d (.int y))) := fun _ _ => rfl
  have c0 : (0 : Int) ≤ 0 ∧ (0 : Int) < ((2 : Nat) : Int) := by decide
  have c1 : (0 : Int) ≤ 1 ∧ (1 : Int) < ((2 : Nat) : Int) := by decide
  have t0 : (0 : Int).toNat = 0 := rfl
  have t1 : (1 : Int).toNat = 1 := rfl
  by_cases h : 0 < a
  · refine ⟨a % many, hh.set n (.lst [.int (a / many), .int b]), ?_, Int.emod_nonneg _ (by omega), Int.emod_lt_of_pos _ h1, _, _, getset hn, hb0, hb1⟩
    simp -implicitDefEqProofs only [mkFn, sSeq, sSet, sSkip, sIf, sRet, sRetV, sExpr, sFz, fzs, fz, sPr, sAsg, sAsgs, evs, tAll, tN, tT, sFor, sWhile, sApp, sDput, eIxR, sIxR, fr, eC, eVar, pk, ev, dv, vv, evd, evv, EV.sl, EV.val, EV.data, Ob.d, eTup, eLst, eBin, eUn, eChain, eAnd, eOr, eNot, eIte, bAnd, bOr, bNot, eFn, eCall, eIs, eJoin, eKd, eDict0, eSl, eSl3, pN, pI, iSeq, iRange, iZip, iEnu, iArgs, eComp, wipeS, sNo, yes, List.length_cons, List.length_nil, List.map_cons, List.map_nil, List.replicate, List.cons_append, List.nil_append, Option.bind_some, Option.bind_none, Option.map_some, Option.map_none, List.set_cons_succ, List.set_cons_zero, List.getElem?_cons_succ, List.getElem?_cons_zero, Nat.reduceSub, Nat.reduceAdd, Nat.zero_add, if_pos, ite_true, ite_false, reduceIte, eq_self, Bool.false_eq_true, and_self, and_true, true_and, F__law_roll, c__law_roll, hn, i0, bGt_ii, h, decide_true, fInt, bMod_ii _ _ h1, bDiv_ii _ _ h1 h2, c0, t0]
  · have m1 : mulOk b 31051 = true := mulOk_r (by decide) (by decide)
    have hb' : 0 ≤ (b * 31051 + 7993) % 2147483543 ∧ (b * 31051 + 7993) % 2147483543 < 2147483543 := by omega
    have m2 : mulOk ((b * 31051 + 7993) % 2147483543) ((b * 31051 + 7993) % 2147483543 + 229) = true := mulOk_l (by omega) (by omega)
    refine ⟨((b * 31051 + 7993) % 2147483543 * ((b * 31051 + 7993) % 2147483543 + 229)) % 2147483587 / 821 % many, hh.set n (.lst [.int a, .int ((b * 31051 + 7993) % 2147483543)]), ?_, Int.emod_nonneg _ (by omega), Int.emod_lt_of_pos _ h1, _, _, getset hn, by omega, by omega⟩
    have g := getset (p := .lst [.int a, .int ((b * 31051 + 7993) % 2147483543)]) hn
    simp -implicitDefEqProofs only [mkFn, sSeq, sSet, sSkip, sIf, sRet, sRetV, sExpr, sFz, fzs, fz, sPr, sAsg, sAsgs, evs, tAll, tN, tT, sFor, sWhile, sApp, sDput, eIxR, sIxR, fr, eC, eVar, pk, ev, dv, vv, evd, evv, EV.sl, EV.val, EV.data, Ob.d, eTup, eLst, eBin, eUn, eChain, eAnd, eOr, eNot, eIte, bAnd, bOr, bNot, eFn, eCall, eIs, eJoin, eKd, eDict0, eSl, eSl3, pN, pI, iSeq, iRange, iZip, iEnu, iArgs, eComp, wipeS, sNo, yes, List.length_cons, List.length_nil, List.map_cons, List.map_nil, List.replicate, List.cons_append, List.nil_append, Option.bind_some, Option.bind_none, Option.map_some, Option.map_none, List.set_cons_succ, List.set_cons_zero, List.getElem?_cons_succ, List.getElem?_cons_zero, Nat.reduceSub, Nat.reduceAdd, Nat.zero_add, if_pos, ite_true, ite_false, reduceIte, eq_self, Bool.false_eq_true, and_self, and_true, true_and, F__law_roll, c__law_roll, hn, i0, i1, bGt_ii, h, decide_false, fInt, bMul_ii _ _ m1, bMul_ii _ _ m2, bAdd_ii, bMod_ii _ 2147483543 (by decide), bMod_ii _ 2147483587 (by decide), bMod_ii _ _ h1, bDiv_ii _ 821 (by decide) (by decide), c1, t1, g]
/-- one of a list's things -/
theorem some_ok {hh : Hh} {n : Nat} (hc : CupAt hh n) {xs : List D} (h1 : xs ≠ []) (h2 : xs.length < 1073741824) :
    ∃ (i : Nat) (d : D) (hh' : Hh), xs[i]? = some d ∧ F__law_some [.ref n, .d (.list xs)] hh = some (.v (.d d), hh') ∧ CupAt hh' n := by
  have hp : 0 < (xs.length : Int) := by
    have := List.length_pos_iff.mpr h1
    omega
  obtain ⟨r, hh', e, r0, r1, c⟩ := roll_ok hc hp (by omega)
  have hi : r.toNat < xs.length := by omega
  refine ⟨r.toNat, xs[r.toNat], hh', List.getElem?_eq_getElem hi, ?_, c⟩
  have hx : bIx (.list xs) (.int r) = some (.v (.d xs[r.toNat])) := by
    rw [bIx_l, ixD_nat r0, List.getElem?_eq_getElem hi]
    rfl
  simp -implicitDefEqProofs only [mkFn, sSeq, sSet, sSkip, sIf, sRet, sRetV, sExpr, sFz, fzs, fz, sPr, sAsg, sAsgs, evs, tAll, tN, tT, sFor, sWhile, sApp, sDput, eIxR, sIxR, fr, eC, eVar, pk, ev, dv, vv, evd, evv, EV.sl, EV.val, EV.data, Ob.d, eTup, eLst, eBin, eUn, eChain, eAnd, eOr, eNot, eIte, bAnd, bOr, bNot, eFn, eCall, eIs, eJoin, eKd, eDict0, eSl, eSl3, pN, pI, iSeq, iRange, iZip, iEnu, iArgs, eComp, wipeS, sNo, yes, List.length_cons, List.length_nil, List.map_cons, List.map_nil, List.replicate, List.cons_append, List.nil_append, Option.bind_some, Option.bind_none, Option.map_some, Option.map_none, List.set_cons_succ, List.set_cons_zero, List.getElem?_cons_succ, List.getElem?_cons_zero, Nat.reduceSub, Nat.reduceAdd, Nat.zero_add, if_pos, ite_true, ite_false, reduceIte, eq_self, Bool.false_eq_true, and_self, and_true, true_and, F__law_some, c__law_some, fLen, e, hx]
def sortD : D → Int
  | .none => 0
  | .bool _ => 1
  | .int _ => 2
  | .str _ => 3
  | .tuple _ => 4
  | .list _ => 5
  | .dict _ => 6
theorem sort_ok (d : D) (hh : Hh) : F__law_sort [.d d] hh = some (.v (.d (.int (sortD d))), hh) := by
  cases d <;> simp -implicitDefEqProofs only [mkFn, sSeq, sSet, sSkip, sIf, sRet, sRetV, sExpr, sFz, fzs, fz, sPr, sAsg, sAsgs, evs, tAll, tN, tT, sFor, sWhile, sApp, sDput, eIxR, sIxR, fr, eC, eVar, pk, ev, dv, vv, evd, evv, EV.sl, EV.val, EV.data, Ob.d, eTup, eLst, eBin, eUn, eChain, eAnd, eOr, eNot, eIte, bAnd, bOr, bNot, eFn, eCall, eIs, eJoin, eKd, eDict0, eSl, eSl3, pN, pI, iSeq, iRange, iZip, iEnu, iArgs, eComp, wipeS, sNo, yes, List.length_cons, List.length_nil, List.map_cons, List.map_nil, List.replicate, List.cons_append, List.nil_append, Option.bind_some, Option.bind_none, Option.map_some, Option.map_none, List.set_cons_succ, List.set_cons_zero, List.getElem?_cons_succ, List.getElem?_cons_zero, Nat.reduceSub, Nat.reduceAdd, Nat.zero_add, if_pos, ite_true, ite_false, reduceIte, eq_self, Bool.false_eq_true, and_self, and_true, true_and, F__law_sort, c__law_sort, bIs_n, isNone, inst_bool, inst_int, inst_str, inst_tuple, inst_list, sortD]
/-- alike to itself -/
def okD : Nat → D → Bool
  | _, .none => true
  | _, .bool _ => true
  | _, .int _ => true
  | _, .str _ => true
  | n + 1, .list xs => xs.all (okD n) && decide (xs.length ≤ 100000)
  | n + 1, .tuple xs => xs.all (okD n) && decide (xs.length ≤ 100000)
  | _, _ => false
theorem like_row (n : Nat) (hh : Hh) (xs : List D) (h : ∀ d, d ∈ xs → F__law_like n [.d d, .d d] hh = some (.v (.d (.bool true)), hh)) (s0 s1 s2 : Sl) :
    compL [3, 4] (tT [tN 3, tN 4]) (bNot (dv (eCall (F__law_like n) [vv (eVar 3), vv (eVar 4)]))) (c__law_like_q0 (F__law_like n)) ((xs.zip xs).map fun p => .tuple [p.1, p.2]) [s0, s1, s2, .un, .un] hh = some ([], hh) := by
  have := compL_pure (vs := [3, 4]) (t := tT [tN 3, tN 4]) (c := bNot (dv (eCall (F__law_like n) [vv (eVar 3), vv (eVar 4)]))) (e := c__law_like_q0 (F__law_like n)) (st := [s0, s1, s2, .un, .un]) (hh := hh) (p := fun _ => false) (f := id) ((xs.zip xs).map fun p => .tuple [p.1, p.2]) fun d hd => by
    obtain ⟨⟨p, q⟩, hp, rfl⟩ := List.mem_map.mp hd
    obtain ⟨i, hi, e⟩ := List.getElem_of_mem hp
    rw [List.getElem_zip] at e
    cases e
    refine ⟨_, rfl, ?_, fun h => by cases h⟩
    have hm : xs[i]'(by simp at hi; omega) ∈ xs := List.getElem_mem _
    simp -implicitDefEqProofs only [mkFn, sSeq, sSet, sSkip, sIf, sRet, sRetV, sExpr, sFz, fzs, fz, sPr, sAsg, sAsgs, evs, tAll, tN, tT, sFor, sWhile, sApp, sDput, eIxR, sIxR, fr, eC, eVar, pk, ev, dv, vv, evd, evv, EV.sl, EV.val, EV.data, Ob.d, eTup, eLst, eBin, eUn, eChain, eAnd, eOr, eNot, eIte, bAnd, bOr, bNot, eFn, eCall, eIs, eJoin, eKd, eDict0, eSl, eSl3, pN, pI, iSeq, iRange, iZip, iEnu, iArgs, eComp, wipeS, sNo, yes, List.length_cons, List.length_nil, List.map_cons, List.map_nil, List.replicate, List.cons_append, List.nil_append, Option.bind_some, Option.bind_none, Option.map_some, Option.map_none, List.set_cons_succ, List.set_cons_zero, List.getElem?_cons_succ, List.getElem?_cons_zero, Nat.reduceSub, Nat.reduceAdd, Nat.zero_add, if_pos, ite_true, ite_false, reduceIte, eq_self, Bool.false_eq_true, and_self, and_true, true_and, h _ hm, Bool.not_true]
  rw [this]
  simp
theorem like_self : ∀ (n : Nat) (d : D) (hh : Hh), okD n d = true → F__law_like (n + 1) [.d d, .d d] hh = some (.v (.d (.bool true)), hh) := by
  have sc : ∀ (n : Nat) (d : D) (hh : Hh), (sortD d = 0 ∨ sortD d = 1 ∨ sortD d = 2 ∨ sortD d = 3) → bEq d d = some (.v (.d (.bool true))) → F__law_like (n + 1) [.d d, .d d] hh = some (.v (.d (.bool true)), hh) := by
    intro n d hh hs hq
    have h6 : ¬ sortD d = 6 := by omega
    have hin : bIn (.int (sortD d)) (.tuple [.int 4, .int 5]) = some (.v (.d (.bool false))) := by
      rcases hs with h | h | h | h <;> rw [h] <;> rfl
    simp -implicitDefEqProofs only [mkFn, sSeq, sSet, sSkip, sIf, sRet, sRetV, sExpr, sFz, fzs, fz, sPr, sAsg, sAsgs, evs, tAll, tN, tT, sFor, sWhile, sApp, sDput, eIxR, sIxR, fr, eC, eVar, pk, ev, dv, vv, evd, evv, EV.sl, EV.val, EV.data, Ob.d, eTup, eLst, eBin, eUn, eChain, eAnd, eOr, eNot, eIte, bAnd, bOr, bNot, eFn, eCall, eIs, eJoin, eKd, eDict0, eSl, eSl3, pN, pI, iSeq, iRange, iZip, iEnu, iArgs, eComp, wipeS, sNo, yes, List.length_cons, List.length_nil, List.map_cons, List.map_nil, List.replicate, List.cons_append, List.nil_append, Option.bind_some, Option.bind_none, Option.map_some, Option.map_none, List.set_cons_succ, List.set_cons_zero, List.getElem?_cons_succ, List.getElem?_cons_zero, Nat.reduceSub, Nat.reduceAdd, Nat.zero_add, if_pos, ite_true, ite_false, reduceIte, eq_self, Bool.false_eq_true, and_self, and_true, true_and, F__law_like, c__law_like, sort_ok, bNe_ii, decide_true, Bool.not_true, bEq_ii, h6, decide_false, hin, hq]
  intro n
  induction n with
  | zero =>
    intro d hh h
    cases d with
    | none => exact sc 0 _ hh (.inl rfl) rfl
    | bool b => exact sc 0 _ hh (.inr (.inl rfl)) (by rw [bEq_bb, decide_eq_true rfl])
    | int i => exact sc 0 _ hh (.inr (.inr (.inl rfl))) (by rw [bEq_ii, decide_eq_true rfl])
    | str x => exact sc 0 _ hh (.inr (.inr (.inr rfl))) (by rw [bEq_ss, decide_eq_true rfl])
    | list xs => cases h
    | tuple xs => cases h
    | dict xs => cases h
  | succ n ih =>
    intro d hh h
    have seq : ∀ xs : List D, (xs.all (okD n) && decide (xs.length ≤ 100000)) = true → (∀ x, x ∈ xs → F__law_like (n + 1) [.d x, .d x] hh = some (.v (.d (.bool true)), hh)) ∧ fits ((xs.zip xs).map fun p => (.tuple [p.1, p.2] : D)).length = true := by
      intro xs hx
      rw [Bool.and_eq_true, decide_eq_true_eq] at hx
      exact ⟨fun x hm => ih x hh (List.all_eq_true.mp hx.1 x hm), fits_le (m := 100000) (by simp; exact hx.2) (by decide)⟩
    cases d with
    | none => exact sc _ _ hh (.inl rfl) rfl
    | bool b => exact sc _ _ hh (.inr (.inl rfl)) (by rw [bEq_bb, decide_eq_true rfl])
    | int i => exact sc _ _ hh (.inr (.inr (.inl rfl))) (by rw [bEq_ii, decide_eq_true rfl])
    | str x => exact sc _ _ hh (.inr (.inr (.inr rfl))) (by rw [bEq_ss, decide_eq_true rfl])
    | list xs =>
      obtain ⟨h1, h2⟩ := seq xs h
      have hin : bIn (.int 5) (.tuple [.int 4, .int 5]) = some (.v (.d (.bool true))) := rfl
      have he : bEq (.list []) (.list []) = some (.v (.d (.bool true))) := rfl
      have h56 : ¬ (5 : Int) = 6 := by decide
      have row := fun s0 s1 s2 => like_row (n + 1) hh xs h1 s0 s1 s2
      rw [F__law_like]
      simp -implicitDefEqProofs only [mkFn, sSeq, sSet, sSkip, sIf, sRet, sRetV, sExpr, sFz, fzs, fz, sPr, sAsg, sAsgs, evs, tAll, tN, tT, sFor, sWhile, sApp, sDput, eIxR, sIxR, fr, eC, eVar, pk, ev, dv, vv, evd, evv, EV.sl, EV.val, EV.data, Ob.d, eTup, eLst, eBin, eUn, eChain, eAnd, eOr, eNot, eIte, bAnd, bOr, bNot, eFn, eCall, eIs, eJoin, eKd, eDict0, eSl, eSl3, pN, pI, iSeq, iRange, iZip, iEnu, iArgs, eComp, wipeS, sNo, yes, List.length_cons, List.length_nil, List.map_cons, List.map_nil, List.replicate, List.cons_append, List.nil_append, Option.bind_some, Option.bind_none, Option.map_some, Option.map_none, List.set_cons_succ, List.set_cons_zero, List.getElem?_cons_succ, List.getElem?_cons_zero, Nat.reduceSub, Nat.reduceAdd, Nat.zero_add, if_pos, ite_true, ite_false, reduceIte, eq_self, Bool.false_eq_true, and_self, and_true, true_and, c__law_like, sort_ok, sortD, bNe_ii, decide_true, Bool.not_true, bEq_ii, h56, decide_false, hin, he, fLen, zipD, elems, h2, row]
    | tuple xs =>
      obtain ⟨h1, h2⟩ := seq xs h
      have hin : bIn (.int 4) (.tuple [.int 4, .int 5]) = some (.v (.d (.bool true))) := rfl
      have he : bEq (.list []) (.list []) = some (.v (.d (.bool true))) := rfl
      have h46 : ¬ (4 : Int) = 6 := by decide
      have row := fun s0 s1 s2 => like_row (n + 1) hh xs h1 s0 s1 s2
      rw [F__law_like]
      simp -implicitDefEqProofs only [mkFn, sSeq, sSet, sSkip, sIf, sRet, sRetV, sExpr, sFz, fzs, fz, sPr, sAsg, sAsgs, evs, tAll, tN, tT, sFor, sWhile, sApp, sDput, eIxR, sIxR, fr, eC, eVar, pk, ev, dv, vv, evd, evv, EV.sl, EV.val, EV.data, Ob.d, eTup, eLst, eBin, eUn, eChain, eAnd, eOr, eNot, eIte, bAnd, bOr, bNot, eFn, eCall, eIs, eJoin, eKd, eDict0, eSl, eSl3, pN, pI, iSeq, iRange, iZip, iEnu, iArgs, eComp, wipeS, sNo, yes, List.length_cons, List.length_nil, List.map_cons, List.map_nil, List.replicate, List.cons_append, List.nil_append, Option.bind_some, Option.bind_none, Option.map_some, Option.map_none, List.set_cons_succ, List.set_cons_zero, List.getElem?_cons_succ, List.getElem?_cons_zero, Nat.reduceSub, Nat.reduceAdd, Nat.zero_add, if_pos, ite_true, ite_false, reduceIte, eq_self, Bool.false_eq_true, and_self, and_true, true_and, c__law_like, sort_ok, sortD, bNe_ii, decide_true, Bool.not_true, bEq_ii, h46, decide_false, hin, he, fLen, zipD, elems, h2, row]
    | dict xs => cases h
end FF.L

set_option Elab.async false
set_option linter.all false
set_option maxRecDepth 100000
set_option autoImplicit false
/-! FFFoldCode: the defs on folds and words that several laws share. -/
namespace FF.L
open PySem PySem.Spec PyProof.Rows L2
def t_FOLD : List (Str × Str) := [("v", "o"), ("m", "u")]
def t_MARK : List (Str × Str) := [("o", "v"), ("u", "m")]
def t_OTHER : List (Str × Str) := [("o", "u"), ("u", "o"), ("m", "v"), ("v", "m")]
/-! levels_in: 0 word, 1 found, 2 left, 3 own, 4 at, 5 sign -/
def c_levels_in_q0 : Dv := (dv (eIte (dv (eBin bEq (dv (eBin bMod (pk 4) (dv (eC (.int 2))))) (dv (eC (.int 0))))) (eVar 5) (eKd t_OTHER (pk 5))))
def c_levels_in_b1 : Sv := (sSeq (sSet 3 (fr (eSl3 (pk 2) pN pN (dv (eC (.int 2)))))) (sSeq (sApp 1 (dv (eJoin (dv (eC (.str ""))) (dv (eComp [4, 5] (iEnu [(dv (eVar 3))]) (tT [(tN 4), (tN 5)]) yes c_levels_in_q0))))) (sSet 2 (fr (eSl3 (pk 2) (pI (dv (eC (.int 1)))) pN (dv (eC (.int 2))))))))
def c_levels_in : Sv := (sSeq (sAsgs [(tN 1), (tN 2)] [(eLst []), (fr (eVar 0))]) (sSeq (sWhile 100000 (dv (eBin bNe (pk 2) (dv (eC (.str ""))))) c_levels_in_b1) (sRet (eSl3 (pk 1) pN pN (dv (eUn uNeg (dv (eC (.int 1)))))))))
def F_levels_in : Fn := mkFn 1 6 c_levels_in
/-! folds_in: 0 word, 1 found, 2 signs -/
def c_folds_in_b0 : Sv := (sSeq (sIf (dv (eBin bNe (pk 2) (dv (eBin bMul (dv (eBin bIx (pk 2) (dv (eC (.int 0))))) (dv (eFn fLen [(pk 2)])))))) (sRet (eC .none)) sSkip) (sSet 1 (fr (eBin bAdd (pk 1) (dv (eKd t_FOLD (dv (eBin bIx (pk 2) (dv (eC (.int 0)))))))))))
def c_folds_in : Sv := (sSeq (sSet 1 (fr (eC (.str "")))) (sSeq (sFor (iSeq (dv (eCall F_levels_in [(vv (eVar 0))]))) (tN 2) c_folds_in_b0) (sRetV 1)))
def F_folds_in : Fn := mkFn 1 3 c_folds_in
/-! leaves_in: 0 many, 1 found, 2 turn -/
def c_leaves_in_b0 : Sv := (sSet 1 (fr (eBin bMul (dv (eC (.int 2))) (pk 1))))
def c_leaves_in : Sv := (sSeq (sSet 1 (fr (eC (.int 1)))) (sSeq (sFor (iRange [(dv (eVar 0))]) (tN 2) c_leaves_in_b0) (sRetV 1)))
def F_leaves_in : Fn := mkFn 1 3 c_leaves_in
/-! is_size: 0 number, 1 at -/
def c_is_size_q0 : Dv := (dv (eCall F_leaves_in [(vv (eVar 1))]))
def c_is_size : Sv := (sRet (eBin bIn (dv (eBin bAdd (pk 0) (dv (eC (.int 1))))) (dv (eComp [1] (iRange [(dv (eBin bAdd (dv (eC (.int 12))) (dv (eC (.int 1)))))]) (tN 1) yes c_is_size_q0))))
def F_is_size : Fn := mkFn 1 2 c_is_size
/-! is_word_of: 0 value, 1 signs, 2 many, 3 sign -/
def c_is_word_of_q0 : Dv := (dv (eBin bIn (pk 3) (pk 1)))
def c_is_word_of : Sv := (sRet (eAnd (dv (eIs "str" (pk 0))) (eAnd (dv (eBin bEq (dv (eFn fLen [(pk 0)])) (pk 2))) (eFn fAll [(dv (eComp [3] (iSeq (dv (eVar 0))) (tN 3) yes c_is_word_of_q0))]))))
def F_is_word_of : Fn := mkFn 3 4 c_is_word_of
/-! is_word: 0 value -/
def c_is_word : Sv := (sSeq (sIf (bOr (bNot (dv (eIs "str" (pk 0)))) (bOr (bNot (dv (eCall F_is_size [(vv (eFn fLen [(pk 0)]))]))) (bNot (dv (eCall F_is_word_of [(vv (eVar 0)), (vv (eC (.str "mv"))), (vv (eFn fLen [(pk 0)]))]))))) (sRet (eC (.bool false))) sSkip) (sRet (eBin bIsNot (dv (eCall F_folds_in [(vv (eVar 0))])) (dv (eC .none)))))
def F_is_word : Fn := mkFn 1 1 c_is_word
/-! fits_folds: 0 value -/
def c_fits_folds : Sv := (sRet (eAnd (dv (eIs "str" (pk 0))) (eAnd (dv (eBin bLe (dv (eFn fLen [(pk 0)])) (dv (eC (.int 12))))) (eCall F_is_word_of [(vv (eVar 0)), (vv (eC (.str "ou"))), (vv (eFn fLen [(pk 0)]))]))))
def F_fits_folds : Fn := mkFn 1 1 c_fits_folds
/-! need_folds: 0 value -/
def c_need_folds : Sv := (sIf (bNot (dv (eCall F_fits_folds [(vv (eVar 0))]))) sNo sSkip)
def F_need_folds : Fn := mkFn 1 1 c_need_folds
/-! sign_in: 0 folds, 1 crease, 2 fold, 3 half, 4 mark -/
def c_sign_in_b0 : Sv := (sAsgs [(tN 2), (tN 3)] [(fr (eBin bSub (pk 2) (dv (eC (.int 1))))), (fr (eBin bDiv (pk 3) (dv (eC (.int 2)))))])
def c_sign_in : Sv := (sSeq (sAsgs [(tN 2), (tN 3)] [(fr (eBin bSub (dv (eFn fLen [(pk 0)])) (dv (eC (.int 1))))), (fr (eVar 1))]) (sSeq (sWhile 100000 (dv (eBin bEq (dv (eBin bMod (pk 3) (dv (eC (.int 2))))) (dv (eC (.int 0))))) c_sign_in_b0) (sSeq (sSet 4 (fr (eKd t_MARK (dv (eBin bIx (pk 0) (pk 2)))))) (sRet (eIte (dv (eBin bEq (dv (eBin bMod (pk 3) (dv (eC (.int 4))))) (dv (eC (.int 1))))) (eVar 4) (eKd t_OTHER (pk 4)))))))
def F_sign_in : Fn := mkFn 2 5 c_sign_in
/-! word_in: 0 folds, 1 crease -/
def c_word_in_q0 : Dv := (dv (eCall F_sign_in [(vv (eVar 0)), (vv (eVar 1))]))
def c_word_in : Sv := (sRet (eJoin (dv (eC (.str ""))) (dv (eComp [1] (iRange [(dv (eC (.int 1))), (dv (eCall F_leaves_in [(vv (eFn fLen [(pk 0)]))]))]) (tN 1) yes c_word_in_q0))))
def F_word_in : Fn := mkFn 1 2 c_word_in
/-! word_of: 0 folds -/
def c_word_of : Sv := (sSeq (sExpr (eCall F_need_folds [(vv (eVar 0))])) (sRet (eCall F_word_in [(vv (eVar 0))])))
def F_word_of : Fn := mkFn 1 1 c_word_of
/-! folds_of: 0 word -/
def c_folds_of : Sv := (sSeq (sIf (bNot (dv (eCall F_is_word [(vv (eVar 0))]))) sNo sSkip) (sRet (eCall F_folds_in [(vv (eVar 0))])))
def F_folds_of : Fn := mkFn 1 1 c_folds_of
/-! is_folds: 0 value -/
def c_is_folds : Sv := (sRet (eCall F_fits_folds [(vv (eVar 0))]))
def F_is_folds : Fn := mkFn 1 1 c_is_folds
/-! _law_folds: 0 cup, 1 most, 2 found, 3 turn -/
def c__law_folds_b0 : Sv := (sSet 2 (fr (eBin bAdd (pk 2) (dv (eCall F__law_some [(vv (eVar 0)), (vv (eLst [(dv (eC (.str "o"))), (dv (eC (.str "u")))]))])))))
def c__law_folds : Sv := (sSeq (sSet 2 (fr (eC (.str "")))) (sSeq (sFor (iRange [(dv (eCall F__law_roll [(vv (eVar 0)), (vv (eBin bAdd (pk 1) (dv (eC (.int 1)))))]))]) (tN 3) c__law_folds_b0) (sRetV 2)))
def F__law_folds : Fn := mkFn 2 4 c__law_folds
/-! is_whole: 0 value, 1 low, 2 high -/
def c_is_whole : Sv := (sRet (eAnd (dv (eIs "int" (pk 0))) (eAnd (dv (eNot (dv (eIs "bool" (pk 0))))) (eChain bLe bLe (pk 1) (pk 0) (pk 2)))))
def F_is_whole : Fn := mkFn 3 3 c_is_whole
/-! sign_at: 0 folds, 1 crease -/
def c_sign_at : Sv := (sSeq (sExpr (eCall F_need_folds [(vv (eVar 0))])) (sSeq (sIf (bNot (dv (eCall F_is_whole [(vv (eVar 1)), (vv (eC (.int 0))), (vv (eBin bSub (dv (eCall F_leaves_in [(vv (eFn fLen [(pk 0)]))])) (dv (eC (.int 2)))))]))) sNo sSkip) (sRet (eCall F_sign_in [(vv (eVar 0)), (vv (eBin bAdd (pk 1) (dv (eC (.int 1)))))]))))
def F_sign_at : Fn := mkFn 2 2 c_sign_at
end FF.L

set_option Elab.async false
set_option linter.all false
set_option maxRecDepth 100000
set_option maxHeartbeats 1000000
set_option autoImplicit false
/-! FFFoldMath: words of folds, in plain lists (true: o, v). -/
namespace FF.W
/-- the word by folding: left half, middle, the left half back and turned -/
def W : List Bool → List Bool
  | [] => []
  | c :: f => W f ++ c :: ((W f).map not).reverse
theorem W_len : ∀ f : List Bool, (W f).length + 1 = 2 ^ f.length
  | [] => rfl
  | c :: f => by
    have := W_len f
    simp only [W, List.length_append, List.length_cons, List.length_reverse, List.length_map, Nat.pow_succ]
    omega
def fl (c : Bool) (k : Nat) : Bool := if k % 2 = 0 then c else !c
theorem fl_succ (c : Bool) (k : Nat) : fl (!c) k = fl c (k + 1) := by
  unfold fl
  by_cases h : k % 2 = 0
  · rw [if_pos h, if_neg (by omega)]
  · rw [if_neg h, if_pos (by omega), Bool.not_not]
theorem fl_add (c : Bool) (j k : Nat) : fl (fl c j) k = fl c (j + k) := by
  unfold fl
  by_cases h : j % 2 = 0 <;> by_cases h2 : k % 2 = 0 <;> simp only [h, h2, if_true, if_false]
  · rw [if_pos (by omega)]
  · rw [if_neg (by omega)]
  · rw [if_neg (by omega)]
  · rw [if_pos (by omega), Bool.not_not]
/-- c and its changes between the signs of w -/
def il : Bool → List Bool → List Bool
  | c, [] => [c]
  | c, x :: w => c :: x :: il (!c) w
theorem il_app : ∀ (c : Bool) (x : List Bool) (a : Bool) (y : List Bool), il c (x ++ a :: y) = il c x ++ a :: il (fl c (x.length + 1)) y
  | c, [], a, y => rfl
  | c, x :: xs, a, y => by
    have ih := il_app (!c) xs a y
    simp only [List.cons_append, il, ih, List.length_cons, fl_succ]
theorem il_rn : ∀ (c : Bool) (w : List Bool), ((il c w).map not).reverse = il (fl c (w.length + 1)) ((w.map not).reverse)
  | c, [] => rfl
  | c, x :: w => by
    have ih := il_rn (!c) w
    simp only [il, List.map_cons, List.reverse_cons, ih, il_app, fl_succ, List.length_cons, List.length_reverse, List.length_map, fl_add]
    have : fl c (w.length + 1 + 1 + (w.length + 1)) = !c := by
      unfold fl
      rw [if_neg (by omega)]
    rw [this]
    simp [il]
theorem W_last (c : Bool) : ∀ f : List Bool, W (f ++ [c]) = il c (W f)
  | [] => rfl
  | a :: f => by
    have ih := W_last c f
    simp only [List.cons_append, W, ih, il_rn, il_app]
theorem il_ev : ∀ (w : List Bool) (c : Bool) (j : Nat), j ≤ w.length → (il c w)[2 * j]? = some (fl c j)
  | w, c, 0, _ => by cases w <;> rfl
  | [], c, j + 1, h => by simp at h
  | x :: w, c, j + 1, h => by
    have ih := il_ev w (!c) j (by simpa using h)
    show (c :: x :: il (!c) w)[2 * j + 1 + 1]? = _
    rw [List.getElem?_cons_succ, List.getElem?_cons_succ, ih, fl_succ]
theorem il_od : ∀ (w : List Bool) (c : Bool) (j : Nat), (il c w)[2 * j + 1]? = w[j]?
  | [], c, 0 => rfl
  | [], c, j + 1 => by
    show [c][2 * j + 1 + 1 + 1]? = _
    simp
  | x :: w, c, 0 => rfl
  | x :: w, c, j + 1 => by
    have ih := il_od w (!c) j
    show (c :: x :: il (!c) w)[2 * j + 1 + 1 + 1]? = _
    rw [List.getElem?_cons_succ, List.getElem?_cons_succ, ih, List.getElem?_cons_succ]
/-- the sign of a crease, by its number's last digits; the folds from the last -/
def sg : List Bool → Nat → Bool
  | [], _ => false
  | c :: r, i => if i % 2 = 0 then sg r (i / 2) else if i % 4 = 1 then c else !c
theorem sg_W : ∀ (r : List Bool) (i : Nat), 1 ≤ i → i < 2 ^ r.length → (W r.reverse)[i - 1]? = some (sg r i)
  | [], i, h1, h2 => by simp at h2; omega
  | c :: r, i, h1, h2 => by
    rw [List.reverse_cons, W_last]
    have hl := W_len r.reverse
    rw [List.length_reverse] at hl
    rw [List.length_cons, Nat.pow_succ] at h2
    unfold sg
    by_cases h : i % 2 = 0
    · rw [if_pos h]
      obtain ⟨j, rfl⟩ : ∃ j, i = 2 * j + 2 := ⟨i / 2 - 1, by omega⟩
      have e : 2 * j + 2 - 1 = 2 * j + 1 := by omega
      rw [e, il_od]
      have ih := sg_W r (j + 1) (by omega) (by omega)
      rw [Nat.add_sub_cancel] at ih
      rw [ih, show (2 * j + 2) / 2 = j + 1 by omega]
    · rw [if_neg h]
      obtain ⟨j, rfl⟩ : ∃ j, i = 2 * j + 1 := ⟨i / 2, by omega⟩
      rw [Nat.add_sub_cancel, il_ev _ _ _ (by omega)]
      unfold fl
      by_cases h2 : j % 2 = 0
      · rw [if_pos h2, if_pos (by omega)]
      · rw [if_neg h2, if_neg (by omega)]
/-- every other one -/
def evn {α : Type} : List α → List α
  | [] => []
  | [x] => [x]
  | x :: _ :: w => x :: evn w
def od {α : Type} : List α → List α
  | [] => []
  | [_] => []
  | _ :: y :: w => y :: od w
theorem evn_len {α : Type} : ∀ w : List α, (evn w).length = (w.length + 1) / 2
  | [] => by simp [evn]
  | [_] => by simp [evn]
  | _ :: _ :: w => by simp only [evn, List.length_cons, evn_len w]; omega
theorem od_len {α : Type} : ∀ w : List α, (od w).length = w.length / 2
  | [] => by simp [od]
  | [_] => by simp [od]
  | _ :: _ :: w => by simp only [od, List.length_cons, od_len w]; omega
/-- every second sign turned -/
def al : Bool → List Bool → List Bool
  | _, [] => []
  | k, x :: w => (if k then x else !x) :: al (!k) w
theorem al_len : ∀ (k : Bool) (w : List Bool), (al k w).length = w.length
  | _, [] => rfl
  | k, x :: w => by simp [al, al_len (!k) w]
/-- w of an odd length is put together of its places -/
theorem il_of : ∀ (n : Nat) (w : List Bool) (c k : Bool), w.length = 2 * n + 1 → (∀ x, x ∈ al k (evn w) → x = c) → w = il (if k then c else !c) (od w)
  | 0, [x], c, k, _, h => by
    have := h _ (List.mem_cons_self)
    subst this
    cases k <;> simp [od, il]
  | n + 1, x :: y :: w, c, k, hl, h => by
    have h1 := h _ (List.mem_cons_self)
    have ih := il_of n w c (!k) (by simp at hl; omega) fun z hz => h z (List.mem_cons_of_mem _ hz)
    show x :: y :: w = _
    rw [od, il, show (!if k = true then c else !c) = (if (!k) = true then c else !c) by cases k <;> simp, ← ih]
    subst h1
    cases k <;> simp
  | 0, [], _, _, hl, _ => by simp at hl
  | 0, _ :: _ :: _, _, _, hl, _ => by simp at hl
  | n + 1, [], _, _, hl, _ => by simp at hl
  | n + 1, [_], _, _, hl, _ => by simp at hl
theorem il_al : ∀ (w : List Bool) (c k : Bool), ∀ x, x ∈ al k (evn (il c w)) → x = if k then c else !c
  | [], c, k, x, h => by
    simp [il, evn, al] at h
    exact h
  | y :: w, c, k, x, h => by
    rw [il, evn, al] at h
    rcases List.mem_cons.mp h with h | h
    · exact h
    · have := il_al w (!c) (!k) x h
      rw [this]
      cases k <;> simp
theorem od_il : ∀ (w : List Bool) (c : Bool), od (il c w) = w
  | [], c => rfl
  | x :: w, c => by rw [il, od, od_il w]
/-- the folds of a word, read off level by level -/
def fin : Nat → List Bool → Option (List Bool)
  | 0, _ => some []
  | k + 1, w => if (al true (evn w)).all (fun x => decide (x = (al true (evn w)).headD false)) then (fin k (od w)).map fun f => f ++ [(al true (evn w)).headD false] else none
theorem fin_iff : ∀ (k : Nat) (w : List Bool), w.length + 1 = 2 ^ k → ∀ f, (fin k w = some f ↔ w = W f ∧ f.length = k)
  | 0, w, hl, f => by
    have hw : w = [] := List.length_eq_zero_iff.mp (by simpa using hl)
    subst hw
    constructor
    · intro h
      cases h
      exact ⟨rfl, rfl⟩
    · rintro ⟨_, h⟩
      have := List.length_eq_zero_iff.mp h
      subst this
      rfl
  | k + 1, w, hl, f => by
    rw [Nat.pow_succ] at hl
    have hodd : w.length = 2 * (2 ^ k - 1) + 1 := by have := Nat.two_pow_pos k; omega
    have hod : (od w).length + 1 = 2 ^ k := by rw [od_len]; have := Nat.two_pow_pos k; omega
    have ih := fin_iff k (od w) hod
    constructor
    · intro h
      unfold fin at h
      split at h
      · rename_i c
        obtain ⟨f', h1, h2⟩ := Option.map_eq_some_iff.mp h
        obtain ⟨h3, h4⟩ := (ih f').mp h1
        have e := il_of _ w ((al true (evn w)).headD false) true hodd fun x hx => of_decide_eq_true (List.all_eq_true.mp c x hx)
        rw [if_pos rfl] at e
        subst h2
        rw [W_last, ← h3]
        exact ⟨e, by simp [h4]⟩
      · cases h
    · rintro ⟨h1, h2⟩
      obtain ⟨f', c, rfl⟩ : ∃ f' c, f = f' ++ [c] := by
        rcases List.eq_nil_or_concat f with h | ⟨a, b, h⟩
        · subst h; simp at h2
        · exact ⟨a, b, by simpa using h⟩
      rw [W_last] at h1
      have hc : ∀ x, x ∈ al true (evn w) → x = c := fun x hx => by
        rw [h1] at hx
        exact il_al _ c true x hx
      have hne : al true (evn w) ≠ [] := fun e => by
        have := congrArg List.length e
        rw [al_len, evn_len] at this
        simp at this
        omega
      have hhd : (al true (evn w)).headD false = c := by
        cases q : al true (evn w) with
        | nil => exact absurd q hne
        | cons a r => exact hc a (by rw [q]; exact List.mem_cons_self)
      unfold fin
      rw [hhd, if_pos (List.all_eq_true.mpr fun x hx => decide_eq_true (hc x hx))]
      have hf' : f'.length = k := by simpa using h2
      rw [(ih f').mpr ⟨by rw [h1, od_il], hf'⟩]
      rfl
/-- folding back on the middle -/
theorem W_inj {f g : List Bool} (h : W f = W g) : f = g := by
  have hl : f.length = g.length := by
    have a := W_len f
    have b := W_len g
    rw [h, b] at a
    rcases Nat.lt_trichotomy f.length g.length with h1 | h1 | h1
    · have := Nat.pow_lt_pow_right (a := 2) (by decide) h1
      omega
    · exact h1
    · have := Nat.pow_lt_pow_right (a := 2) (by decide) h1
      omega
  have a := (fin_iff f.length (W f) (W_len f) f).mpr ⟨rfl, rfl⟩
  have b := (fin_iff f.length (W f) (W_len f) g).mpr ⟨h, hl.symm⟩
  rw [a] at b
  exact Option.some.inj b
end FF.W

set_option Elab.async false
set_option linter.all false
set_option maxRecDepth 100000
set_option maxHeartbeats 1000000
set_option autoImplicit false
/-! FFFoldMath2: words by halves; a strip folded leaf by leaf. -/
namespace FF.W
def rn (w : List Bool) : List Bool := (w.map not).reverse
theorem rn_len (w : List Bool) : (rn w).length = w.length := by simp [rn]
/-- a word, halved again and again -/
def lw : Nat → List Bool → Bool
  | 0, w => decide (w.length ≤ 1)
  | n + 1, w => if w.length ≤ 1 then true else if w.length % 2 = 1 ∧ w.drop (w.length / 2 + 1) = rn (w.take (w.length / 2)) then lw n (w.take (w.length / 2)) else false
theorem short_word {w : List Bool} (h : w.length ≤ 1) : ∃ f, w = W f := by
  match w, h with
  | [], _ => exact ⟨[], rfl⟩
  | [c], _ => exact ⟨[c], rfl⟩
theorem lw_iff : ∀ (n : Nat) (w : List Bool), w.length < 2 ^ (n + 1) → (lw n w = true ↔ ∃ f, w = W f)
  | 0, w, h => by
    have h1 : w.length ≤ 1 := by simp at h; omega
    unfold lw
    exact ⟨fun _ => short_word h1, fun _ => decide_eq_true h1⟩
  | n + 1, w, h => by
    unfold lw
    by_cases h1 : w.length ≤ 1
    · rw [if_pos h1]
      exact ⟨fun _ => short_word h1, fun _ => rfl⟩
    · rw [if_neg h1]
      have hlt : (w.take (w.length / 2)).length < 2 ^ (n + 1) := by
        rw [List.length_take]
        rw [Nat.pow_succ] at h
        omega
      have ih := lw_iff n (w.take (w.length / 2)) hlt
      constructor
      · intro e
        split at e
        · rename_i c
          obtain ⟨c1, c2⟩ := c
          obtain ⟨f, hf⟩ := ih.mp e
          have hi : w.length / 2 < w.length := by omega
          refine ⟨w[w.length / 2] :: f, ?_⟩
          rw [W, ← hf]
          have : w = w.take (w.length / 2) ++ w[w.length / 2] :: w.drop (w.length / 2 + 1) := by
            rw [← List.drop_eq_getElem_cons hi, List.take_append_drop]
          rw [c2] at this
          exact this
        · cases e
      · rintro ⟨f, hf⟩
        match f, hf with
        | [], hf => subst hf; exact absurd (Nat.zero_le 1) h1
        | c :: f, hf =>
          have hl : w.length = 2 * (W f).length + 1 := by rw [hf, W]; simp; omega
          have hh : w.length / 2 = (W f).length := by omega
          have ht : w.take (w.length / 2) = W f := by rw [hh, hf, W]; simp
          have hd : w.drop (w.length / 2 + 1) = rn (W f) := by rw [hh, hf, W]; simp [rn, List.drop_append]
          rw [if_pos ⟨by omega, by rw [hd, ht]⟩]
          exact ih.mpr ⟨f, ht⟩
theorem sg_pow : ∀ (k : Nat) (r : List Bool) (s : Nat) (c : Bool), r[k]? = some c → sg r (2 ^ k * (2 * s + 1)) = if s % 2 = 0 then c else !c
  | 0, c' :: r, s, c, h => by
    simp at h
    subst h
    rw [Nat.pow_zero, Nat.one_mul, sg, if_neg (by omega)]
    by_cases h : s % 2 = 0
    · rw [if_pos (by omega), if_pos h]
    · rw [if_neg (by omega), if_neg h]
  | k + 1, c' :: r, s, c, h => by
    have e : 2 ^ (k + 1) * (2 * s + 1) = 2 * (2 ^ k * (2 * s + 1)) := by rw [Nat.pow_succ, Nat.mul_comm (2 ^ k) 2, Nat.mul_assoc]
    rw [e, sg, if_pos (by omega), Nat.mul_div_cancel_left _ (by decide)]
    exact sg_pow k r s c (by simpa using h)
  | 0, [], s, c, h => by simp at h
  | k + 1, [], s, c, h => by simp at h
/-! ### a strip in segments -/
def lo (s : Nat) : Nat := if s % 2 = 0 then 2 * s else 2 * s + 1
def hi (s : Nat) : Nat := if s % 2 = 0 then 2 * s + 1 else 2 * s
def leaf (N s x : Nat) : Nat := if s % 2 = 0 then s * N + x else s * N + (N - 1 - x)
def pr (N x s : Nat) : Nat × Bool := (leaf N s x, decide (s % 2 = 0))
def cols (N : Nat) (S : List Nat) : List (List (Nat × Bool)) := (List.range N).map fun x => S.map (pr N x)
def fseg (c : Bool) (S : List Nat) : List Nat := if c then S.map lo ++ (S.map hi).reverse else (S.map hi).reverse ++ S.map lo
def tn (p : Nat × Bool) : Nat × Bool := (p.1, !p.2)
theorem pr_lo {h x s : Nat} (hx : x < h) : pr h x (lo s) = pr (2 * h) x s := by
  unfold pr leaf lo
  by_cases e : s % 2 = 0
  · rw [if_pos e, if_pos (by omega), if_pos e]
    have : 2 * s * h = s * (2 * h) := by rw [Nat.mul_comm 2 s, Nat.mul_assoc]
    rw [this]
    simp [e]
  · rw [if_neg e, if_neg (by omega), if_neg e]
    have : (2 * s + 1) * h = s * (2 * h) + h := by rw [Nat.add_mul, Nat.one_mul, Nat.mul_comm 2 s, Nat.mul_assoc]
    rw [this]
    have e2 : ¬ (2 * s + 1) % 2 = 0 := by omega
    simp [e, e2]
    omega
theorem pr_hi {h x s : Nat} (hx : x < h) : pr h x (hi s) = tn (pr (2 * h) (2 * h - 1 - x) s) := by
  unfold pr leaf hi tn
  by_cases e : s % 2 = 0
  · rw [if_pos e, if_neg (by omega), if_pos e]
    have : (2 * s + 1) * h = s * (2 * h) + h := by rw [Nat.add_mul, Nat.one_mul, Nat.mul_comm 2 s, Nat.mul_assoc]
    rw [this]
    have e2 : ¬ (2 * s + 1) % 2 = 0 := by omega
    simp [e, e2]
    omega
  · rw [if_neg e, if_pos (by omega), if_neg e]
    have : 2 * s * h = s * (2 * h) := by rw [Nat.mul_comm 2 s, Nat.mul_assoc]
    rw [this]
    simp [e]
    omega
theorem cols_fold (h : Nat) (S : List Nat) (c : Bool) : cols h (fseg c S) = (List.range h).map fun x => let over := ((S.map (pr (2 * h) (2 * h - 1 - x))).reverse).map tn
    if c then S.map (pr (2 * h) x) ++ over else over ++ S.map (pr (2 * h) x) := by
  unfold cols
  refine List.map_congr_left fun x hx => ?_
  have hx : x < h := List.mem_range.mp hx
  have a : (S.map lo).map (pr h x) = S.map (pr (2 * h) x) := by
    rw [List.map_map]
    exact List.map_congr_left fun s _ => pr_lo hx
  have b : ((S.map hi).reverse).map (pr h x) = ((S.map (pr (2 * h) (2 * h - 1 - x))).reverse).map tn := by
    rw [← List.map_reverse, ← List.map_reverse, List.map_map, List.map_map]
    exact List.map_congr_left fun s _ => pr_hi hx
  unfold fseg
  cases c with
  | true => simp only [if_true, List.map_append, a, b]
  | false => simp only [Bool.false_eq_true, if_false, List.map_append, a, b]
theorem mem_fseg {S : List Nat} {c : Bool} {n : Nat} (h : ∀ s, s < n → s ∈ S) : ∀ s, s < 2 * n → s ∈ fseg c S := by
  intro s hs
  have hm : s / 2 ∈ S := h _ (by omega)
  have key : s ∈ S.map lo ∨ s ∈ S.map hi := by
    by_cases e : (s / 2) % 2 = 0 <;> by_cases e2 : s % 2 = 0
    · exact .inl (List.mem_map.mpr ⟨s / 2, hm, by unfold lo; rw [if_pos e]; omega⟩)
    · exact .inr (List.mem_map.mpr ⟨s / 2, hm, by unfold hi; rw [if_pos e]; omega⟩)
    · exact .inr (List.mem_map.mpr ⟨s / 2, hm, by unfold hi; rw [if_neg e]; omega⟩)
    · exact .inl (List.mem_map.mpr ⟨s / 2, hm, by unfold lo; rw [if_neg e]; omega⟩)
  unfold fseg
  cases c <;> simp only [Bool.false_eq_true, if_false, if_true, List.mem_append, List.mem_reverse]
  · exact key.symm
  · exact key
theorem fseg_lt {S : List Nat} {c : Bool} {n : Nat} (h : ∀ s, s ∈ S → s < n) : ∀ s, s ∈ fseg c S → s < 2 * n := by
  intro s hs
  have key : s ∈ S.map lo ∨ s ∈ S.map hi := by
    unfold fseg at hs
    cases c <;> simp only [Bool.false_eq_true, if_false, if_true, List.mem_append, List.mem_reverse] at hs
    · exact hs.symm
    · exact hs
  rcases key with k | k <;> obtain ⟨t, ht, e⟩ := List.mem_map.mp k <;> have := h t ht
  · unfold lo at e
    split at e <;> omega
  · unfold hi at e
    split at e <;> omega
theorem fseg_len (c : Bool) (S : List Nat) : (fseg c S).length = 2 * S.length := by
  unfold fseg
  cases c <;> simp <;> omega
end FF.W

set_option Elab.async false
set_option linter.all false
set_option maxRecDepth 100000
set_option maxHeartbeats 1000000
set_option autoImplicit false
/-! FFFoldRun: what the defs on folds and words give. -/
namespace FF.L
open PySem PySem.Spec PyProof.Rows L2 FF.W
def tx (l : List Nat) : Str := ⟨l.toArray⟩
def vc (b : Bool) : Nat := if b then 118 else 109
def oc (b : Bool) : Nat := if b then 111 else 117
def wt (w : List Bool) : Str := tx (w.map vc)
def ft (f : List Bool) : Str := tx (f.map oc)
theorem tx_len (l : List Nat) : (tx l).length = l.length := by simp [tx, Str.length]
theorem wt_len (w : List Bool) : (wt w).length = w.length := by rw [wt, tx_len, List.length_map]
theorem ft_len (w : List Bool) : (ft w).length = w.length := by rw [ft, tx_len, List.length_map]
theorem tx_inj {l m : List Nat} (h : tx l = tx m) : l = m := by
  have := congrArg (fun x : Str => x.cps.toList) h
  simpa [tx] using this
theorem lit_v : ("v" : Str) = wt [true] := by decide
theorem lit_m : ("m" : Str) = wt [false] := by decide
theorem lit_o : ("o" : Str) = ft [true] := by decide
theorem lit_u : ("u" : Str) = ft [false] := by decide
theorem lit_e : ("" : Str) = tx [] := by decide
/-! ### leaves_in -/
theorem fold_pow (n : Nat) : ∀ (l : List D) (a : Nat), l.foldl (fun (a : Nat) (_ : D) => 2 * a) a = 2 ^ l.length * a
  | [], a => by simp
  | _ :: l, a => by rw [List.foldl_cons, fold_pow n l, List.length_cons, Nat.pow_succ, Nat.mul_assoc]
theorem leaves_ok {n : Nat} (hn : n ≤ 60) (hh : Hh) : F_leaves_in [.d (.int n)] hh = some (.v (.d (.int (2 ^ n : Nat))), hh) := by
  have hr := range_n (n := n) (by omega)
  obtain ⟨st', hh', e, i⟩ := forL_ok (t := tN 2) (b := c_leaves_in_b0) (fun (a : Nat) st h => (∃ x, st = [.val (.d (.int n)), .val (.d (.int a)), x]) ∧ h = hh) (fun a _ => 2 * a) ((List.range n).map fun (k : Nat) => (.int (k : Int) : D)) (fun a d st h _ ⟨⟨x, hs⟩, hh'⟩ => by
    subst hs hh'
    refine ⟨_, [.val (.d (.int n)), .val (.d (.int ((2 * a : Nat) : Int))), .val (.d d)], h, rfl, ?_, ⟨_, rfl⟩, rfl⟩
    simp -implicitDefEqProofs only [mkFn, sSeq, sSet, sSkip, sIf, sRet, sRetV, sExpr, sFz, fzs, fz, sPr, sAsg, sAsgs, evs, tAll, tN, tT, sFor, sWhile, sApp, sDput, eIxR, sIxR, fr, eC, eVar, pk, ev, dv, vv, evd, evv, EV.sl, EV.val, EV.data, Ob.d, eTup, eLst, eBin, eUn, eChain, eAnd, eOr, eNot, eIte, bAnd, bOr, bNot, eFn, eCall, eIs, eJoin, eKd, eDict0, eSl, eSl3, pN, pI, iSeq, iRange, iZip, iEnu, iArgs, eComp, wipeS, sNo, yes, List.length_cons, List.length_nil, List.map_cons, List.map_nil, List.replicate, List.cons_append, List.nil_append, Option.bind_some, Option.bind_none, Option.map_some, Option.map_none, List.set_cons_succ, List.set_cons_zero, List.getElem?_cons_succ, List.getElem?_cons_zero, Nat.reduceSub, Nat.reduceAdd, Nat.zero_add, if_pos, ite_true, ite_false, reduceIte, eq_self, Bool.false_eq_true, and_self, and_true, true_and, c_leaves_in_b0, bMul_ii _ _ (mulOk_l (i := 2) (j := (a : Int)) (by decide) (by decide)), Int.natCast_mul, Int.cast_ofNat_Int]) 1 [.val (.d (.int n)), .val (.d (.int 1)), .un] hh ⟨⟨_, rfl⟩, rfl⟩
  obtain ⟨⟨x, hs⟩, hh2⟩ := i
  subst hs hh2
  rw [fold_pow n] at e
  simp only [List.length_map, List.length_range, Nat.mul_one] at e
  simp -implicitDefEqProofs only [mkFn, sSeq, sSet, sSkip, sIf, sRet, sRetV, sExpr, sFz, fzs, fz, sPr, sAsg, sAsgs, evs, tAll, tN, tT, sFor, sWhile, sApp, sDput, eIxR, sIxR, fr, eC, eVar, pk, ev, dv, vv, evd, evv, EV.sl, EV.val, EV.data, Ob.d, eTup, eLst, eBin, eUn, eChain, eAnd, eOr, eNot, eIte, bAnd, bOr, bNot, eFn, eCall, eIs, eJoin, eKd, eDict0, eSl, eSl3, pN, pI, iSeq, iRange, iZip, iEnu, iArgs, eComp, wipeS, sNo, yes, List.length_cons, List.length_nil, List.map_cons, List.map_nil, List.replicate, List.cons_append, List.nil_append, Option.bind_some, Option.bind_none, Option.map_some, Option.map_none, List.set_cons_succ, List.set_cons_zero, List.getElem?_cons_succ, List.getElem?_cons_zero, Nat.reduceSub, Nat.reduceAdd, Nat.zero_add, if_pos, ite_true, ite_false, reduceIte, eq_self, Bool.false_eq_true, and_self, and_true, true_and, F_leaves_in, c_leaves_in, hr, e]
/-! ### sign_in -/
theorem bIx_tx {l : List Nat} {j : Nat} {c : Nat} (hl : l.length ≤ 16777216) (h : l[j]? = some c) : bIx (.str (tx l)) (.int (j : Nat)) = some (.v (.d (.str (tx [c])))) := by
  rw [bIx_s, if_pos (by rw [tx_len]; exact decide_eq_true hl), ixD_nat (by omega)]
  simp [tx, h]
theorem sign_loop (f : List Bool) (hl : f.length ≤ 60) (s1 : Sl) (hh : Hh) : ∀ (j i fuel : Nat), 1 ≤ i → i < 2 ^ (j + 1) → j < f.length → j + 1 < fuel →
    ∃ j' i' : Nat, whileL (dv (eBin bEq (dv (eBin bMod (pk 3) (dv (eC (.int 2))))) (dv (eC (.int 0))))) c_sign_in_b0 fuel [.val (.d (.str (ft f))), s1, .val (.d (.int j)), .val (.d (.int i)), .un] hh = some (.nx [.val (.d (.str (ft f))), s1, .val (.d (.int j')), .val (.d (.int i')), .un] hh) ∧
      i' % 2 = 1 ∧ ∃ c, f[j']? = some c ∧ sg (f.take (j + 1)).reverse i = if i' % 4 = 1 then c else !c := by
  intro j
  induction j with
  | zero =>
    intro i fuel h1 h2 h3 h4
    have hi : i = 1 := by simp at h2; omega
    subst hi
    obtain ⟨fuel, rfl⟩ : ∃ m, fuel = m + 1 := ⟨fuel - 1, by omega⟩
    refine ⟨0, 1, whileL_stop ?_, rfl, f[0], List.getElem?_eq_getElem h3, ?_⟩
    · simp -implicitDefEqProofs only [mkFn, sSeq, sSet, sSkip, sIf, sRet, sRetV, sExpr, sFz, fzs, fz, sPr, sAsg, sAsgs, evs, tAll, tN, tT, sFor, sWhile, sApp, sDput, eIxR, sIxR, fr, eC, eVar, pk, ev, dv, vv, evd, evv, EV.sl, EV.val, EV.data, Ob.d, eTup, eLst, eBin, eUn, eChain, eAnd, eOr, eNot, eIte, bAnd, bOr, bNot, eFn, eCall, eIs, eJoin, eKd, eDict0, eSl, eSl3, pN, pI, iSeq, iRange, iZip, iEnu, iArgs, eComp, wipeS, sNo, yes, List.length_cons, List.length_nil, List.map_cons, List.map_nil, List.replicate, List.cons_append, List.nil_append, Option.bind_some, Option.bind_none, Option.map_some, Option.map_none, List.set_cons_succ, List.set_cons_zero, List.getElem?_cons_succ, List.getElem?_cons_zero, Nat.reduceSub, Nat.reduceAdd, Nat.zero_add, if_pos, ite_true, ite_false, reduceIte, eq_self, Bool.false_eq_true, and_self, and_true, true_and, bMod_ii _ 2 (by decide), bEq_ii]
      rfl
    · match f, h3 with
      | a :: f, _ => rfl
  | succ j ih =>
    intro i fuel h1 h2 h3 h4
    obtain ⟨fuel, rfl⟩ : ∃ m, fuel = m + 1 := ⟨fuel - 1, by omega⟩
    have ht : (f.take (j + 1 + 1)).reverse = f[j + 1] :: (f.take (j + 1)).reverse := by
      rw [List.take_succ_eq_append_getElem h3, List.reverse_append]
      rfl
    by_cases h : i % 2 = 0
    · obtain ⟨j', i', e, o, c, hc, hs⟩ := ih (i / 2) fuel (by omega) (by rw [Nat.pow_succ] at h2; omega) (by omega) (by omega)
      refine ⟨j', i', ?_, o, c, hc, ?_⟩
      · rw [← e]
        refine whileL_go (h1 := hh) ?_ ?_
        · have : decide ((i : Int) % 2 = 0) = true := decide_eq_true (by omega)
          simp -implicitDefEqProofs only [mkFn, sSeq, sSet, sSkip, sIf, sRet, sRetV, sExpr, sFz, fzs, fz, sPr, sAsg, sAsgs, evs, tAll, tN, tT, sFor, sWhile, sApp, sDput, eIxR, sIxR, fr, eC, eVar, pk, ev, dv, vv, evd, evv, EV.sl, EV.val, EV.data, Ob.d, eTup, eLst, eBin, eUn, eChain, eAnd, eOr, eNot, eIte, bAnd, bOr, bNot, eFn, eCall, eIs, eJoin, eKd, eDict0, eSl, eSl3, pN, pI, iSeq, iRange, iZip, iEnu, iArgs, eComp, wipeS, sNo, yes, List.length_cons, List.length_nil, List.map_cons, List.map_nil, List.replicate, List.cons_append, List.nil_append, Option.bind_some, Option.bind_none, Option.map_some, Option.map_none, List.set_cons_succ, List.set_cons_zero, List.getElem?_cons_succ, List.getElem?_cons_zero, Nat.reduceSub, Nat.reduceAdd, Nat.zero_add, if_pos, ite_true, ite_false, reduceIte, eq_self, Bool.false_eq_true, and_self, and_true, true_and, bMod_ii _ 2 (by decide), bEq_ii, this]
        · have e1 : ((j + 1 : Nat) : Int) - 1 = (j : Nat) := by omega
          have e2 : (i : Int) / 2 = ((i / 2 : Nat) : Int) := by omega
          simp -implicitDefEqProofs only [mkFn, sSeq, sSet, sSkip, sIf, sRet, sRetV, sExpr, sFz, fzs, fz, sPr, sAsg, sAsgs, evs, tAll, tN, tT, sFor, sWhile, sApp, sDput, eIxR, sIxR, fr, eC, eVar, pk, ev, dv, vv, evd, evv, EV.sl, EV.val, EV.data, Ob.d, eTup, eLst, eBin, eUn, eChain, eAnd, eOr, eNot, eIte, bAnd, bOr, bNot, eFn, eCall, eIs, eJoin, eKd, eDict0, eSl, eSl3, pN, pI, iSeq, iRange, iZip, iEnu, iArgs, eComp, wipeS, sNo, yes, List.length_cons, List.length_nil, List.map_cons, List.map_nil, List.replicate, List.cons_append, List.nil_append, Option.bind_some, Option.bind_none, Option.map_some, Option.map_none, List.set_cons_succ, List.set_cons_zero, List.getElem?_cons_succ, List.getElem?_cons_zero, Nat.reduceSub, Nat.reduceAdd, Nat.zero_add, if_pos, ite_true, ite_false, reduceIte, eq_self, Bool.false_eq_true, and_self, and_true, true_and, c_sign_in_b0, bSub_ii, bDiv_ii _ 2 (by decide) (by decide), e1, e2]
      · rw [ht, sg, if_pos h, hs]
    · refine ⟨j + 1, i, whileL_stop ?_, by omega, f[j + 1], List.getElem?_eq_getElem h3, ?_⟩
      · have : decide ((i : Int) % 2 = 0) = false := decide_eq_false (by omega)
        simp -implicitDefEqProofs only [mkFn, sSeq, sSet, sSkip, sIf, sRet, sRetV, sExpr, sFz, fzs, fz, sPr, sAsg, sAsgs, evs, tAll, tN, tT, sFor, sWhile, sApp, sDput, eIxR, sIxR, fr, eC, eVar, pk, ev, dv, vv, evd, evv, EV.sl, EV.val, EV.data, Ob.d, eTup, eLst, eBin, eUn, eChain, eAnd, eOr, eNot, eIte, bAnd, bOr, bNot, eFn, eCall, eIs, eJoin, eKd, eDict0, eSl, eSl3, pN, pI, iSeq, iRange, iZip, iEnu, iArgs, eComp, wipeS, sNo, yes, List.length_cons, List.length_nil, List.map_cons, List.map_nil, List.replicate, List.cons_append, List.nil_append, Option.bind_some, Option.bind_none, Option.map_some, Option.map_none, List.set_cons_succ, List.set_cons_zero, List.getElem?_cons_succ, List.getElem?_cons_zero, Nat.reduceSub, Nat.reduceAdd, Nat.zero_add, if_pos, ite_true, ite_false, reduceIte, eq_self, Bool.false_eq_true, and_self, and_true, true_and, bMod_ii _ 2 (by decide), bEq_ii, this]
      · rw [ht, sg, if_neg h]
theorem kd_mark (c : Bool) : t_MARK.lookup (ft [c]) = some (wt [c]) := by cases c <;> decide
theorem kd_other (c : Bool) : t_OTHER.lookup (wt [c]) = some (wt [!c]) := by cases c <;> decide
theorem kd_fold (c : Bool) : t_FOLD.lookup (wt [c]) = some (ft [c]) := by cases c <;> decide
theorem sign_ok {f : List Bool} (hl : f.length ≤ 60) {i : Nat} (h1 : 1 ≤ i) (h2 : i < 2 ^ f.length) (hh : Hh) : F_sign_in [.d (.str (ft f)), .d (.int i)] hh = some (.v (.d (.str (wt [sg f.reverse i]))), hh) := by
  obtain ⟨n, hn⟩ : ∃ n, f.length = n + 1 := ⟨f.length - 1, by
    cases q : f.length with
    | zero => rw [q] at h2; simp at h2; omega
    | succ n => rfl⟩
  obtain ⟨j', i', e, o, c, hc, hs⟩ := sign_loop f hl (.val (.d (.int i))) hh n i 100000 h1 (by rw [← hn]; exact h2) (by omega) (by omega)
  rw [List.take_of_length_le (by omega)] at hs
  have hx : bIx (.str (ft f)) (.int (j' : Nat)) = some (.v (.d (.str (ft [c])))) := by
    refine bIx_tx (by simp; omega) ?_
    rw [List.getElem?_map, hc]
    rfl
  have hlen : fits (ft f).length = true := fits_le (m := 60) (by rw [ft_len]; exact hl) (by decide)
  have e0 : ((ft f).length : Int) - 1 = (n : Nat) := by rw [ft_len]; omega
  simp -implicitDefEqProofs only [mkFn, sSeq, sSet, sSkip, sIf, sRet, sRetV, sExpr, sFz, fzs, fz, sPr, sAsg, sAsgs, evs, tAll, tN, tT, sFor, sWhile, sApp, sDput, eIxR, sIxR, fr, eC, eVar, pk, ev, dv, vv, evd, evv, EV.sl, EV.val, EV.data, Ob.d, eTup, eLst, eBin, eUn, eChain, eAnd, eOr, eNot, eIte, bAnd, bOr, bNot, eFn, eCall, eIs, eJoin, eKd, eDict0, eSl, eSl3, pN, pI, iSeq, iRange, iZip, iEnu, iArgs, eComp, wipeS, sNo, yes, List.length_cons, List.length_nil, List.map_cons, List.map_nil, List.replicate, List.cons_append, List.nil_append, Option.bind_some, Option.bind_none, Option.map_some, Option.map_none, List.set_cons_succ, List.set_cons_zero, List.getElem?_cons_succ, List.getElem?_cons_zero, Nat.reduceSub, Nat.reduceAdd, Nat.zero_add, if_pos, ite_true, ite_false, reduceIte, eq_self, Bool.false_eq_true, and_self, and_true, true_and, F_sign_in, c_sign_in, fLen, hlen, bSub_ii, e0, e, hx, kd_mark, bMod_ii _ 4 (by decide), bEq_ii]
  by_cases q : i' % 4 = 1
  · have : decide ((i' : Int) % 4 = 1) = true := decide_eq_true (by omega)
    rw [if_pos q] at hs
    simp -implicitDefEqProofs only [mkFn, sSeq, sSet, sSkip, sIf, sRet, sRetV, sExpr, sFz, fzs, fz, sPr, sAsg, sAsgs, evs, tAll, tN, tT, sFor, sWhile, sApp, sDput, eIxR, sIxR, fr, eC, eVar, pk, ev, dv, vv, evd, evv, EV.sl, EV.val, EV.data, Ob.d, eTup, eLst, eBin, eUn, eChain, eAnd, eOr, eNot, eIte, bAnd, bOr, bNot, eFn, eCall, eIs, eJoin, eKd, eDict0, eSl, eSl3, pN, pI, iSeq, iRange, iZip, iEnu, iArgs, eComp, wipeS, sNo, yes, List.length_cons, List.length_nil, List.map_cons, List.map_nil, List.replicate, List.cons_append, List.nil_append, Option.bind_some, Option.bind_none, Option.map_some, Option.map_none, List.set_cons_succ, List.set_cons_zero, List.getElem?_cons_succ, List.getElem?_cons_zero, Nat.reduceSub, Nat.reduceAdd, Nat.zero_add, if_pos, ite_true, ite_false, reduceIte, eq_self, Bool.false_eq_true, and_self, and_true, true_and, this, hs]
  · have : decide ((i' : Int) % 4 = 1) = false := decide_eq_false (by omega)
    rw [if_neg q] at hs
    simp -implicitDefEqProofs only [mkFn, sSeq, sSet, sSkip, sIf, sRet, sRetV, sExpr, sFz, fzs, fz, sPr, sAsg, sAsgs, evs, tAll, tN, tT, sFor, sWhile, sApp, sDput, eIxR, sIxR, fr, eC, eVar, pk, ev, dv, vv, evd, evv, EV.sl, EV.val, EV.data, Ob.d, eTup, eLst, eBin, eUn, eChain, eAnd, eOr, eNot, eIte, bAnd, bOr, bNot, eFn, eCall, eIs, eJoin, eKd, eDict0, eSl, eSl3, pN, pI, iSeq, iRange, iZip, iEnu, iArgs, eComp, wipeS, sNo, yes, List.length_cons, List.length_nil, List.map_cons, List.map_nil, List.replicate, List.cons_append, List.nil_append, Option.bind_some, Option.bind_none, Option.map_some, Option.map_none, List.set_cons_succ, List.set_cons_zero, List.getElem?_cons_succ, List.getElem?_cons_zero, Nat.reduceSub, Nat.reduceAdd, Nat.zero_add, if_pos, ite_true, ite_false, reduceIte, eq_self, Bool.false_eq_true, and_self, and_true, true_and, this, hs, kd_other]
/-! ### texts -/
theorem tx_app (l m : List Nat) : tx l ++ tx m = tx (l ++ m) := by
  show Str.append (tx l) (tx m) = _
  unfold Str.append tx
  simp
theorem wt_app (u w : List Bool) : wt u ++ wt w = wt (u ++ w) := by rw [wt, wt, tx_app, ← List.map_append, wt]
theorem ft_app (u w : List Bool) : ft u ++ ft w = ft (u ++ w) := by rw [ft, ft, tx_app, ← List.map_append, ft]
theorem join_tx : ∀ ls : List (List Nat), Txt.join (tx []) (ls.map tx) = tx ls.flatten := by
  intro ls
  show Builtin.Str.glued (tx []) (ls.map tx) = _
  rw [StrLaws.glued_eq_join]
  induction ls with
  | nil => rfl
  | cons a r ih =>
    cases r with
    | nil => show tx a = _; simp
    | cons b r =>
      show tx a ++ tx [] ++ Str.join (tx []) ((b :: r).map tx) = _
      rw [ih, tx_app, tx_app]
      simp
theorem textD_map {α : Type} (g : α → Str) : ∀ ls : List α, (ls.map fun l => (.str (g l) : D)).mapM textD = some (ls.map g)
  | [] => rfl
  | a :: r => by
    rw [List.map_cons, List.mapM_cons, textD_map g r]
    rfl
theorem joinD_tx {ls : List (List Nat)} (h : ls.flatten.length ≤ 16777216) : joinD (.str (tx [])) (.list (ls.map fun l => .str (tx l))) = some (.str (tx ls.flatten)) := by
  show ((ls.map fun l => (.str (tx l) : D)).mapM textD).bind _ = _
  rw [textD_map tx ls, Option.bind_some, join_tx]
  rw [if_pos]
  have : ((ls.map tx).map (·.length)).sum + (ls.map tx).length * (tx []).length = ls.flatten.length := by
    rw [List.map_map, List.length_flatten]
    have : ((fun x => x.length) ∘ tx : List Nat → Nat) = List.length := by funext l; exact tx_len l
    rw [this]
    simp [tx_len]
  rw [this]
  exact decide_eq_true h
theorem one_flat {α β : Type} (g : α → β) : ∀ w : List α, (w.map fun b => [g b]).flatten = w.map g
  | [] => rfl
  | a :: r => by rw [List.map_cons, List.flatten_cons, one_flat g r]; rfl
theorem joinD_wt {w : List Bool} (h : w.length ≤ 16777216) : joinD (.str "") (.list (w.map fun b => .str (wt [b]))) = some (.str (wt w)) := by
  have e := one_flat vc w
  have := joinD_tx (ls := w.map fun b => [vc b]) (by rw [e, List.length_map]; exact h)
  rw [lit_e]
  rw [List.map_map, e] at this
  exact this
theorem signs_tx (l : List Nat) : signsD (tx l) = l.map fun c => .str (tx [c]) := by simp [signsD, tx]
theorem signs_wt (w : List Bool) : signsD (wt w) = w.map fun b => .str (wt [b]) := by
  rw [wt, signs_tx, List.map_map]
  rfl
/-! ### word_in -/
theorem word_in_ok {f : List Bool} (hl : f.length ≤ 20) (hh : Hh) : F_word_in [.d (.str (ft f))] hh = some (.v (.d (.str (wt (W f)))), hh) := by
  have hlen : fits (ft f).length = true := fits_le (m := 60) (by rw [ft_len]; omega) (by decide)
  have hW := W_len f
  have h20 : 2 ^ f.length ≤ 2 ^ 20 := Nat.pow_le_pow_right (by decide) hl
  have e1 : ((ft f).length : Int) = (f.length : Nat) := by rw [ft_len]
  have hr := range_2 (i := 1) (j := ((2 ^ f.length : Nat) : Int)) (by decide) (by decide) (by omega) (by omega)
  have e2 : (((2 ^ f.length : Nat) : Int) - 1).toNat = (W f).length := by omega
  rw [e2] at hr
  have hf : fits ((List.range (W f).length).map fun (k : Nat) => (.int (1 + (k : Int)) : D)).length = true := fits_le (m := 2 ^ 20) (by simp; omega) (by decide)
  have hc := compL_mapped (vs := [1]) (t := tN 1) (e := c_word_in_q0) (st := [.val (.d (.str (ft f))), .un]) (hh := hh) (g := fun (k : Nat) => (.int (1 + (k : Int)) : D)) (f := fun k => .str (wt [sg f.reverse (k + 1)])) (List.range (W f).length) fun k hk => by
    have hk := List.mem_range.mp hk
    refine ⟨_, rfl, ?_⟩
    have e3 : 1 + (k : Int) = ((k + 1 : Nat) : Int) := by omega
    have hs := sign_ok (f := f) (by omega) (i := k + 1) (by omega) (by omega) hh
    simp -implicitDefEqProofs only [mkFn, sSeq, sSet, sSkip, sIf, sRet, sRetV, sExpr, sFz, fzs, fz, sPr, sAsg, sAsgs, evs, tAll, tN, tT, sFor, sWhile, sApp, sDput, eIxR, sIxR, fr, eC, eVar, pk, ev, dv, vv, evd, evv, EV.sl, EV.val, EV.data, Ob.d, eTup, eLst, eBin, eUn, eChain, eAnd, eOr, eNot, eIte, bAnd, bOr, bNot, eFn, eCall, eIs, eJoin, eKd, eDict0, eSl, eSl3, pN, pI, iSeq, iRange, iZip, iEnu, iArgs, eComp, wipeS, sNo, yes, List.length_cons, List.length_nil, List.map_cons, List.map_nil, List.replicate, List.cons_append, List.nil_append, Option.bind_some, Option.bind_none, Option.map_some, Option.map_none, List.set_cons_succ, List.set_cons_zero, List.getElem?_cons_succ, List.getElem?_cons_zero, Nat.reduceSub, Nat.reduceAdd, Nat.zero_add, if_pos, ite_true, ite_false, reduceIte, eq_self, Bool.false_eq_true, and_self, and_true, true_and, c_word_in_q0, e3, hs]
  have hw : ((List.range (W f).length).map fun k => (.str (wt [sg f.reverse (k + 1)]) : D)) = (W f).map fun b => .str (wt [b]) := by
    apply List.ext_getElem?
    intro i
    rw [List.getElem?_map, List.getElem?_map]
    by_cases hi : i < (W f).length
    · have := sg_W f.reverse (i + 1) (by omega) (by rw [List.length_reverse]; omega)
      rw [List.reverse_reverse, Nat.add_sub_cancel] at this
      rw [List.getElem?_range hi, this]
      rfl
    · rw [List.getElem?_eq_none (by simp; omega), List.getElem?_eq_none (by omega)]
      rfl
  rw [hw] at hc
  have hj := joinD_wt (w := W f) (by omega)
  simp -implicitDefEqProofs only [mkFn, sSeq, sSet, sSkip, sIf, sRet, sRetV, sExpr, sFz, fzs, fz, sPr, sAsg, sAsgs, evs, tAll, tN, tT, sFor, sWhile, sApp, sDput, eIxR, sIxR, fr, eC, eVar, pk, ev, dv, vv, evd, evv, EV.sl, EV.val, EV.data, Ob.d, eTup, eLst, eBin, eUn, eChain, eAnd, eOr, eNot, eIte, bAnd, bOr, bNot, eFn, eCall, eIs, eJoin, eKd, eDict0, eSl, eSl3, pN, pI, iSeq, iRange, iZip, iEnu, iArgs, eComp, wipeS, sNo, yes, List.length_cons, List.length_nil, List.map_cons, List.map_nil, List.replicate, List.cons_append, List.nil_append, Option.bind_some, Option.bind_none, Option.map_some, Option.map_none, List.set_cons_succ, List.set_cons_zero, List.getElem?_cons_succ, List.getElem?_cons_zero, Nat.reduceSub, Nat.reduceAdd, Nat.zero_add, if_pos, ite_true, ite_false, reduceIte, eq_self, Bool.false_eq_true, and_self, and_true, true_and, F_word_in, c_word_in, fLen, hlen, e1, leaves_ok (n := f.length) (by omega) hh, hr, hf, hc, hj]
/-! ### slices by two -/
theorem ev_get {α : Type} : ∀ (l : List α) (k : Nat), (evn l)[k]? = l[2 * k]?
  | [], k => by simp [evn]
  | [x], 0 => rfl
  | [x], k + 1 => by simp [evn]
  | x :: y :: w, 0 => rfl
  | x :: y :: w, k + 1 => by
    rw [evn, List.getElem?_cons_succ, ev_get w k]
    show _ = (x :: y :: w)[2 * k + 1 + 1]?
    rw [List.getElem?_cons_succ, List.getElem?_cons_succ]
theorem od_get {α : Type} : ∀ (l : List α) (k : Nat), (od l)[k]? = l[2 * k + 1]?
  | [], k => by simp [od]
  | [x], k => by simp [od]
  | x :: y :: w, 0 => rfl
  | x :: y :: w, k + 1 => by
    rw [od, List.getElem?_cons_succ, od_get w k]
    show _ = (x :: y :: w)[2 * k + 1 + 1 + 1]?
    rw [List.getElem?_cons_succ, List.getElem?_cons_succ]
theorem pick {α : Type} : ∀ (n : Nat) (xs : List α) (f : Nat → Option α), xs.length = n → (∀ k, k < n → f k = xs[k]?) → (List.range n).filterMap f = xs
  | 0, xs, f, h, _ => by rw [List.length_eq_zero_iff.mp h]; rfl
  | n + 1, xs, f, h, hf => by
    rcases List.eq_nil_or_concat xs with h0 | ⟨ys, a, h0⟩
    · rw [h0] at h; cases h
    · rw [List.concat_eq_append] at h0
      subst h0
      have hl : ys.length = n := by simpa using h
      rw [List.range_succ, List.filterMap_append, pick n ys f hl fun k hk => ?_]
      · have : f n = some a := by
          rw [hf n (by omega), List.getElem?_append_right (by omega), hl, Nat.sub_self]
          rfl
        simp only [List.filterMap_cons, List.filterMap_nil, this]
      · rw [hf k (by omega), List.getElem?_append_left (by omega)]
theorem step_ev (l : List Nat) : strStep (tx l) none none 2 = tx (evn l) := by
  unfold strStep tx
  congr 2
  show (Builtin.Str.strSliceIndices none none 2 (Str.length ⟨l.toArray⟩)).filterMap _ = _
  have hn : Str.length ⟨l.toArray⟩ = l.length := by simp [Str.length]
  rw [hn]
  have : Builtin.Str.strSliceIndices none none 2 l.length = (List.range (evn l).length).map fun k => 2 * k := by
    unfold Builtin.Str.strSliceIndices sliceRange
    rw [evn_len]
    simp only [show (2 : Int) > 0 by decide, if_true]
    by_cases h : (0 : Int) < (l.length : Int)
    · rw [if_pos h]
      have e : (((l.length : Int) - 0 + 2 - 1) / 2).toNat = (l.length + 1) / 2 := by omega
      rw [e]
      exact List.map_congr_left fun k _ => by omega
    · rw [if_neg h]
      have e : l.length = 0 := by omega
      rw [e]
      rfl
  rw [this, List.filterMap_map]
  refine pick _ _ _ rfl fun k _ => ?_
  rw [ev_get]
  simp
theorem step_od (l : List Nat) : strStep (tx l) (some 1) none 2 = tx (od l) := by
  unfold strStep tx
  congr 2
  show (Builtin.Str.strSliceIndices (some 1) none 2 (Str.length ⟨l.toArray⟩)).filterMap _ = _
  have hn : Str.length ⟨l.toArray⟩ = l.length := by simp [Str.length]
  rw [hn]
  have : Builtin.Str.strSliceIndices (some 1) none 2 l.length = (List.range (od l).length).map fun k => 2 * k + 1 := by
    unfold Builtin.Str.strSliceIndices sliceRange
    rw [od_len]
    simp only [show (2 : Int) > 0 by decide, if_true, show ¬ (1 : Int) < 0 by decide, if_false]
    by_cases h : max 0 (min (1 : Int) (l.length : Int)) < (l.length : Int)
    · rw [if_pos h]
      have e : (((l.length : Int) - max 0 (min (1 : Int) (l.length : Int)) + 2 - 1) / 2).toNat = l.length / 2 := by omega
      rw [e]
      exact List.map_congr_left fun k _ => by omega
    · rw [if_neg h]
      have e : l.length / 2 = 0 := by omega
      rw [e]
      rfl
  rw [this, List.filterMap_map]
  refine pick _ _ _ rfl fun k _ => ?_
  rw [od_get]
  simp
theorem ev_map {α β : Type} (g : α → β) : ∀ l : List α, evn (l.map g) = (evn l).map g
  | [] => rfl
  | [x] => rfl
  | x :: y :: w => by simp [evn, ev_map g w]
theorem od_map {α β : Type} (g : α → β) : ∀ l : List α, od (l.map g) = (od l).map g
  | [] => rfl
  | [x] => rfl
  | x :: y :: w => by simp [od, od_map g w]
theorem sl3_ev {w : List Bool} (h : w.length ≤ 10000000) : slD3 none none 2 (.str (wt w)) = some (.v (.d (.str (wt (evn w))))) := by
  have e : strStep (wt w) none none 2 = wt (evn w) := by rw [wt, step_ev, ev_map, wt]
  show (if _ then _ else _) = _
  rw [e, if_pos]
  rw [Bool.and_eq_true, Bool.and_eq_true]
  refine ⟨⟨by decide, fits_le (m := 10000000) (by rw [wt_len]; exact h) (by decide)⟩, fits_le (m := 10000000) (by rw [wt_len, evn_len]; omega) (by decide)⟩
theorem sl3_od {w : List Bool} (h : w.length ≤ 10000000) : slD3 (some 1) none 2 (.str (wt w)) = some (.v (.d (.str (wt (od w))))) := by
  have e : strStep (wt w) (some 1) none 2 = wt (od w) := by rw [wt, step_od, od_map, wt]
  show (if _ then _ else _) = _
  rw [e, if_pos]
  rw [Bool.and_eq_true, Bool.and_eq_true]
  refine ⟨⟨by decide, fits_le (m := 10000000) (by rw [wt_len]; exact h) (by decide)⟩, fits_le (m := 10000000) (by rw [wt_len, od_len]; omega) (by decide)⟩
/-! ### levels_in -/
def lev : Nat → List Bool → List (List Bool)
  | 0, _ => []
  | k + 1, w => al true (evn w) :: lev k (od w)
theorem al_zip : ∀ (w : List Bool) (n : Nat), (w.zipIdx n).map (fun p => if p.2 % 2 = 0 then p.1 else !p.1) = al (decide (n % 2 = 0)) w
  | [], n => rfl
  | x :: w, n => by
    rw [List.zipIdx_cons, List.map_cons, al_zip w (n + 1), al]
    by_cases h : n % 2 = 0
    · have : decide ((n + 1) % 2 = 0) = !decide (n % 2 = 0) := by simp [h]; omega
      rw [this]
      simp [h]
    · have : decide ((n + 1) % 2 = 0) = !decide (n % 2 = 0) := by simp [h]; omega
      rw [this]
      simp [h]
theorem enum_wt (u : List Bool) : enumD [.str (wt u)] = some (u.zipIdx.map fun p => .tuple [.int (p.2 : Int), .str (wt [p.1])]) := by
  have e : elems (.str (wt u)) = some (u.map fun b => .str (wt [b])) := by rw [← signs_wt]; rfl
  simp only [enumD, e, Option.map_some, List.zipIdx_map, List.map_map]
  rfl
theorem level_row (u : List Bool) (s0 s1 s2 s3 : Sl) (hh : Hh) : compL [4, 5] (tT [tN 4, tN 5]) yes c_levels_in_q0 (u.zipIdx.map fun p => .tuple [.int (p.2 : Int), .str (wt [p.1])]) [s0, s1, s2, s3, .un, .un] hh = some ((al true u).map fun b => .str (wt [b]), hh) := by
  rw [compL_mapped (f := fun p => .str (wt [if p.2 % 2 = 0 then p.1 else !p.1])) u.zipIdx fun p hp => ?_]
  · have := al_zip u 0
    rw [show decide (0 % 2 = 0) = true from rfl] at this
    rw [← this, List.map_map]
    rfl
  · refine ⟨_, rfl, ?_⟩
    by_cases h : p.2 % 2 = 0
    · have e : decide ((p.2 : Int) % 2 = 0) = true := decide_eq_true (by omega)
      simp -implicitDefEqProofs only [mkFn, sSeq, sSet, sSkip, sIf, sRet, sRetV, sExpr, sFz, fzs, fz, sPr, sAsg, sAsgs, evs, tAll, tN, tT, sFor, sWhile, sApp, sDput, eIxR, sIxR, fr, eC, eVar, pk, ev, dv, vv, evd, evv, EV.sl, EV.val, EV.data, Ob.d, eTup, eLst, eBin, eUn, eChain, eAnd, eOr, eNot, eIte, bAnd, bOr, bNot, eFn, eCall, eIs, eJoin, eKd, eDict0, eSl, eSl3, pN, pI, iSeq, iRange, iZip, iEnu, iArgs, eComp, wipeS, sNo, yes, List.length_cons, List.length_nil, List.map_cons, List.map_nil, List.replicate, List.cons_append, List.nil_append, Option.bind_some, Option.bind_none, Option.map_some, Option.map_none, List.set_cons_succ, List.set_cons_zero, List.getElem?_cons_succ, List.getElem?_cons_zero, Nat.reduceSub, Nat.reduceAdd, Nat.zero_add, if_pos, ite_true, ite_false, reduceIte, eq_self, Bool.false_eq_true, and_self, and_true, true_and, c_levels_in_q0, bMod_ii _ 2 (by decide), bEq_ii, e, h]
    · have e : decide ((p.2 : Int) % 2 = 0) = false := decide_eq_false (by omega)
      simp -implicitDefEqProofs only [mkFn, sSeq, sSet, sSkip, sIf, sRet, sRetV, sExpr, sFz, fzs, fz, sPr, sAsg, sAsgs, evs, tAll, tN, tT, sFor, sWhile, sApp, sDput, eIxR, sIxR, fr, eC, eVar, pk, ev, dv, vv, evd, evv, EV.sl, EV.val, EV.data, Ob.d, eTup, eLst, eBin, eUn, eChain, eAnd, eOr, eNot, eIte, bAnd, bOr, bNot, eFn, eCall, eIs, eJoin, eKd, eDict0, eSl, eSl3, pN, pI, iSeq, iRange, iZip, iEnu, iArgs, eComp, wipeS, sNo, yes, List.length_cons, List.length_nil, List.map_cons, List.map_nil, List.replicate, List.cons_append, List.nil_append, Option.bind_some, Option.bind_none, Option.map_some, Option.map_none, List.set_cons_succ, List.set_cons_zero, List.getElem?_cons_succ, List.getElem?_cons_zero, Nat.reduceSub, Nat.reduceAdd, Nat.zero_add, if_pos, ite_true, ite_false, reduceIte, eq_self, Bool.false_eq_true, and_self, and_true, true_and, c_levels_in_q0, bMod_ii _ 2 (by decide), bEq_ii, e, h, kd_other]
theorem wt_nil {w : List Bool} : wt w = "" ↔ w = [] := by
  rw [lit_e]
  constructor
  · intro h
    have := tx_inj (l := w.map vc) (m := []) h
    simpa using this
  · rintro rfl
    rfl
theorem levels_loop (s0 : Sl) (hh : Hh) : ∀ (k : Nat) (w : List Bool) (acc : List D) (s3 : Sl) (fuel : Nat), w.length + 1 = 2 ^ k → k ≤ 20 → acc.length ≤ 1000 → k < fuel → acc.length + k ≤ 1000 →
    ∃ s3', whileL (dv (eBin bNe (pk 2) (dv (eC (.str ""))))) c_levels_in_b1 fuel [s0, .own (.lst acc), .val (.d (.str (wt w))), s3, .un, .un] hh = some (.nx [s0, .own (.lst (acc ++ (lev k w).map fun u => .str (wt u))), .val (.d (.str "")), s3', .un, .un] hh) := by
  intro k
  induction k with
  | zero =>
    intro w acc s3 fuel h1 h2 h3 h4 h5
    have hw : w = [] := List.length_eq_zero_iff.mp (by simpa using h1)
    subst hw
    obtain ⟨fuel, rfl⟩ : ∃ m, fuel = m + 1 := ⟨fuel - 1, by omega⟩
    refine ⟨s3, ?_⟩
    have e : wt [] = "" := wt_nil.mpr rfl
    rw [e, whileL_stop (h1 := hh)]
    · simp [lev]
    · simp -implicitDefEqProofs only [mkFn, sSeq, sSet, sSkip, sIf, sRet, sRetV, sExpr, sFz, fzs, fz, sPr, sAsg, sAsgs, evs, tAll, tN, tT, sFor, sWhile, sApp, sDput, eIxR, sIxR, fr, eC, eVar, pk, ev, dv, vv, evd, evv, EV.sl, EV.val, EV.data, Ob.d, eTup, eLst, eBin, eUn, eChain, eAnd, eOr, eNot, eIte, bAnd, bOr, bNot, eFn, eCall, eIs, eJoin, eKd, eDict0, eSl, eSl3, pN, pI, iSeq, iRange, iZip, iEnu, iArgs, eComp, wipeS, sNo, yes, List.length_cons, List.length_nil, List.map_cons, List.map_nil, List.replicate, List.cons_append, List.nil_append, Option.bind_some, Option.bind_none, Option.map_some, Option.map_none, List.set_cons_succ, List.set_cons_zero, List.getElem?_cons_succ, List.getElem?_cons_zero, Nat.reduceSub, Nat.reduceAdd, Nat.zero_add, if_pos, ite_true, ite_false, reduceIte, eq_self, Bool.false_eq_true, and_self, and_true, true_and, bNe_ss, decide_true, Bool.not_true]
  | succ k ih =>
    intro w acc s3 fuel h1 h2 h3 h4 h5
    obtain ⟨fuel, rfl⟩ : ∃ m, fuel = m + 1 := ⟨fuel - 1, by omega⟩
    have hp := Nat.two_pow_pos k
    have h20 : 2 ^ (k + 1) ≤ 2 ^ 20 := Nat.pow_le_pow_right (by decide) h2
    rw [Nat.pow_succ] at h1 h20
    have hod : (od w).length + 1 = 2 ^ k := by rw [od_len]; omega
    have hne : ¬ wt w = "" := fun e => by
      have := wt_nil.mp e
      subst this
      simp at h1
      omega
    obtain ⟨s3', e⟩ := ih (od w) (acc ++ [.str (wt (al true (evn w)))]) (.val (.d (.str (wt (evn w))))) fuel hod (by omega) (by simp; omega) (by omega) (by simp; omega)
    refine ⟨s3', ?_⟩
    have hl : (evn w).length ≤ 10000000 := by rw [evn_len]; omega
    have hf : fits ((evn w).zipIdx.map fun p => (.tuple [.int (p.2 : Int), .str (wt [p.1])] : D)).length = true := fits_le (m := 10000000) (by simp; exact hl) (by decide)
    have hj := joinD_wt (w := al true (evn w)) (by rw [al_len]; omega)
    have ha : fits (acc.length + 1) = true := fits_le (m := 1001) (by omega) (by decide)
    rw [whileL_go (h1 := hh) (h2 := hh) (st2 := [s0, .own (.lst (acc ++ [.str (wt (al true (evn w)))])), .val (.d (.str (wt (od w)))), .val (.d (.str (wt (evn w)))), .un, .un]), e]
    · simp [lev]
    · simp -implicitDefEqProofs only [mkFn, sSeq, sSet, sSkip, sIf, sRet, sRetV, sExpr, sFz, fzs, fz, sPr, sAsg, sAsgs, evs, tAll, tN, tT, sFor, sWhile, sApp, sDput, eIxR, sIxR, fr, eC, eVar, pk, ev, dv, vv, evd, evv, EV.sl, EV.val, EV.data, Ob.d, eTup, eLst, eBin, eUn, eChain, eAnd, eOr, eNot, eIte, bAnd, bOr, bNot, eFn, eCall, eIs, eJoin, eKd, eDict0, eSl, eSl3, pN, pI, iSeq, iRange, iZip, iEnu, iArgs, eComp, wipeS, sNo, yes, List.length_cons, List.length_nil, List.map_cons, List.map_nil, List.replicate, List.cons_append, List.nil_append, Option.bind_some, Option.bind_none, Option.map_some, Option.map_none, List.set_cons_succ, List.set_cons_zero, List.getElem?_cons_succ, List.getElem?_cons_zero, Nat.reduceSub, Nat.reduceAdd, Nat.zero_add, if_pos, ite_true, ite_false, reduceIte, eq_self, Bool.false_eq_true, and_self, and_true, true_and, bNe_ss, hne, decide_false, Bool.not_false]
    · simp -implicitDefEqProofs only [mkFn, sSeq, sSet, sSkip, sIf, sRet, sRetV, sExpr, sFz, fzs, fz, sPr, sAsg, sAsgs, evs, tAll, tN, tT, sFor, sWhile, sApp, sDput, eIxR, sIxR, fr, eC, eVar, pk, ev, dv, vv, evd, evv, EV.sl, EV.val, EV.data, Ob.d, eTup, eLst, eBin, eUn, eChain, eAnd, eOr, eNot, eIte, bAnd, bOr, bNot, eFn, eCall, eIs, eJoin, eKd, eDict0, eSl, eSl3, pN, pI, iSeq, iRange, iZip, iEnu, iArgs, eComp, wipeS, sNo, yes, List.length_cons, List.length_nil, List.map_cons, List.map_nil, List.replicate, List.cons_append, List.nil_append, Option.bind_some, Option.bind_none, Option.map_some, Option.map_none, List.set_cons_succ, List.set_cons_zero, List.getElem?_cons_succ, List.getElem?_cons_zero, Nat.reduceSub, Nat.reduceAdd, Nat.zero_add, if_pos, ite_true, ite_false, reduceIte, eq_self, Bool.false_eq_true, and_self, and_true, true_and, c_levels_in_b1, sl3_ev (w := w) (by omega), sl3_od (w := w) (by omega), enum_wt, hf, level_row, hj, ha]
theorem levels_ok {k : Nat} {w : List Bool} (h1 : w.length + 1 = 2 ^ k) (h2 : k ≤ 20) (hh : Hh) : F_levels_in [.d (.str (wt w))] hh = some (.o (.lst ((lev k w).map fun u => .str (wt u)).reverse), hh) := by
  obtain ⟨s3', e⟩ := levels_loop (.val (.d (.str (wt w)))) hh k w [] .un 100000 h1 h2 (by simp) (by omega) (by simp; omega)
  rw [List.nil_append] at e
  have hs : ∀ xs : List D, slD3 none none (-1) (.list xs) = some (.o (.lst xs.reverse)) := fun xs => by simp only [slD3, and_self, if_true]
  have hn : uNeg (.int 1) = some (.v (.d (.int (-1)))) := (rfl)
  simp -implicitDefEqProofs only [mkFn, sSeq, sSet, sSkip, sIf, sRet, sRetV, sExpr, sFz, fzs, fz, sPr, sAsg, sAsgs, evs, tAll, tN, tT, sFor, sWhile, sApp, sDput, eIxR, sIxR, fr, eC, eVar, pk, ev, dv, vv, evd, evv, EV.sl, EV.val, EV.data, Ob.d, eTup, eLst, eBin, eUn, eChain, eAnd, eOr, eNot, eIte, bAnd, bOr, bNot, eFn, eCall, eIs, eJoin, eKd, eDict0, eSl, eSl3, pN, pI, iSeq, iRange, iZip, iEnu, iArgs, eComp, wipeS, sNo, yes, List.length_cons, List.length_nil, List.map_cons, List.map_nil, List.replicate, List.cons_append, List.nil_append, Option.bind_some, Option.bind_none, Option.map_some, Option.map_none, List.set_cons_succ, List.set_cons_zero, List.getElem?_cons_succ, List.getElem?_cons_zero, Nat.reduceSub, Nat.reduceAdd, Nat.zero_add, if_pos, ite_true, ite_false, reduceIte, eq_self, Bool.false_eq_true, and_self, and_true, true_and, F_levels_in, c_levels_in, e, hs, hn]
end FF.L

set_option Elab.async false
set_option linter.all false
set_option maxRecDepth 100000
set_option maxHeartbeats 1000000
set_option autoImplicit false
/-! FFFoldRun2: what the defs on folds and words give, second part. -/
namespace FF.L
open PySem PySem.Spec PyProof.Rows L2 FF.W
/-! ### folds_in -/
def cst (u : List Bool) : Bool := u.all fun x => decide (x = u.headD false)
theorem fin_lev : ∀ (k : Nat) (w : List Bool), fin k w = if (lev k w).all cst then some (((lev k w).map fun u => u.headD false).reverse) else none
  | 0, w => rfl
  | k + 1, w => by
    have e : ((al true (evn w)).all fun x => decide (x = (al true (evn w)).headD false)) = cst (al true (evn w)) := rfl
    rw [fin, fin_lev k (od w), e]
    have e2 : (lev (k + 1) w).all cst = (cst (al true (evn w)) && (lev k (od w)).all cst) := rfl
    by_cases h1 : cst (al true (evn w)) = true
    · by_cases h2 : (lev k (od w)).all cst = true
      · have h3 : (lev (k + 1) w).all cst = true := by rw [e2, h1, h2]; rfl
        rw [if_pos h1, if_pos h2, if_pos h3]
        simp [lev]
      · have h3 : ¬ (lev (k + 1) w).all cst = true := by rw [e2, h1, Bool.true_and]; exact h2
        rw [if_pos h1, if_neg h2, if_neg h3]
        rfl
    · have h3 : ¬ (lev (k + 1) w).all cst = true := by rw [e2, Bool.and_eq_true]; exact fun q => h1 q.1
      rw [if_neg h1, if_neg h3]
theorem cst_rep (u : List Bool) : (u = List.replicate u.length (u.headD false)) ↔ cst u = true := by
  unfold cst
  rw [List.all_eq_true]
  constructor
  · intro h x hx
    rw [h] at hx
    exact decide_eq_true (List.eq_of_mem_replicate hx)
  · intro h
    exact List.eq_replicate_of_mem fun x hx => of_decide_eq_true (h x hx)
theorem strRep_wt (c : Bool) (n : Nat) : strRep (wt [c]) n = wt (List.replicate n c) := by
  unfold strRep wt tx
  simp
theorem wt_inj {u w : List Bool} (h : wt u = wt w) : u = w := by
  have := tx_inj h
  have inj : ∀ a b : Bool, vc a = vc b → a = b := by decide
  exact List.map_inj_right (fun a b e => inj a b e) |>.mp this
theorem folds_turn {u : List Bool} (hu : u ≠ []) (hl : u.length ≤ 1000000) (g : List Bool) (hg : g.length ≤ 1000) (s0 : Sl) (hh : Hh) :
    c_folds_in_b0 [s0, .val (.d (.str (ft g))), .val (.d (.str (wt u)))] hh = if cst u then some (.nx [s0, .val (.d (.str (ft (g ++ [u.headD false])))), .val (.d (.str (wt u)))] hh) else some (.rt (.v (.d .none)) hh) := by
  have h0 : bIx (.str (wt u)) (.int 0) = some (.v (.d (.str (wt [u.headD false])))) := by
    refine bIx_tx (j := 0) (by simp; omega) ?_
    cases u with
    | nil => exact absurd rfl hu
    | cons a r => rfl
  have hf : fits (wt u).length = true := fits_le (m := 1000000) (by rw [wt_len]; exact hl) (by decide)
  have hm : bMul (.str (wt [u.headD false])) (.int ((wt u).length : Int)) = some (.v (.d (.str (wt (List.replicate u.length (u.headD false)))))) := by
    have e : ((wt u).length : Int).toNat = u.length := by rw [wt_len]; omega
    show (if _ then _ else _) = _
    rw [e, strRep_wt, if_pos]
    rw [Bool.and_eq_true, Bool.and_eq_true, wt_len, wt_len]
    refine ⟨⟨decide_eq_true (by omega), decide_eq_true (by omega)⟩, fits_le (m := 1000000) (by simp; exact hl) (by decide)⟩
  have ha : bAdd (.str (ft g)) (.str (ft [u.headD false])) = some (.v (.d (.str (ft (g ++ [u.headD false]))))) := by
    show (if _ then _ else _) = _
    rw [ft_app, if_pos]
    exact fits_le (m := 1001) (by rw [ft_len, ft_len]; simp; omega) (by decide)
  by_cases h : cst u = true
  · rw [if_pos h]
    have e : wt u = wt (List.replicate u.length (u.headD false)) := congrArg wt ((cst_rep u).mpr h)
    have e' : decide (wt u = wt (List.replicate u.length (u.headD false))) = true := decide_eq_true e
    simp -implicitDefEqProofs only [mkFn, sSeq, sSet, sSkip, sIf, sRet, sRetV, sExpr, sFz, fzs, fz, sPr, sAsg, sAsgs, evs, tAll, tN, tT, sFor, sWhile, sApp, sDput, eIxR, sIxR, fr, eC, eVar, pk, ev, dv, vv, evd, evv, EV.sl, EV.val, EV.data, Ob.d, eTup, eLst, eBin, eUn, eChain, eAnd, eOr, eNot, eIte, bAnd, bOr, bNot, eFn, eCall, eIs, eJoin, eKd, eDict0, eSl, eSl3, pN, pI, iSeq, iRange, iZip, iEnu, iArgs, eComp, wipeS, sNo, yes, List.length_cons, List.length_nil, List.map_cons, List.map_nil, List.replicate, List.cons_append, List.nil_append, Option.bind_some, Option.bind_none, Option.map_some, Option.map_none, List.set_cons_succ, List.set_cons_zero, List.getElem?_cons_succ, List.getElem?_cons_zero, Nat.reduceSub, Nat.reduceAdd, Nat.zero_add, if_pos, ite_true, ite_false, reduceIte, eq_self, Bool.false_eq_true, and_self, and_true, true_and, c_folds_in_b0, h0, fLen, hf, hm, bNe_ss, e', Bool.not_true, kd_fold, ha]
  · rw [if_neg h]
    have e' : decide (wt u = wt (List.replicate u.length (u.headD false))) = false := decide_eq_false fun e => h ((cst_rep u).mp (wt_inj e))
    simp -implicitDefEqProofs only [mkFn, sSeq, sSet, sSkip, sIf, sRet, sRetV, sExpr, sFz, fzs, fz, sPr, sAsg, sAsgs, evs, tAll, tN, tT, sFor, sWhile, sApp, sDput, eIxR, sIxR, fr, eC, eVar, pk, ev, dv, vv, evd, evv, EV.sl, EV.val, EV.data, Ob.d, eTup, eLst, eBin, eUn, eChain, eAnd, eOr, eNot, eIte, bAnd, bOr, bNot, eFn, eCall, eIs, eJoin, eKd, eDict0, eSl, eSl3, pN, pI, iSeq, iRange, iZip, iEnu, iArgs, eComp, wipeS, sNo, yes, List.length_cons, List.length_nil, List.map_cons, List.map_nil, List.replicate, List.cons_append, List.nil_append, Option.bind_some, Option.bind_none, Option.map_some, Option.map_none, List.set_cons_succ, List.set_cons_zero, List.getElem?_cons_succ, List.getElem?_cons_zero, Nat.reduceSub, Nat.reduceAdd, Nat.zero_add, if_pos, ite_true, ite_false, reduceIte, eq_self, Bool.false_eq_true, and_self, and_true, true_and, c_folds_in_b0, h0, fLen, hf, hm, bNe_ss, e', Bool.not_false]
theorem folds_loop (s0 : Sl) (hh : Hh) : ∀ (Ls : List (List Bool)) (g : List Bool) (s2 : Sl), (∀ u, u ∈ Ls → u ≠ [] ∧ u.length ≤ 1000000) → g.length + Ls.length ≤ 1000 →
    (Ls.all cst = true → ∃ s2', forL (tN 2) c_folds_in_b0 (Ls.map fun u => .str (wt u)) [s0, .val (.d (.str (ft g))), s2] hh = some (.nx [s0, .val (.d (.str (ft (g ++ Ls.map fun u => u.headD false)))), s2'] hh)) ∧
    (Ls.all cst = false → forL (tN 2) c_folds_in_b0 (Ls.map fun u => .str (wt u)) [s0, .val (.d (.str (ft g))), s2] hh = some (.rt (.v (.d .none)) hh))
  | [], g, s2, _, _ => ⟨fun _ => ⟨s2, by simp [forL]⟩, fun h => by cases h⟩
  | u :: Ls, g, s2, h, hl => by
    obtain ⟨h1, h2⟩ := h u List.mem_cons_self
    have t := folds_turn h1 h2 g (by omega) s0 hh
    have ih := folds_loop s0 hh Ls (g ++ [u.headD false]) (.val (.d (.str (wt u)))) (fun u hu => h u (List.mem_cons_of_mem _ hu)) (by simp at hl ⊢; omega)
    have go : forL (tN 2) c_folds_in_b0 ((u :: Ls).map fun u => .str (wt u)) [s0, .val (.d (.str (ft g))), s2] hh = (c_folds_in_b0 [s0, .val (.d (.str (ft g))), .val (.d (.str (wt u)))] hh).bind fun r => match r with
      | .nx st2 hh2 => forL (tN 2) c_folds_in_b0 (Ls.map fun u => .str (wt u)) st2 hh2
      | .rt e hh' => some (.rt e hh') := rfl
    rw [go, t]
    cases hc : cst u with
    | true =>
      rw [if_pos rfl, Option.bind_some]
      simp only [List.all_cons, hc, Bool.true_and]
      refine ⟨fun q => ?_, ih.2⟩
      obtain ⟨s2', e⟩ := ih.1 q
      exact ⟨s2', by rw [e]; simp⟩
    | false =>
      rw [if_neg (by decide), Option.bind_some]
      exact ⟨fun q => (by rw [List.all_cons, hc] at q; cases q), fun _ => rfl⟩
theorem lev_mem : ∀ (k : Nat) (w : List Bool), w.length + 1 = 2 ^ k → ∀ u, u ∈ lev k w → u ≠ [] ∧ u.length ≤ w.length
  | 0, w, _, u, hu => by cases hu
  | k + 1, w, h, u, hu => by
    have hp := Nat.two_pow_pos k
    rw [Nat.pow_succ] at h
    rcases List.mem_cons.mp hu with hu | hu
    · subst hu
      refine ⟨fun e => ?_, by rw [al_len, evn_len]; omega⟩
      have := congrArg List.length e
      rw [al_len, evn_len] at this
      simp at this
      omega
    · have := lev_mem k (od w) (by rw [od_len]; omega) u hu
      exact ⟨this.1, by rw [od_len] at this; omega⟩
theorem lev_len : ∀ (k : Nat) (w : List Bool), (lev k w).length = k
  | 0, _ => rfl
  | k + 1, w => by simp [lev, lev_len k]
def optD (o : Option (List Bool)) : D := match o with
  | some f => .str (ft f)
  | none => .none
theorem folds_in_ok {k : Nat} {w : List Bool} (h1 : w.length + 1 = 2 ^ k) (h2 : k ≤ 15) (hh : Hh) : F_folds_in [.d (.str (wt w))] hh = some (.v (.d (optD (fin k w))), hh) := by
  have hlev := levels_ok h1 (by omega) hh
  have h15 : 2 ^ k ≤ 2 ^ 15 := Nat.pow_le_pow_right (by decide) h2
  have hl := folds_loop (.val (.d (.str (wt w)))) hh (lev k w).reverse [] .un (fun u hu => by
    obtain ⟨a, b⟩ := lev_mem k w h1 u (List.mem_reverse.mp hu)
    exact ⟨a, by omega⟩) (by simp [lev_len]; omega)
  have e0 : ("" : Str) = ft [] := by decide
  rw [List.all_reverse] at hl
  have er : ((lev k w).map fun u => (.str (wt u) : D)).reverse = (lev k w).reverse.map fun u => .str (wt u) := by rw [List.map_reverse]
  have hel : elems (.list ((lev k w).reverse.map fun u => (.str (wt u) : D))) = some ((lev k w).reverse.map fun u => .str (wt u)) := (rfl)
  rw [fin_lev, ← List.map_reverse]
  cases hc : (lev k w).all cst with
  | true =>
    obtain ⟨s2', e⟩ := hl.1 hc
    rw [List.nil_append] at e
    rw [er] at hlev
    simp -implicitDefEqProofs only [mkFn, sSeq, sSet, sSkip, sIf, sRet, sRetV, sExpr, sFz, fzs, fz, sPr, sAsg, sAsgs, evs, tAll, tN, tT, sFor, sWhile, sApp, sDput, eIxR, sIxR, fr, eC, eVar, pk, ev, dv, vv, evd, evv, EV.sl, EV.val, EV.data, Ob.d, eTup, eLst, eBin, eUn, eChain, eAnd, eOr, eNot, eIte, bAnd, bOr, bNot, eFn, eCall, eIs, eJoin, eKd, eDict0, eSl, eSl3, pN, pI, iSeq, iRange, iZip, iEnu, iArgs, eComp, wipeS, sNo, yes, List.length_cons, List.length_nil, List.map_cons, List.map_nil, List.replicate, List.cons_append, List.nil_append, Option.bind_some, Option.bind_none, Option.map_some, Option.map_none, List.set_cons_succ, List.set_cons_zero, List.getElem?_cons_succ, List.getElem?_cons_zero, Nat.reduceSub, Nat.reduceAdd, Nat.zero_add, if_pos, ite_true, ite_false, reduceIte, eq_self, Bool.false_eq_true, and_self, and_true, true_and, F_folds_in, c_folds_in, hlev, hel, e0, e, optD]
  | false =>
    have e := hl.2 hc
    rw [er] at hlev
    simp -implicitDefEqProofs only [mkFn, sSeq, sSet, sSkip, sIf, sRet, sRetV, sExpr, sFz, fzs, fz, sPr, sAsg, sAsgs, evs, tAll, tN, tT, sFor, sWhile, sApp, sDput, eIxR, sIxR, fr, eC, eVar, pk, ev, dv, vv, evd, evv, EV.sl, EV.val, EV.data, Ob.d, eTup, eLst, eBin, eUn, eChain, eAnd, eOr, eNot, eIte, bAnd, bOr, bNot, eFn, eCall, eIs, eJoin, eKd, eDict0, eSl, eSl3, pN, pI, iSeq, iRange, iZip, iEnu, iArgs, eComp, wipeS, sNo, yes, List.length_cons, List.length_nil, List.map_cons, List.map_nil, List.replicate, List.cons_append, List.nil_append, Option.bind_some, Option.bind_none, Option.map_some, Option.map_none, List.set_cons_succ, List.set_cons_zero, List.getElem?_cons_succ, List.getElem?_cons_zero, Nat.reduceSub, Nat.reduceAdd, Nat.zero_add, if_pos, ite_true, ite_false, reduceIte, eq_self, Bool.false_eq_true, and_self, and_true, true_and, F_folds_in, c_folds_in, hlev, hel, e0, e, optD]
/-! ### is_word_of, is_size -/
theorem mapM_bools : ∀ bs : List Bool, (bs.map fun b => (.bool b : D)).mapM truthD = some bs
  | [] => rfl
  | b :: r => by
    rw [List.map_cons, List.mapM_cons, mapM_bools r]
    rfl
theorem all_bools (bs : List Bool) : fAll [.list (bs.map fun b => .bool b)] = some (.v (.d (.bool (bs.all id)))) := by
  show ((bs.map fun b => (.bool b : D)).mapM truthD).map _ = _
  rw [mapM_bools]
  rfl
theorem bIn_tx (c : Nat) (m : List Nat) : bIn (.str (tx [c])) (.str (tx m)) = some (.v (.d (.bool (m.contains c)))) := by
  have : bInB (.str (tx [c])) (.str (tx m)) = some (m.contains c) := by
    simp [bInB, tx]
  unfold bIn
  rw [this]
  rfl
theorem is_word_of_str {l m : List Nat} (hl : l.length ≤ 1000000) (n : Int) (hh : Hh) : F_is_word_of [.d (.str (tx l)), .d (.str (tx m)), .d (.int n)] hh = some (.v (.d (.bool (decide ((l.length : Int) = n) && l.all fun c => m.contains c))), hh) := by
  have hf : fits (tx l).length = true := fits_le (m := 1000000) (by rw [tx_len]; exact hl) (by decide)
  have hel : elems (.str (tx l)) = some (l.map fun c => .str (tx [c])) := by rw [← signs_tx]; rfl
  have hf2 : fits (l.map fun c => (.str (tx [c]) : D)).length = true := fits_le (m := 1000000) (by simp; exact hl) (by decide)
  have hc := compL_mapped (vs := [3]) (t := tN 3) (e := c_is_word_of_q0) (st := [.val (.d (.str (tx l))), .val (.d (.str (tx m))), .val (.d (.int n)), .un]) (hh := hh) (g := fun c => (.str (tx [c]) : D)) (f := fun c => .bool (m.contains c)) l fun c _ => by
    refine ⟨_, rfl, ?_⟩
    simp -implicitDefEqProofs only [mkFn, sSeq, sSet, sSkip, sIf, sRet, sRetV, sExpr, sFz, fzs, fz, sPr, sAsg, sAsgs, evs, tAll, tN, tT, sFor, sWhile, sApp, sDput, eIxR, sIxR, fr, eC, eVar, pk, ev, dv, vv, evd, evv, EV.sl, EV.val, EV.data, Ob.d, eTup, eLst, eBin, eUn, eChain, eAnd, eOr, eNot, eIte, bAnd, bOr, bNot, eFn, eCall, eIs, eJoin, eKd, eDict0, eSl, eSl3, pN, pI, iSeq, iRange, iZip, iEnu, iArgs, eComp, wipeS, sNo, yes, List.length_cons, List.length_nil, List.map_cons, List.map_nil, List.replicate, List.cons_append, List.nil_append, Option.bind_some, Option.bind_none, Option.map_some, Option.map_none, List.set_cons_succ, List.set_cons_zero, List.getElem?_cons_succ, List.getElem?_cons_zero, Nat.reduceSub, Nat.reduceAdd, Nat.zero_add, if_pos, ite_true, ite_false, reduceIte, eq_self, Bool.false_eq_true, and_self, and_true, true_and, c_is_word_of_q0, bIn_tx]
  have ha := all_bools (l.map fun c => m.contains c)
  rw [List.map_map] at ha
  have e1 : ((tx l).length : Int) = (l.length : Nat) := by rw [tx_len]
  by_cases h : (l.length : Int) = n
  · have e : decide ((l.length : Int) = n) = true := decide_eq_true h
    simp -implicitDefEqProofs only [mkFn, sSeq, sSet, sSkip, sIf, sRet, sRetV, sExpr, sFz, fzs, fz, sPr, sAsg, sAsgs, evs, tAll, tN, tT, sFor, sWhile, sApp, sDput, eIxR, sIxR, fr, eC, eVar, pk, ev, dv, vv, evd, evv, EV.sl, EV.val, EV.data, Ob.d, eTup, eLst, eBin, eUn, eChain, eAnd, eOr, eNot, eIte, bAnd, bOr, bNot, eFn, eCall, eIs, eJoin, eKd, eDict0, eSl, eSl3, pN, pI, iSeq, iRange, iZip, iEnu, iArgs, eComp, wipeS, sNo, yes, List.length_cons, List.length_nil, List.map_cons, List.map_nil, List.replicate, List.cons_append, List.nil_append, Option.bind_some, Option.bind_none, Option.map_some, Option.map_none, List.set_cons_succ, List.set_cons_zero, List.getElem?_cons_succ, List.getElem?_cons_zero, Nat.reduceSub, Nat.reduceAdd, Nat.zero_add, if_pos, ite_true, ite_false, reduceIte, eq_self, Bool.false_eq_true, and_self, and_true, true_and, F_is_word_of, c_is_word_of, inst_str, fLen, hf, e1, bEq_ii, e, hel, hf2, hc, Bool.true_and]
    have e2 : fAll [.list (l.map fun c => .bool (m.contains c))] = some (.v (.d (.bool (l.all fun c => m.contains c)))) := by
      rw [show (l.map fun c => (.bool (m.contains c) : D)) = l.map ((fun b => (.bool b : D)) ∘ fun c => m.contains c) from rfl, ha]
      simp [List.all_map, Function.comp_def]
    simp -implicitDefEqProofs only [mkFn, sSeq, sSet, sSkip, sIf, sRet, sRetV, sExpr, sFz, fzs, fz, sPr, sAsg, sAsgs, evs, tAll, tN, tT, sFor, sWhile, sApp, sDput, eIxR, sIxR, fr, eC, eVar, pk, ev, dv, vv, evd, evv, EV.sl, EV.val, EV.data, Ob.d, eTup, eLst, eBin, eUn, eChain, eAnd, eOr, eNot, eIte, bAnd, bOr, bNot, eFn, eCall, eIs, eJoin, eKd, eDict0, eSl, eSl3, pN, pI, iSeq, iRange, iZip, iEnu, iArgs, eComp, wipeS, sNo, yes, List.length_cons, List.length_nil, List.map_cons, List.map_nil, List.replicate, List.cons_append, List.nil_append, Option.bind_some, Option.bind_none, Option.map_some, Option.map_none, List.set_cons_succ, List.set_cons_zero, List.getElem?_cons_succ, List.getElem?_cons_zero, Nat.reduceSub, Nat.reduceAdd, Nat.zero_add, if_pos, ite_true, ite_false, reduceIte, eq_self, Bool.false_eq_true, and_self, and_true, true_and, e2]
  · have e : decide ((l.length : Int) = n) = false := decide_eq_false h
    simp -implicitDefEqProofs only [mkFn, sSeq, sSet, sSkip, sIf, sRet, sRetV, sExpr, sFz, fzs, fz, sPr, sAsg, sAsgs, evs, tAll, tN, tT, sFor, sWhile, sApp, sDput, eIxR, sIxR, fr, eC, eVar, pk, ev, dv, vv, evd, evv, EV.sl, EV.val, EV.data, Ob.d, eTup, eLst, eBin, eUn, eChain, eAnd, eOr, eNot, eIte, bAnd, bOr, bNot, eFn, eCall, eIs, eJoin, eKd, eDict0, eSl, eSl3, pN, pI, iSeq, iRange, iZip, iEnu, iArgs, eComp, wipeS, sNo, yes, List.length_cons, List.length_nil, List.map_cons, List.map_nil, List.replicate, List.cons_append, List.nil_append, Option.bind_some, Option.bind_none, Option.map_some, Option.map_none, List.set_cons_succ, List.set_cons_zero, List.getElem?_cons_succ, List.getElem?_cons_zero, Nat.reduceSub, Nat.reduceAdd, Nat.zero_add, if_pos, ite_true, ite_false, reduceIte, eq_self, Bool.false_eq_true, and_self, and_true, true_and, F_is_word_of, c_is_word_of, inst_str, fLen, hf, e1, bEq_ii, e, Bool.false_and]
theorem size_vals (hh : Hh) (s0 : Sl) : compL [1] (tN 1) yes c_is_size_q0 ((List.range 13).map fun (k : Nat) => .int (k : Int)) [s0, .un] hh = some ((List.range 13).map fun (k : Nat) => .int ((2 ^ k : Nat) : Int), hh) :=
  compL_mapped (List.range 13) fun k hk => ⟨_, rfl, by
    have hk := List.mem_range.mp hk
    simp -implicitDefEqProofs only [mkFn, sSeq, sSet, sSkip, sIf, sRet, sRetV, sExpr, sFz, fzs, fz, sPr, sAsg, sAsgs, evs, tAll, tN, tT, sFor, sWhile, sApp, sDput, eIxR, sIxR, fr, eC, eVar, pk, ev, dv, vv, evd, evv, EV.sl, EV.val, EV.data, Ob.d, eTup, eLst, eBin, eUn, eChain, eAnd, eOr, eNot, eIte, bAnd, bOr, bNot, eFn, eCall, eIs, eJoin, eKd, eDict0, eSl, eSl3, pN, pI, iSeq, iRange, iZip, iEnu, iArgs, eComp, wipeS, sNo, yes, List.length_cons, List.length_nil, List.map_cons, List.map_nil, List.replicate, List.cons_append, List.nil_append, Option.bind_some, Option.bind_none, Option.map_some, Option.map_none, List.set_cons_succ, List.set_cons_zero, List.getElem?_cons_succ, List.getElem?_cons_zero, Nat.reduceSub, Nat.reduceAdd, Nat.zero_add, if_pos, ite_true, ite_false, reduceIte, eq_self, Bool.false_eq_true, and_self, and_true, true_and, c_is_size_q0, leaves_ok (n := k) (by omega) hh]⟩
theorem is_size_ok (n : Nat) (hh : Hh) : F_is_size [.d (.int n)] hh = some (.v (.d (.bool ((List.range 13).any fun k => decide (2 ^ k = n + 1)))), hh) := by
  have hr := range_n (n := 13) (by decide)
  have hb : bIn (.int ((n : Int) + 1)) (.list ((List.range 13).map fun (k : Nat) => .int ((2 ^ k : Nat) : Int))) = some (.v (.d (.bool ((List.range 13).any fun k => decide (2 ^ k = n + 1))))) := by
    have hp : plAll 20 ((List.range 13).map fun (k : Nat) => (.int ((2 ^ k : Nat) : Int) : D)) = true := by decide
    unfold bIn
    simp only [bInB, plI, hp, Bool.and_self, if_true, Option.map_some, List.any_map, Function.comp_def, eq_ii]
    congr 5
    funext k
    by_cases h : 2 ^ k = n + 1
    · rw [decide_eq_true h, decide_eq_true (by rw [h]; rfl)]
    · rw [decide_eq_false h, decide_eq_false (by omega)]
  have e1 : (12 : Int) + 1 = ((13 : Nat) : Int) := by decide
  have hf : fits ((List.range 13).map fun (k : Nat) => (.int (k : Int) : D)).length = true := by decide
  simp -implicitDefEqProofs only [mkFn, sSeq, sSet, sSkip, sIf, sRet, sRetV, sExpr, sFz, fzs, fz, sPr, sAsg, sAsgs, evs, tAll, tN, tT, sFor, sWhile, sApp, sDput, eIxR, sIxR, fr, eC, eVar, pk, ev, dv, vv, evd, evv, EV.sl, EV.val, EV.data, Ob.d, eTup, eLst, eBin, eUn, eChain, eAnd, eOr, eNot, eIte, bAnd, bOr, bNot, eFn, eCall, eIs, eJoin, eKd, eDict0, eSl, eSl3, pN, pI, iSeq, iRange, iZip, iEnu, iArgs, eComp, wipeS, sNo, yes, List.length_cons, List.length_nil, List.map_cons, List.map_nil, List.replicate, List.cons_append, List.nil_append, Option.bind_some, Option.bind_none, Option.map_some, Option.map_none, List.set_cons_succ, List.set_cons_zero, List.getElem?_cons_succ, List.getElem?_cons_zero, Nat.reduceSub, Nat.reduceAdd, Nat.zero_add, if_pos, ite_true, ite_false, reduceIte, eq_self, Bool.false_eq_true, and_self, and_true, true_and, F_is_size, c_is_size, bAdd_ii, e1, hr, hf, size_vals, hb]
end FF.L

set_option Elab.async false
set_option linter.all false
set_option maxRecDepth 100000
set_option maxHeartbeats 1000000
set_option autoImplicit false
/-! FFFoldRun3: is_word, folds_of, word_of, sign_at, random folds. -/
namespace FF.L
open PySem PySem.Spec PyProof.Rows L2 FF.W
theorem lit_mv : ("mv" : Str) = tx [109, 118] := by decide
theorem lit_ou : ("ou" : Str) = tx [111, 117] := by decide
theorem str_tx (x : Str) : x = tx x.cps.toList := by obtain ⟨c⟩ := x; simp [tx]
theorem of_mv : ∀ l : List Nat, (l.all fun c => [109, 118].contains c) = true → ∃ w : List Bool, l = w.map vc
  | [], _ => ⟨[], rfl⟩
  | c :: r, h => by
    rw [List.all_cons, Bool.and_eq_true] at h
    obtain ⟨w, hw⟩ := of_mv r h.2
    have : c = 109 ∨ c = 118 := by simpa using h.1
    rcases this with e | e
    · exact ⟨false :: w, by rw [hw, e]; rfl⟩
    · exact ⟨true :: w, by rw [hw, e]; rfl⟩
theorem mv_of (w : List Bool) : ((w.map vc).all fun c => [109, 118].contains c) = true := by
  rw [List.all_map, List.all_eq_true]
  intro b _
  cases b <;> rfl
theorem of_ou : ∀ l : List Nat, (l.all fun c => [111, 117].contains c) = true → ∃ w : List Bool, l = w.map oc
  | [], _ => ⟨[], rfl⟩
  | c :: r, h => by
    rw [List.all_cons, Bool.and_eq_true] at h
    obtain ⟨w, hw⟩ := of_ou r h.2
    have : c = 111 ∨ c = 117 := by simpa using h.1
    rcases this with e | e
    · exact ⟨true :: w, by rw [hw, e]; rfl⟩
    · exact ⟨false :: w, by rw [hw, e]; rfl⟩
theorem ou_of (w : List Bool) : ((w.map oc).all fun c => [111, 117].contains c) = true := by
  rw [List.all_map, List.all_eq_true]
  intro b _
  cases b <;> rfl
theorem fLen_tx {l : List Nat} (hl : l.length ≤ 1000000) : fLen [.str (tx l)] = some (.v (.d (.int (l.length : Nat)))) := by
  have hf : fits (tx l).length = true := fits_le (m := 1000000) (by rw [tx_len]; exact hl) (by decide)
  rw [tx_len] at hf
  simp only [fLen, tx_len, hf, if_true]
def short (d : D) : Prop := ∀ x, d = .str x → x.length ≤ 1000000
theorem short_tx {l : List Nat} (h : l.length ≤ 1000000) : short (.str (tx l)) := fun x e => by cases e; rw [tx_len]; exact h
theorem is_word_str {l : List Nat} (hl : l.length ≤ 1000000) (hh : Hh) : ∃ b, F_is_word [.d (.str (tx l))] hh = some (.v (.d (.bool b)), hh) ∧ (b = true ↔ ∃ f : List Bool, f.length ≤ 12 ∧ l = (W f).map vc) := by
  have hs := is_size_ok l.length hh
  have hw := is_word_of_str (l := l) (m := [109, 118]) hl (l.length : Int) hh
  rw [decide_eq_true rfl, Bool.true_and, ← lit_mv] at hw
  have hlen := fLen_tx hl
  cases h1 : (List.range 13).any fun k => decide (2 ^ k = l.length + 1) with
  | false =>
    rw [h1] at hs
    refine ⟨false, ?_, ⟨(fun h => nomatch h), ?_⟩⟩
    · simp -implicitDefEqProofs only [mkFn, sSeq, sSet, sSkip, sIf, sRet, sRetV, sExpr, sFz, fzs, fz, sPr, sAsg, sAsgs, evs, tAll, tN, tT, sFor, sWhile, sApp, sDput, eIxR, sIxR, fr, eC, eVar, pk, ev, dv, vv, evd, evv, EV.sl, EV.val, EV.data, Ob.d, eTup, eLst, eBin, eUn, eChain, eAnd, eOr, eNot, eIte, bAnd, bOr, bNot, eFn, eCall, eIs, eJoin, eKd, eDict0, eSl, eSl3, pN, pI, iSeq, iRange, iZip, iEnu, iArgs, eComp, wipeS, sNo, yes, List.length_cons, List.length_nil, List.map_cons, List.map_nil, List.replicate, List.cons_append, List.nil_append, Option.bind_some, Option.bind_none, Option.map_some, Option.map_none, List.set_cons_succ, List.set_cons_zero, List.getElem?_cons_succ, List.getElem?_cons_zero, Nat.reduceSub, Nat.reduceAdd, Nat.zero_add, if_pos, ite_true, ite_false, reduceIte, eq_self, Bool.false_eq_true, and_self, and_true, true_and, F_is_word, c_is_word, inst_str, Bool.not_true, hlen, hs, Bool.not_false]
    · rintro ⟨f, hf, e⟩
      have := W_len f
      have : (List.range 13).any (fun k => decide (2 ^ k = l.length + 1)) = true := List.any_eq_true.mpr ⟨f.length, List.mem_range.mpr (by omega), decide_eq_true (by rw [e, List.length_map]; omega)⟩
      rw [h1] at this
      cases this
  | true =>
    rw [h1] at hs
    obtain ⟨k, hk, hk2⟩ := List.any_eq_true.mp h1
    have hk := List.mem_range.mp hk
    have hk2 := of_decide_eq_true hk2
    cases h2 : l.all fun c => [109, 118].contains c with
    | false =>
      rw [h2] at hw
      refine ⟨false, ?_, ⟨(fun h => nomatch h), ?_⟩⟩
      · simp -implicitDefEqProofs only [mkFn, sSeq, sSet, sSkip, sIf, sRet, sRetV, sExpr, sFz, fzs, fz, sPr, sAsg, sAsgs, evs, tAll, tN, tT, sFor, sWhile, sApp, sDput, eIxR, sIxR, fr, eC, eVar, pk, ev, dv, vv, evd, evv, EV.sl, EV.val, EV.data, Ob.d, eTup, eLst, eBin, eUn, eChain, eAnd, eOr, eNot, eIte, bAnd, bOr, bNot, eFn, eCall, eIs, eJoin, eKd, eDict0, eSl, eSl3, pN, pI, iSeq, iRange, iZip, iEnu, iArgs, eComp, wipeS, sNo, yes, List.length_cons, List.length_nil, List.map_cons, List.map_nil, List.replicate, List.cons_append, List.nil_append, Option.bind_some, Option.bind_none, Option.map_some, Option.map_none, List.set_cons_succ, List.set_cons_zero, List.getElem?_cons_succ, List.getElem?_cons_zero, Nat.reduceSub, Nat.reduceAdd, Nat.zero_add, if_pos, ite_true, ite_false, reduceIte, eq_self, Bool.false_eq_true, and_self, and_true, true_and, F_is_word, c_is_word, inst_str, Bool.not_true, hlen, hs, Bool.not_false, hw]
      · rintro ⟨f, hf, e⟩
        rw [e, mv_of] at h2
        cases h2
    | true =>
      rw [h2] at hw
      obtain ⟨w, rfl⟩ := of_mv l h2
      rw [List.length_map] at hk2
      have hi := folds_in_ok (k := k) (w := w) hk2.symm (by omega) hh
      rw [wt] at hi
      refine ⟨!isNone (optD (fin k w)), ?_, ?_⟩
      · simp -implicitDefEqProofs only [mkFn, sSeq, sSet, sSkip, sIf, sRet, sRetV, sExpr, sFz, fzs, fz, sPr, sAsg, sAsgs, evs, tAll, tN, tT, sFor, sWhile, sApp, sDput, eIxR, sIxR, fr, eC, eVar, pk, ev, dv, vv, evd, evv, EV.sl, EV.val, EV.data, Ob.d, eTup, eLst, eBin, eUn, eChain, eAnd, eOr, eNot, eIte, bAnd, bOr, bNot, eFn, eCall, eIs, eJoin, eKd, eDict0, eSl, eSl3, pN, pI, iSeq, iRange, iZip, iEnu, iArgs, eComp, wipeS, sNo, yes, List.length_cons, List.length_nil, List.map_cons, List.map_nil, List.replicate, List.cons_append, List.nil_append, Option.bind_some, Option.bind_none, Option.map_some, Option.map_none, List.set_cons_succ, List.set_cons_zero, List.getElem?_cons_succ, List.getElem?_cons_zero, Nat.reduceSub, Nat.reduceAdd, Nat.zero_add, if_pos, ite_true, ite_false, reduceIte, eq_self, Bool.false_eq_true, and_self, and_true, true_and, F_is_word, c_is_word, inst_str, Bool.not_true, hlen, hs, hw, hi, bIsNot_n]
      · constructor
        · intro h
          cases q : fin k w with
          | none => rw [q] at h; cases h
          | some f =>
            obtain ⟨a, b⟩ := (fin_iff k w hk2.symm f).mp q
            exact ⟨f, by omega, by rw [a]⟩
        · rintro ⟨f, hf, e⟩
          have e2 : w = W f := wt_inj (by rw [wt, wt, e])
          have hfk : f.length = k := by
            have := W_len f
            rw [← e2, ← hk2] at this
            rcases Nat.lt_trichotomy f.length k with h1 | h1 | h1
            · have := Nat.pow_lt_pow_right (a := 2) (by decide) h1
              omega
            · exact h1
            · have := Nat.pow_lt_pow_right (a := 2) (by decide) h1
              omega
          rw [(fin_iff k w hk2.symm f).mpr ⟨e2, hfk⟩]
          rfl
theorem is_word_ok {v : D} (hv : short v) (hh : Hh) : ∃ b, F_is_word [.d v] hh = some (.v (.d (.bool b)), hh) ∧ (b = true ↔ ∃ f : List Bool, f.length ≤ 12 ∧ v = .str (wt (W f))) := by
  have non : instD "str" v = false → (∀ x, v ≠ .str x) → ∃ b, F_is_word [.d v] hh = some (.v (.d (.bool b)), hh) ∧ (b = true ↔ ∃ f : List Bool, f.length ≤ 12 ∧ v = .str (wt (W f))) := fun h h2 => by
    refine ⟨false, ?_, ⟨(fun h => nomatch h), fun ⟨f, _, e⟩ => absurd e (h2 _)⟩⟩
    simp -implicitDefEqProofs only [mkFn, sSeq, sSet, sSkip, sIf, sRet, sRetV, sExpr, sFz, fzs, fz, sPr, sAsg, sAsgs, evs, tAll, tN, tT, sFor, sWhile, sApp, sDput, eIxR, sIxR, fr, eC, eVar, pk, ev, dv, vv, evd, evv, EV.sl, EV.val, EV.data, Ob.d, eTup, eLst, eBin, eUn, eChain, eAnd, eOr, eNot, eIte, bAnd, bOr, bNot, eFn, eCall, eIs, eJoin, eKd, eDict0, eSl, eSl3, pN, pI, iSeq, iRange, iZip, iEnu, iArgs, eComp, wipeS, sNo, yes, List.length_cons, List.length_nil, List.map_cons, List.map_nil, List.replicate, List.cons_append, List.nil_append, Option.bind_some, Option.bind_none, Option.map_some, Option.map_none, List.set_cons_succ, List.set_cons_zero, List.getElem?_cons_succ, List.getElem?_cons_zero, Nat.reduceSub, Nat.reduceAdd, Nat.zero_add, if_pos, ite_true, ite_false, reduceIte, eq_self, Bool.false_eq_true, and_self, and_true, true_and, F_is_word, c_is_word, h, Bool.not_false]
  cases v with
  | str x =>
    have hx := hv x rfl
    rw [str_tx x] at hx ⊢
    rw [tx_len] at hx
    obtain ⟨b, e, i⟩ := is_word_str hx hh
    refine ⟨b, e, i.trans ?_⟩
    constructor
    · rintro ⟨f, hf, e⟩
      exact ⟨f, hf, by rw [e]; rfl⟩
    · rintro ⟨f, hf, e⟩
      injection e with e
      exact ⟨f, hf, tx_inj e⟩
  | none => exact non (inst_str _) fun _ => PyData.noConfusion
  | bool b => exact non (inst_str _) fun _ => PyData.noConfusion
  | int i => exact non (inst_str _) fun _ => PyData.noConfusion
  | list xs => exact non (inst_str _) fun _ => PyData.noConfusion
  | tuple xs => exact non (inst_str _) fun _ => PyData.noConfusion
  | dict xs => exact non (inst_str _) fun _ => PyData.noConfusion
theorem folds_of_ok {f : List Bool} (hf : f.length ≤ 12) (hh : Hh) : F_folds_of [.d (.str (wt (W f)))] hh = some (.v (.d (.str (ft f))), hh) := by
  have hW := W_len f
  have h12 : 2 ^ f.length ≤ 2 ^ 12 := Nat.pow_le_pow_right (by decide) hf
  obtain ⟨b, e, i⟩ := is_word_ok (v := .str (wt (W f))) (short_tx (by rw [List.length_map]; omega)) hh
  have hb : b = true := i.mpr ⟨f, hf, rfl⟩
  subst hb
  have hi := folds_in_ok (k := f.length) (w := W f) hW (by omega) hh
  rw [(fin_iff f.length (W f) hW f).mpr ⟨rfl, rfl⟩] at hi
  simp -implicitDefEqProofs only [mkFn, sSeq, sSet, sSkip, sIf, sRet, sRetV, sExpr, sFz, fzs, fz, sPr, sAsg, sAsgs, evs, tAll, tN, tT, sFor, sWhile, sApp, sDput, eIxR, sIxR, fr, eC, eVar, pk, ev, dv, vv, evd, evv, EV.sl, EV.val, EV.data, Ob.d, eTup, eLst, eBin, eUn, eChain, eAnd, eOr, eNot, eIte, bAnd, bOr, bNot, eFn, eCall, eIs, eJoin, eKd, eDict0, eSl, eSl3, pN, pI, iSeq, iRange, iZip, iEnu, iArgs, eComp, wipeS, sNo, yes, List.length_cons, List.length_nil, List.map_cons, List.map_nil, List.replicate, List.cons_append, List.nil_append, Option.bind_some, Option.bind_none, Option.map_some, Option.map_none, List.set_cons_succ, List.set_cons_zero, List.getElem?_cons_succ, List.getElem?_cons_zero, Nat.reduceSub, Nat.reduceAdd, Nat.zero_add, if_pos, ite_true, ite_false, reduceIte, eq_self, Bool.false_eq_true, and_self, and_true, true_and, F_folds_of, c_folds_of, e, Bool.not_true, hi, optD]
theorem fits_folds_ok {v : D} (hv : short v) (hh : Hh) : ∃ b, F_fits_folds [.d v] hh = some (.v (.d (.bool b)), hh) ∧ (b = true ↔ ∃ f : List Bool, f.length ≤ 12 ∧ v = .str (ft f)) := by
  have non : instD "str" v = false → (∀ x, v ≠ .str x) → ∃ b, F_fits_folds [.d v] hh = some (.v (.d (.bool b)), hh) ∧ (b = true ↔ ∃ f : List Bool, f.length ≤ 12 ∧ v = .str (ft f)) := fun h h2 => by
    refine ⟨false, ?_, ⟨(fun h => nomatch h), fun ⟨f, _, e⟩ => absurd e (h2 _)⟩⟩
    simp -implicitDefEqProofs only [mkFn, sSeq, sSet, sSkip, sIf, sRet, sRetV, sExpr, sFz, fzs, fz, sPr, sAsg, sAsgs, evs, tAll, tN, tT, sFor, sWhile, sApp, sDput, eIxR, sIxR, fr, eC, eVar, pk, ev, dv, vv, evd, evv, EV.sl, EV.val, EV.data, Ob.d, eTup, eLst, eBin, eUn, eChain, eAnd, eOr, eNot, eIte, bAnd, bOr, bNot, eFn, eCall, eIs, eJoin, eKd, eDict0, eSl, eSl3, pN, pI, iSeq, iRange, iZip, iEnu, iArgs, eComp, wipeS, sNo, yes, List.length_cons, List.length_nil, List.map_cons, List.map_nil, List.replicate, List.cons_append, List.nil_append, Option.bind_some, Option.bind_none, Option.map_some, Option.map_none, List.set_cons_succ, List.set_cons_zero, List.getElem?_cons_succ, List.getElem?_cons_zero, Nat.reduceSub, Nat.reduceAdd, Nat.zero_add, if_pos, ite_true, ite_false, reduceIte, eq_self, Bool.false_eq_true, and_self, and_true, true_and, F_fits_folds, c_fits_folds, h]
  cases v with
  | str x =>
    have hx := hv x rfl
    rw [str_tx x] at hx ⊢
    rw [tx_len] at hx
    have hlen := fLen_tx hx
    have hw := is_word_of_str (l := x.cps.toList) (m := [111, 117]) hx (x.cps.toList.length : Int) hh
    rw [decide_eq_true rfl, Bool.true_and, ← lit_ou] at hw
    by_cases h : x.cps.toList.length ≤ 12
    · have e : decide ((x.cps.toList.length : Int) ≤ 12) = true := decide_eq_true (by omega)
      refine ⟨x.cps.toList.all fun c => [111, 117].contains c, ?_, ?_⟩
      · simp -implicitDefEqProofs only [mkFn, sSeq, sSet, sSkip, sIf, sRet, sRetV, sExpr, sFz, fzs, fz, sPr, sAsg, sAsgs, evs, tAll, tN, tT, sFor, sWhile, sApp, sDput, eIxR, sIxR, fr, eC, eVar, pk, ev, dv, vv, evd, evv, EV.sl, EV.val, EV.data, Ob.d, eTup, eLst, eBin, eUn, eChain, eAnd, eOr, eNot, eIte, bAnd, bOr, bNot, eFn, eCall, eIs, eJoin, eKd, eDict0, eSl, eSl3, pN, pI, iSeq, iRange, iZip, iEnu, iArgs, eComp, wipeS, sNo, yes, List.length_cons, List.length_nil, List.map_cons, List.map_nil, List.replicate, List.cons_append, List.nil_append, Option.bind_some, Option.bind_none, Option.map_some, Option.map_none, List.set_cons_succ, List.set_cons_zero, List.getElem?_cons_succ, List.getElem?_cons_zero, Nat.reduceSub, Nat.reduceAdd, Nat.zero_add, if_pos, ite_true, ite_false, reduceIte, eq_self, Bool.false_eq_true, and_self, and_true, true_and, F_fits_folds, c_fits_folds, inst_str, hlen, bLe_ii, e, hw]
      · constructor
        · intro hb
          obtain ⟨w, hw⟩ := of_ou _ hb
          exact ⟨w, by rw [hw, List.length_map] at h; exact h, by rw [hw]; rfl⟩
        · rintro ⟨f, hf, e⟩
          injection e with e
          rw [tx_inj e, ou_of]
    · have e : decide ((x.cps.toList.length : Int) ≤ 12) = false := decide_eq_false (by omega)
      refine ⟨false, ?_, ⟨(fun h => nomatch h), ?_⟩⟩
      · simp -implicitDefEqProofs only [mkFn, sSeq, sSet, sSkip, sIf, sRet, sRetV, sExpr, sFz, fzs, fz, sPr, sAsg, sAsgs, evs, tAll, tN, tT, sFor, sWhile, sApp, sDput, eIxR, sIxR, fr, eC, eVar, pk, ev, dv, vv, evd, evv, EV.sl, EV.val, EV.data, Ob.d, eTup, eLst, eBin, eUn, eChain, eAnd, eOr, eNot, eIte, bAnd, bOr, bNot, eFn, eCall, eIs, eJoin, eKd, eDict0, eSl, eSl3, pN, pI, iSeq, iRange, iZip, iEnu, iArgs, eComp, wipeS, sNo, yes, List.length_cons, List.length_nil, List.map_cons, List.map_nil, List.replicate, List.cons_append, List.nil_append, Option.bind_some, Option.bind_none, Option.map_some, Option.map_none, List.set_cons_succ, List.set_cons_zero, List.getElem?_cons_succ, List.getElem?_cons_zero, Nat.reduceSub, Nat.reduceAdd, Nat.zero_add, if_pos, ite_true, ite_false, reduceIte, eq_self, Bool.false_eq_true, and_self, and_true, true_and, F_fits_folds, c_fits_folds, inst_str, hlen, bLe_ii, e]
      · rintro ⟨f, hf, e⟩
        injection e with e
        rw [tx_inj e, List.length_map] at h
        exact absurd hf h
  | none => exact non (inst_str _) fun _ => PyData.noConfusion
  | bool b => exact non (inst_str _) fun _ => PyData.noConfusion
  | int i => exact non (inst_str _) fun _ => PyData.noConfusion
  | list xs => exact non (inst_str _) fun _ => PyData.noConfusion
  | tuple xs => exact non (inst_str _) fun _ => PyData.noConfusion
  | dict xs => exact non (inst_str _) fun _ => PyData.noConfusion
theorem short_ft {f : List Bool} (h : f.length ≤ 1000) : short (.str (ft f)) := short_tx (by rw [List.length_map]; omega)
theorem is_folds_ok {f : List Bool} (hf : f.length ≤ 12) (hh : Hh) : F_is_folds [.d (.str (ft f))] hh = some (.v (.d (.bool true)), hh) := by
  obtain ⟨b, e, i⟩ := fits_folds_ok (v := .str (ft f)) (short_ft (by omega)) hh
  have hb : b = true := i.mpr ⟨f, hf, rfl⟩
  subst hb
  simp -implicitDefEqProofs only [mkFn, sSeq, sSet, sSkip, sIf, sRet, sRetV, sExpr, sFz, fzs, fz, sPr, sAsg, sAsgs, evs, tAll, tN, tT, sFor, sWhile, sApp, sDput, eIxR, sIxR, fr, eC, eVar, pk, ev, dv, vv, evd, evv, EV.sl, EV.val, EV.data, Ob.d, eTup, eLst, eBin, eUn, eChain, eAnd, eOr, eNot, eIte, bAnd, bOr, bNot, eFn, eCall, eIs, eJoin, eKd, eDict0, eSl, eSl3, pN, pI, iSeq, iRange, iZip, iEnu, iArgs, eComp, wipeS, sNo, yes, List.length_cons, List.length_nil, List.map_cons, List.map_nil, List.replicate, List.cons_append, List.nil_append, Option.bind_some, Option.bind_none, Option.map_some, Option.map_none, List.set_cons_succ, List.set_cons_zero, List.getElem?_cons_succ, List.getElem?_cons_zero, Nat.reduceSub, Nat.reduceAdd, Nat.zero_add, if_pos, ite_true, ite_false, reduceIte, eq_self, Bool.false_eq_true, and_self, and_true, true_and, F_is_folds, c_is_folds, e]
theorem need_folds_ok {f : List Bool} (hf : f.length ≤ 12) (hh : Hh) : F_need_folds [.d (.str (ft f))] hh = some (.v (.d .none), hh) := by
  obtain ⟨b, e, i⟩ := fits_folds_ok (v := .str (ft f)) (short_ft (by omega)) hh
  have hb : b = true := i.mpr ⟨f, hf, rfl⟩
  subst hb
  simp -implicitDefEqProofs only [mkFn, sSeq, sSet, sSkip, sIf, sRet, sRetV, sExpr, sFz, fzs, fz, sPr, sAsg, sAsgs, evs, tAll, tN, tT, sFor, sWhile, sApp, sDput, eIxR, sIxR, fr, eC, eVar, pk, ev, dv, vv, evd, evv, EV.sl, EV.val, EV.data, Ob.d, eTup, eLst, eBin, eUn, eChain, eAnd, eOr, eNot, eIte, bAnd, bOr, bNot, eFn, eCall, eIs, eJoin, eKd, eDict0, eSl, eSl3, pN, pI, iSeq, iRange, iZip, iEnu, iArgs, eComp, wipeS, sNo, yes, List.length_cons, List.length_nil, List.map_cons, List.map_nil, List.replicate, List.cons_append, List.nil_append, Option.bind_some, Option.bind_none, Option.map_some, Option.map_none, List.set_cons_succ, List.set_cons_zero, List.getElem?_cons_succ, List.getElem?_cons_zero, Nat.reduceSub, Nat.reduceAdd, Nat.zero_add, if_pos, ite_true, ite_false, reduceIte, eq_self, Bool.false_eq_true, and_self, and_true, true_and, F_need_folds, c_need_folds, e, Bool.not_true]
theorem word_of_ok {f : List Bool} (hf : f.length ≤ 12) (hh : Hh) : F_word_of [.d (.str (ft f))] hh = some (.v (.d (.str (wt (W f)))), hh) := by
  simp -implicitDefEqProofs only [mkFn, sSeq, sSet, sSkip, sIf, sRet, sRetV, sExpr, sFz, fzs, fz, sPr, sAsg, sAsgs, evs, tAll, tN, tT, sFor, sWhile, sApp, sDput, eIxR, sIxR, fr, eC, eVar, pk, ev, dv, vv, evd, evv, EV.sl, EV.val, EV.data, Ob.d, eTup, eLst, eBin, eUn, eChain, eAnd, eOr, eNot, eIte, bAnd, bOr, bNot, eFn, eCall, eIs, eJoin, eKd, eDict0, eSl, eSl3, pN, pI, iSeq, iRange, iZip, iEnu, iArgs, eComp, wipeS, sNo, yes, List.length_cons, List.length_nil, List.map_cons, List.map_nil, List.replicate, List.cons_append, List.nil_append, Option.bind_some, Option.bind_none, Option.map_some, Option.map_none, List.set_cons_succ, List.set_cons_zero, List.getElem?_cons_succ, List.getElem?_cons_zero, Nat.reduceSub, Nat.reduceAdd, Nat.zero_add, if_pos, ite_true, ite_false, reduceIte, eq_self, Bool.false_eq_true, and_self, and_true, true_and, F_word_of, c_word_of, need_folds_ok hf hh, word_in_ok (f := f) (by omega) hh]
theorem is_whole_ok {i a b : Int} (h1 : a ≤ i) (h2 : i ≤ b) (hh : Hh) : F_is_whole [.d (.int i), .d (.int a), .d (.int b)] hh = some (.v (.d (.bool true)), hh) := by
  have e1 : decide (a ≤ i) = true := decide_eq_true h1
  have e2 : decide (i ≤ b) = true := decide_eq_true h2
  simp -implicitDefEqProofs only [mkFn, sSeq, sSet, sSkip, sIf, sRet, sRetV, sExpr, sFz, fzs, fz, sPr, sAsg, sAsgs, evs, tAll, tN, tT, sFor, sWhile, sApp, sDput, eIxR, sIxR, fr, eC, eVar, pk, ev, dv, vv, evd, evv, EV.sl, EV.val, EV.data, Ob.d, eTup, eLst, eBin, eUn, eChain, eAnd, eOr, eNot, eIte, bAnd, bOr, bNot, eFn, eCall, eIs, eJoin, eKd, eDict0, eSl, eSl3, pN, pI, iSeq, iRange, iZip, iEnu, iArgs, eComp, wipeS, sNo, yes, List.length_cons, List.length_nil, List.map_cons, List.map_nil, List.replicate, List.cons_append, List.nil_append, Option.bind_some, Option.bind_none, Option.map_some, Option.map_none, List.set_cons_succ, List.set_cons_zero, List.getElem?_cons_succ, List.getElem?_cons_zero, Nat.reduceSub, Nat.reduceAdd, Nat.zero_add, if_pos, ite_true, ite_false, reduceIte, eq_self, Bool.false_eq_true, and_self, and_true, true_and, F_is_whole, c_is_whole, inst_int, inst_bool, Bool.not_false, bLe_ii, e1, e2]
theorem sign_at_ok {f : List Bool} (hf : f.length ≤ 12) {i : Nat} (hi : i < (W f).length) (hh : Hh) : F_sign_at [.d (.str (ft f)), .d (.int i)] hh = some (.v (.d (.str (wt [(W f)[i]]))), hh) := by
  have hW := W_len f
  have h12 : 2 ^ f.length ≤ 2 ^ 12 := Nat.pow_le_pow_right (by decide) hf
  have hlen := fLen_tx (l := f.map oc) (by rw [List.length_map]; omega)
  rw [List.length_map] at hlen
  have hl := leaves_ok (n := f.length) (by omega) hh
  have hw := is_whole_ok (i := (i : Int)) (a := 0) (b := ((2 ^ f.length : Nat) : Int) - 2) (by omega) (by omega) hh
  have hs := sign_ok (f := f) (by omega) (i := i + 1) (by omega) (by omega) hh
  have hg := sg_W f.reverse (i + 1) (by omega) (by rw [List.length_reverse]; omega)
  rw [List.reverse_reverse, Nat.add_sub_cancel, List.getElem?_eq_getElem hi] at hg
  have hg := Option.some.inj hg
  rw [hg]
  have e1 : (i : Int) + 1 = ((i + 1 : Nat) : Int) := by omega
  have hlen : fLen [.str (ft f)] = some (.v (.d (.int (f.length : Nat)))) := hlen
  simp -implicitDefEqProofs only [mkFn, sSeq, sSet, sSkip, sIf, sRet, sRetV, sExpr, sFz, fzs, fz, sPr, sAsg, sAsgs, evs, tAll, tN, tT, sFor, sWhile, sApp, sDput, eIxR, sIxR, fr, eC, eVar, pk, ev, dv, vv, evd, evv, EV.sl, EV.val, EV.data, Ob.d, eTup, eLst, eBin, eUn, eChain, eAnd, eOr, eNot, eIte, bAnd, bOr, bNot, eFn, eCall, eIs, eJoin, eKd, eDict0, eSl, eSl3, pN, pI, iSeq, iRange, iZip, iEnu, iArgs, eComp, wipeS, sNo, yes, List.length_cons, List.length_nil, List.map_cons, List.map_nil, List.replicate, List.cons_append, List.nil_append, Option.bind_some, Option.bind_none, Option.map_some, Option.map_none, List.set_cons_succ, List.set_cons_zero, List.getElem?_cons_succ, List.getElem?_cons_zero, Nat.reduceSub, Nat.reduceAdd, Nat.zero_add, if_pos, ite_true, ite_false, reduceIte, eq_self, Bool.false_eq_true, and_self, and_true, true_and, F_sign_at, c_sign_at, need_folds_ok hf hh, hlen, hl, bSub_ii, hw, Bool.not_true, bAdd_ii, e1, hs]
/-! ### random folds -/
theorem folds_turns (n : Nat) (s1 : Sl) : ∀ (ds : List D) (f : List Bool) (s3 : Sl) (hh : Hh), CupAt hh n → f.length + ds.length ≤ 1000 →
    ∃ (g : List Bool) (s3' : Sl) (hh' : Hh), forL (tN 3) c__law_folds_b0 ds [.val (.ref n), s1, .val (.d (.str (ft f))), s3] hh = some (.nx [.val (.ref n), s1, .val (.d (.str (ft g))), s3'] hh') ∧ g.length = f.length + ds.length ∧ CupAt hh' n
  | [], f, s3, hh, hc, _ => ⟨f, s3, hh, rfl, rfl, hc⟩
  | d :: ds, f, s3, hh, hc, hl => by
    obtain ⟨i, x, h1, hx, e1, hc1⟩ := some_ok hc (xs := [.str "o", .str "u"]) (by simp) (by simp)
    obtain ⟨c, hc2⟩ : ∃ c, x = .str (ft [c]) := by
      match i, hx with
      | 0, hx => exact ⟨true, by simp at hx; rw [← hx, lit_o]⟩
      | 1, hx => exact ⟨false, by simp at hx; rw [← hx, lit_u]⟩
      | i + 2, hx => simp at hx
    subst hc2
    have ha : bAdd (.str (ft f)) (.str (ft [c])) = some (.v (.d (.str (ft (f ++ [c]))))) := by
      have hf : fits ((ft f).length + (ft [c]).length) = true := fits_le (m := 1001) (by rw [ft_len, ft_len]; simp at hl ⊢; omega) (by decide)
      simp only [bAdd, hf, if_true, ft_app]
    obtain ⟨g, s3', hh', e2, hg, hc3⟩ := folds_turns n s1 ds (f ++ [c]) (.val (.d d)) h1 hc1 (by simp at hl ⊢; omega)
    refine ⟨g, s3', hh', ?_, by rw [hg]; simp; omega, hc3⟩
    have go : forL (tN 3) c__law_folds_b0 (d :: ds) [.val (.ref n), s1, .val (.d (.str (ft f))), s3] hh = (c__law_folds_b0 [.val (.ref n), s1, .val (.d (.str (ft f))), .val (.d d)] hh).bind fun r => match r with
      | .nx st2 hh2 => forL (tN 3) c__law_folds_b0 ds st2 hh2
      | .rt e hh' => some (.rt e hh') := rfl
    have hb : c__law_folds_b0 [.val (.ref n), s1, .val (.d (.str (ft f))), .val (.d d)] hh = some (.nx [.val (.ref n), s1, .val (.d (.str (ft (f ++ [c])))), .val (.d d)] h1) := by
      simp -implicitDefEqProofs only [mkFn, sSeq, sSet, sSkip, sIf, sRet, sRetV, sExpr, sFz, fzs, fz, sPr, sAsg, sAsgs, evs, tAll, tN, tT, sFor, sWhile, sApp, sDput, eIxR, sIxR, fr, eC, eVar, pk, ev, dv, vv, evd, evv, EV.sl, EV.val, EV.data, Ob.d, eTup, eLst, eBin, eUn, eChain, eAnd, eOr, eNot, eIte, bAnd, bOr, bNot, eFn, eCall, eIs, eJoin, eKd, eDict0, eSl, eSl3, pN, pI, iSeq, iRange, iZip, iEnu, iArgs, eComp, wipeS, sNo, yes, List.length_cons, List.length_nil, List.map_cons, List.map_nil, List.replicate, List.cons_append, List.nil_append, Option.bind_some, Option.bind_none, Option.map_some, Option.map_none, List.set_cons_succ, List.set_cons_zero, List.getElem?_cons_succ, List.getElem?_cons_zero, Nat.reduceSub, Nat.reduceAdd, Nat.zero_add, if_pos, ite_true, ite_false, reduceIte, eq_self, Bool.false_eq_true, and_self, and_true, true_and, c__law_folds_b0, e1, ha]
    rw [go, hb, Option.bind_some]
    exact e2
theorem law_folds_ok {hh : Hh} {n : Nat} (hc : CupAt hh n) {most : Nat} (hm : most ≤ 100) : ∃ (f : List Bool) (hh' : Hh), F__law_folds [.ref n, .d (.int most)] hh = some (.v (.d (.str (ft f))), hh') ∧ f.length ≤ most ∧ CupAt hh' n := by
  obtain ⟨r, h1, e1, r0, r1, hc1⟩ := roll_ok hc (many := (most : Int) + 1) (by omega) (by omega)
  obtain ⟨k, rfl⟩ : ∃ k : Nat, r = k := ⟨r.toNat, by omega⟩
  have hr := range_n (n := k) (by omega)
  have e0 : ("" : Str) = ft [] := by decide
  obtain ⟨g, s3', hh', e2, hg, hc2⟩ := folds_turns n (.val (.d (.int most))) ((List.range k).map fun (k : Nat) => (.int (k : Int) : D)) [] .un h1 hc1 (by simp; omega)
  refine ⟨g, hh', ?_, by simp at hg; omega, hc2⟩
  simp -implicitDefEqProofs only [mkFn, sSeq, sSet, sSkip, sIf, sRet, sRetV, sExpr, sFz, fzs, fz, sPr, sAsg, sAsgs, evs, tAll, tN, tT, sFor, sWhile, sApp, sDput, eIxR, sIxR, fr, eC, eVar, pk, ev, dv, vv, evd, evv, EV.sl, EV.val, EV.data, Ob.d, eTup, eLst, eBin, eUn, eChain, eAnd, eOr, eNot, eIte, bAnd, bOr, bNot, eFn, eCall, eIs, eJoin, eKd, eDict0, eSl, eSl3, pN, pI, iSeq, iRange, iZip, iEnu, iArgs, eComp, wipeS, sNo, yes, List.length_cons, List.length_nil, List.map_cons, List.map_nil, List.replicate, List.cons_append, List.nil_append, Option.bind_some, Option.bind_none, Option.map_some, Option.map_none, List.set_cons_succ, List.set_cons_zero, List.getElem?_cons_succ, List.getElem?_cons_zero, Nat.reduceSub, Nat.reduceAdd, Nat.zero_add, if_pos, ite_true, ite_false, reduceIte, eq_self, Bool.false_eq_true, and_self, and_true, true_and, F__law_folds, c__law_folds, e0, bAdd_ii, e1, hr, e2]
end FF.L

set_option Elab.async false
set_option linter.all false
set_option maxRecDepth 100000
set_option maxHeartbeats 4000000
set_option autoImplicit false
namespace FF.K41
open PySem PySem.Spec PyProof.Rows L2
abbrev t_FOLD := FF.L.t_FOLD
abbrev t_MARK := FF.L.t_MARK
abbrev t_OTHER := FF.L.t_OTHER
abbrev F__law_cup := FF.L.F__law_cup
abbrev F__law_sort := FF.L.F__law_sort
abbrev F__law_like := FF.L.F__law_like
abbrev F_levels_in := FF.L.F_levels_in
abbrev F_folds_in := FF.L.F_folds_in
abbrev F_leaves_in := FF.L.F_leaves_in
abbrev F_is_size := FF.L.F_is_size
abbrev F_is_word_of := FF.L.F_is_word_of
abbrev F_is_word := FF.L.F_is_word
abbrev F_fits_folds := FF.L.F_fits_folds
abbrev F_need_folds := FF.L.F_need_folds
abbrev F_sign_in := FF.L.F_sign_in
abbrev F_word_in := FF.L.F_word_in
abbrev F_word_of := FF.L.F_word_of
abbrev F_folds_of := FF.L.F_folds_of
abbrev F_is_folds := FF.L.F_is_folds
/-! _law_written_right: 0 rows, 1 values, 2 folds, 3 word, 4 value -/
def c__law_written_right_q0 : Dv := (dv (eCall F_word_of [(vv (eVar 2))]))
def c__law_written_right_q1 : Dv := (dv (eVar 3))
def c__law_written_right_q2 : Dv := (dv (eCall F_folds_of [(vv (eVar 3))]))
def c__law_written_right_q3 : Dv := (dv (eVar 2))
def c__law_written_right_q4 : Dv := (dv (eCall F_is_folds [(vv (eVar 4))]))
def c__law_written_right_q5 : Dv := (dv (eCall F_is_word [(vv (eVar 4))]))
def c__law_written_right : Sv := (sSeq (sSet 0 (fr (eLst [(dv (eTup [(dv (eC (.str ""))), (dv (eC (.str "")))])), (dv (eTup [(dv (eC (.str "o"))), (dv (eC (.str "v")))])), (dv (eTup [(dv (eC (.str "u"))), (dv (eC (.str "m")))])), (dv (eTup [(dv (eC (.str "oo"))), (dv (eC (.str "vvm")))])), (dv (eTup [(dv (eC (.str "ou"))), (dv (eC (.str "mvv")))])), (dv (eTup [(dv (eC (.str "uo"))), (dv (eC (.str "vmm")))])), (dv (eTup [(dv (eC (.str "uu"))), (dv (eC (.str "mmv")))])), (dv (eTup [(dv (eC (.str "ouo"))), (dv (eC (.str "vmmvvvm")))])), (dv (eTup [(dv (eC (.str "ooo"))), (dv (eC (.str "vvmvvmm")))])), (dv (eTup [(dv (eC (.str "uuuu"))), (dv (eC (.str "mmvmmvvmmmvvmvv")))]))]))) (sSeq (sIf (bNot (dv (eCall (F__law_like 12) [(vv (eComp [2, 3] (iSeq (dv (eVar 0))) (tT [(tN 2), (tN 3)]) yes c__law_written_right_q0)), (vv (eComp [2, 3] (iSeq (dv (eVar 0))) (tT [(tN 2), (tN 3)]) yes c__law_written_right_q1))]))) (sRet (eC (.bool false))) sSkip) (sSeq (sIf (bNot (dv (eCall (F__law_like 12) [(vv (eComp [2, 3] (iSeq (dv (eVar 0))) (tT [(tN 2), (tN 3)]) yes c__law_written_right_q2)), (vv (eComp [2, 3] (iSeq (dv (eVar 0))) (tT [(tN 2), (tN 3)]) yes c__law_written_right_q3))]))) (sRet (eC (.bool false))) sSkip) (sSeq (sSet 1 (fr (eLst [(dv (eBin bMul (dv (eC (.str "ou"))) (dv (eC (.int 6))))), (dv (eBin bAdd (dv (eBin bMul (dv (eC (.str "ou"))) (dv (eC (.int 6))))) (dv (eC (.str "o"))))), (dv (eC (.str "O"))), (dv (eC (.str "ox"))), (dv (eC (.str "o u"))), (dv (eC .none)), (dv (eC (.int 0))), (dv (eTup [(dv (eC (.str "o")))])), (dv (eLst [(dv (eC (.str "o")))])), (dv (eC (.str "oo")))]))) (sSeq (sIf (bNot (dv (eCall (F__law_like 12) [(vv (eComp [4] (iSeq (dv (eVar 1))) (tN 4) yes c__law_written_right_q4)), (vv (eBin bAdd (dv (eBin bAdd (dv (eLst [(dv (eC (.bool true)))])) (dv (eBin bMul (dv (eLst [(dv (eC (.bool false)))])) (dv (eC (.int 8))))))) (dv (eLst [(dv (eC (.bool true)))]))))]))) (sRet (eC (.bool false))) sSkip) (sSeq (sSet 1 (fr (eLst [(dv (eC (.str "v"))), (dv (eC (.str "m"))), (dv (eC (.str "vv"))), (dv (eC (.str "vvv"))), (dv (eC (.str "vmv"))), (dv (eC (.str "mvv"))), (dv (eC (.str "vmmvvvv"))), (dv (eC (.str "vmmvvvm"))), (dv (eC (.str "?"))), (dv (eC (.str "vm?"))), (dv (eC (.str "vvmvvmmv")))]))) (sRet (eCall (F__law_like 12) [(vv (eComp [4] (iSeq (dv (eVar 1))) (tN 4) yes c__law_written_right_q5)), (vv (eLst [(dv (eC (.bool true))), (dv (eC (.bool true))), (dv (eC (.bool false))), (dv (eC (.bool false))), (dv (eC (.bool false))), (dv (eC (.bool true))), (dv (eC (.bool false))), (dv (eC (.bool true))), (dv (eC (.bool false))), (dv (eC (.bool false))), (dv (eC (.bool false)))]))]))))))))
def F__law_written_right : Fn := mkFn 0 5 c__law_written_right
abbrev F__law_roll := FF.L.F__law_roll
abbrev F__law_some := FF.L.F__law_some
abbrev F__law_folds := FF.L.F__law_folds
/-! _law_paper: 0 folds, 1 many, 2 fold, 3 columns, 4 signs, 5 half, 6 one, 7 other, 8 laid, 9 at, 10 over, 11 leaf, 12 up, 13 crease -/
def c__law_paper_b0 : Sv := (sSet 1 (fr (eBin bMul (dv (eC (.int 2))) (pk 1))))
def c__law_paper_q1 : Dv := (dv (eLst [(dv (eTup [(dv (eVar 11)), (dv (eC (.bool true)))]))]))
def c__law_paper_b2 : Sv := (sIf (dv (eBin bEq (dv (eFn fAbs [(dv (eBin bSub (dv (eBin bIx (pk 6) (dv (eC (.int 0))))) (dv (eBin bIx (pk 7) (dv (eC (.int 0)))))))])) (dv (eC (.int 1))))) (sDput 4 (dv (eFn fMin2 [(dv (eBin bIx (pk 6) (dv (eC (.int 0))))), (dv (eBin bIx (pk 7) (dv (eC (.int 0)))))])) (dv (eIte (dv (eBin bEq (dv (eBin bEq (pk 2) (dv (eC (.str "o"))))) (dv (eBin bIx (pk 6) (dv (eC (.int 1))))))) (eC (.str "v")) (eC (.str "m"))))) sSkip)
def c__law_paper_q3 : Dv := (dv (eTup [(dv (eVar 11)), (dv (eNot (dv (eVar 12))))]))
def c__law_paper_b4 : Sv := (sSeq (sSet 10 (eComp [11, 12] (iSeq (dv (eSl3 (dv (eBin bIx (pk 3) (dv (eBin bSub (dv (eBin bSub (dv (eFn fLen [(pk 3)])) (dv (eC (.int 1))))) (pk 9))))) pN pN (dv (eUn uNeg (dv (eC (.int 1)))))))) (tT [(tN 11), (tN 12)]) yes c__law_paper_q3)) (sFz [10] (sApp 8 (dv (eIte (dv (eBin bEq (pk 2) (dv (eC (.str "o"))))) (eBin bAdd (dv (eBin bIx (pk 3) (pk 9))) (pk 10)) (eBin bAdd (pk 10) (dv (eBin bIx (pk 3) (pk 9)))))))))
def c__law_paper_b5 : Sv := (sSeq (sSet 5 (fr (eFn fInt [(dv (eBin bDiv (dv (eFn fLen [(pk 3)])) (dv (eC (.int 2)))))]))) (sSeq (sFor (iZip [(dv (eBin bIx (pk 3) (dv (eBin bSub (pk 5) (dv (eC (.int 1))))))), (dv (eBin bIx (pk 3) (pk 5)))]) (tT [(tN 6), (tN 7)]) c__law_paper_b2) (sSeq (sSet 8 (eLst [])) (sSeq (sFor (iRange [(dv (eVar 5))]) (tN 9) c__law_paper_b4) (sFz [8] (sSet 3 (fr (eVar 8))))))))
def c__law_paper_q6 : Dv := (dv (eBin bIx (pk 4) (pk 13)))
def c__law_paper_q7 : Dv := (dv (eVar 11))
def c__law_paper : Sv := (sSeq (sSet 1 (fr (eC (.int 1)))) (sSeq (sFor (iSeq (dv (eVar 0))) (tN 2) c__law_paper_b0) (sSeq (sAsgs [(tN 3), (tN 4)] [(fr (eComp [11] (iRange [(dv (eVar 1))]) (tN 11) yes c__law_paper_q1)), eDict0]) (sSeq (sFor (iSeq (dv (eVar 0))) (tN 2) c__law_paper_b5) (sRet (eTup [(dv (eJoin (dv (eC (.str ""))) (dv (eComp [13] (iRange [(dv (eBin bSub (pk 1) (dv (eC (.int 1)))))]) (tN 13) yes c__law_paper_q6)))), (dv (eFn fTuple [(dv (eComp [11, 12] (iSeq (dv (eBin bIx (pk 3) (dv (eC (.int 0)))))) (tT [(tN 11), (tN 12)]) yes c__law_paper_q7))]))]))))))
def F__law_paper : Fn := mkFn 1 14 c__law_paper
/-! _law_is_word: 0 value, 1 left, 2 half, 3 sign -/
def c__law_is_word_q0 : Dv := (dv (eVar 3))
def c__law_is_word_q1 : Dv := (dv (eIte (dv (eBin bEq (pk 3) (dv (eC (.str "v"))))) (eC (.str "m")) (eC (.str "v"))))
def c__law_is_word_b2 : Sv := (sSeq (sSet 2 (fr (eFn fInt [(dv (eBin bDiv (dv (eFn fLen [(pk 1)])) (dv (eC (.int 2)))))]))) (sSeq (sIf (bOr (dv (eBin bEq (dv (eBin bMul (dv (eC (.int 2))) (pk 2))) (dv (eFn fLen [(pk 1)])))) (dv (eBin bNe (dv (eSl (pk 1) (pI (dv (eBin bAdd (pk 2) (dv (eC (.int 1)))))) pN)) (dv (eJoin (dv (eC (.str ""))) (dv (eComp [3] (iSeq (dv (eSl3 (dv (eSl (pk 1) pN (pI (dv (eVar 2))))) pN pN (dv (eUn uNeg (dv (eC (.int 1)))))))) (tN 3) yes c__law_is_word_q1))))))) (sRet (eC (.bool false))) sSkip) (sSet 1 (fr (eSl (pk 1) pN (pI (dv (eVar 2))))))))
def c__law_is_word : Sv := (sSeq (sIf (bOr (bNot (dv (eIs "str" (pk 0)))) (bOr (dv (eBin bNe (dv (eComp [3] (iSeq (dv (eVar 0))) (tN 3) (dv (eBin bNotIn (pk 3) (dv (eTup [(dv (eC (.str "m"))), (dv (eC (.str "v")))])))) c__law_is_word_q0)) (dv (eLst [])))) (dv (eBin bGt (dv (eFn fLen [(pk 0)])) (dv (eC (.int 4095))))))) (sRet (eC (.bool false))) sSkip) (sSeq (sSet 1 (fr (eVar 0))) (sSeq (sWhile 100000 (dv (eBin bGt (dv (eFn fLen [(pk 1)])) (dv (eC (.int 1))))) c__law_is_word_b2) (sRet (eC (.bool true))))))
def F__law_is_word : Fn := mkFn 1 4 c__law_is_word
abbrev F_is_whole := FF.L.F_is_whole
abbrev F_sign_at := FF.L.F_sign_at
/-! _law_right: 0 cup, 1 most, 2 folds, 3 word, 4 pile, 5 turn, 6 crease, 7 at, 8 half, 9 other, 10 values, 11 value -/
def c__law_right_b0 : Sv := (sSeq (sSet 6 (fr (eCall F__law_roll [(vv (eVar 0)), (vv (eFn fLen [(pk 3)]))]))) (sIf (bNot (dv (eCall (F__law_like 12) [(vv (eCall F_sign_at [(vv (eVar 2)), (vv (eVar 6))])), (vv (eBin bIx (pk 3) (pk 6)))]))) (sRet (eC (.bool false))) sSkip))
def c__law_right_b1 : Sv := (sSeq (sIf (bNot (dv (eCall (F__law_like 12) [(vv (eCall F_is_word [(vv (eVar 11))])), (vv (eCall F__law_is_word [(vv (eVar 11))]))]))) (sRet (eC (.bool false))) sSkip) (sIf (bAnd (dv (eIs "str" (pk 11))) (bAnd (dv (eCall F__law_is_word [(vv (eVar 11))])) (dv (eBin bNe (dv (eBin bIx (dv (eCall F__law_paper [(vv (eCall F_folds_of [(vv (eVar 11))]))])) (dv (eC (.int 0))))) (pk 11))))) (sRet (eC (.bool false))) sSkip))
def c__law_right : Sv := (sSeq (sSet 2 (fr (eCall F__law_folds [(vv (eVar 0)), (vv (eVar 1))]))) (sSeq (sAsg (tT [(tN 3), (tN 4)]) (eCall F__law_paper [(vv (eVar 2))])) (sSeq (sIf (bNot (dv (eCall (F__law_like 12) [(vv (eLst [(dv (eCall F_word_of [(vv (eVar 2))])), (dv (eCall F_is_word [(vv (eVar 3))])), (dv (eCall F_folds_of [(vv (eVar 3))])), (dv (eCall F_is_folds [(vv (eVar 2))]))])), (vv (eLst [(dv (eVar 3)), (dv (eC (.bool true))), (dv (eVar 2)), (dv (eC (.bool true)))]))]))) (sRet (eC (.bool false))) sSkip) (sSeq (sFor (iRange [(dv (eIte (dv (eBin bNe (pk 3) (dv (eC (.str ""))))) (eC (.int 4)) (eC (.int 0))))]) (tN 5) c__law_right_b0) (sSeq (sAsgs [(tN 7), (tN 8)] [(fr (eCall F__law_roll [(vv (eVar 0)), (vv (eBin bAdd (dv (eFn fLen [(pk 3)])) (dv (eC (.int 1)))))])), (fr (eFn fInt [(dv (eBin bDiv (dv (eFn fLen [(pk 3)])) (dv (eC (.int 2)))))]))]) (sSeq (sSet 9 (fr (eIte (dv (eBin bEq (dv (eSl (pk 3) (pI (dv (eVar 7))) (pI (dv (eBin bAdd (pk 7) (dv (eC (.int 1)))))))) (dv (eC (.str "v"))))) (eC (.str "m")) (eC (.str "v"))))) (sSeq (sSet 10 (fr (eLst [(dv (eBin bAdd (dv (eBin bAdd (dv (eSl (pk 3) pN (pI (dv (eVar 7))))) (pk 9))) (dv (eSl (pk 3) (pI (dv (eBin bAdd (pk 7) (dv (eC (.int 1)))))) pN)))), (dv (eBin bAdd (dv (eSl (pk 3) pN (pI (dv (eVar 7))))) (dv (eSl (pk 3) (pI (dv (eBin bAdd (pk 7) (dv (eC (.int 1)))))) pN)))), (dv (eBin bAdd (dv (eSl (pk 3) pN (pI (dv (eVar 8))))) (pk 3))), (dv (eSl3 (pk 3) pN pN (dv (eUn uNeg (dv (eC (.int 1))))))), (dv (eBin bAdd (pk 3) (dv (eSl (pk 3) pN (pI (dv (eC (.int 1)))))))), (dv (eSl (pk 3) (pI (dv (eBin bAdd (pk 8) (dv (eC (.int 1)))))) pN)), (dv (eFn fList [(pk 3)])), (dv (eC .none))]))) (sSeq (sSet 10 (fr (eBin bAdd (pk 10) (dv (eLst [(dv (eBin bAdd (dv (eBin bAdd (dv (eSl (pk 3) pN (pI (dv (eVar 8))))) (pk 9))) (dv (eSl (pk 3) (pI (dv (eBin bAdd (pk 8) (dv (eC (.int 1)))))) pN)))), (dv (eBin bAdd (dv (eBin bAdd (dv (eSl (pk 3) pN (pI (dv (eVar 7))))) (dv (eC (.str "?"))))) (dv (eSl (pk 3) (pI (dv (eVar 7))) pN)))), (dv (eTup [(dv (eVar 3))])), (dv (eC (.int 0))), (dv (eBin bAdd (dv (eC (.str "V"))) (dv (eSl (pk 3) (pI (dv (eC (.int 1)))) pN))))]))))) (sSeq (sFor (iSeq (dv (eVar 10))) (tN 11) c__law_right_b1) (sRet (eC (.bool true))))))))))))
def F__law_right : Fn := mkFn 2 12 c__law_right
/-! law: 0 script, 1 cup, 2 most -/
def c_law_b0 : Sv := (sIf (bNot (dv (eCall F__law_right [(vv (eVar 1)), (vv (eVar 2))]))) (sRet (eC (.bool false))) sSkip)
def c_law : Sv := (sSeq (sSet 1 (eCall F__law_cup [(vv (eVar 0))])) (sSeq (sPr 1 (sFor (iSeq (dv (eTup [(dv (eC (.int 3))), (dv (eC (.int 5))), (dv (eC (.int 7)))]))) (tN 2) c_law_b0)) (sRet (eCall F__law_written_right []))))
def F_law : Fn := mkFn 1 3 c_law
end FF.K41

set_option Elab.async false
set_option linter.all false
set_option maxRecDepth 100000
set_option maxHeartbeats 1000000
set_option autoImplicit false
/-! K41Law: the law's own reading of words, the strip of paper, the law. -/
namespace FF.K41
open PySem PySem.Spec PyProof.Rows L2 FF.W FF.L
/-! ### slices -/
theorem cut_from {α : Type} (xs : List α) (i : Nat) : cutL xs (some (i : Int)) none = xs.drop i := by
  unfold cutL
  rw [HT.sIx_nat, HT.sIx_none]
  by_cases h : i ≤ xs.length
  · rw [Nat.min_eq_left h, List.take_of_length_le (by simp)]
  · rw [Nat.min_eq_right (by omega), List.drop_eq_nil_of_le (Nat.le_refl _), List.drop_eq_nil_of_le (by omega)]
    simp
theorem cut_to {α : Type} (xs : List α) (i : Nat) : cutL xs none (some (i : Int)) = xs.take i := by
  unfold cutL
  rw [HT.sIx_nat, HT.sIx_none]
  by_cases h : i ≤ xs.length
  · rw [Nat.min_eq_left h]; simp
  · rw [Nat.min_eq_right (by omega), List.take_of_length_le (l := xs) (by omega)]
    simp
theorem cut_both {α : Type} (xs : List α) (i j : Nat) : cutL xs (some (i : Int)) (some (j : Int)) = (xs.take j).drop i := by
  unfold cutL
  rw [HT.sIx_nat, HT.sIx_nat]
  apply List.ext_getElem?
  intro k
  simp only [List.getElem?_take, List.getElem?_drop]
  by_cases h1 : k < min j xs.length - min i xs.length
  · rw [if_pos h1, if_pos (by omega)]
    congr 1
    omega
  · rw [if_neg h1]
    by_cases h2 : i + k < j
    · rw [if_pos h2, List.getElem?_eq_none (by omega)]
    · rw [if_neg h2]
theorem sl_from {l : List Nat} (h : l.length ≤ 1000000) (i : Nat) : slD (some (i : Int)) none (.str (tx l)) = some (.v (.d (.str (tx (l.drop i))))) := by
  have hf : fits (tx l).length = true := fits_le (m := 1000000) (by rw [tx_len]; exact h) (by decide)
  unfold tx at hf ⊢
  simp only [slD, hf, if_true, cut_from]
theorem sl_to {l : List Nat} (h : l.length ≤ 1000000) (i : Nat) : slD none (some (i : Int)) (.str (tx l)) = some (.v (.d (.str (tx (l.take i))))) := by
  have hf : fits (tx l).length = true := fits_le (m := 1000000) (by rw [tx_len]; exact h) (by decide)
  unfold tx at hf ⊢
  simp only [slD, hf, if_true, cut_to]
theorem sl_both {l : List Nat} (h : l.length ≤ 1000000) (i j : Nat) : slD (some (i : Int)) (some (j : Int)) (.str (tx l)) = some (.v (.d (.str (tx ((l.take j).drop i))))) := by
  have hf : fits (tx l).length = true := fits_le (m := 1000000) (by rw [tx_len]; exact h) (by decide)
  unfold tx at hf ⊢
  simp only [slD, hf, if_true, cut_both]
theorem step_rev (l : List Nat) : strStep (tx l) none none (-1) = tx l.reverse := by
  unfold strStep tx
  congr 2
  rw [picked_rev, List.filterMap_map]
  have hn : Str.length ⟨l.toArray⟩ = l.length := by simp [Str.length]
  rw [hn]
  refine pick _ _ _ (by simp) fun k hk => ?_
  rw [List.getElem?_reverse hk]
  simp
theorem sl_rev {l : List Nat} (h : l.length ≤ 1000000) : slD3 none none (-1) (.str (tx l)) = some (.v (.d (.str (tx l.reverse)))) := by
  simp only [slD3, step_rev]
  rw [if_pos]
  rw [Bool.and_eq_true, Bool.and_eq_true]
  exact ⟨⟨by decide, fits_le (m := 1000000) (by rw [tx_len]; exact h) (by decide)⟩, fits_le (m := 1000000) (by rw [tx_len, List.length_reverse]; exact h) (by decide)⟩
theorem whileL_ret {c : Dv} {b : Sv} {n : Nat} {st : List Sl} {hh h1 h2 : Hh} {e : EV} (e1 : c st hh = some (.bool true, h1)) (e2 : b st h1 = some (.rt e h2)) : whileL c b (n + 1) st hh = some (.rt e h2) := by
  show (c st hh).bind _ = _
  rw [e1, Option.bind_some]
  show (b st h1).bind _ = _
  rw [e2, Option.bind_some]
/-! ### _law_is_word -/
theorem fLen_wt {w : List Bool} (h : w.length ≤ 1000000) : fLen [.str (wt w)] = some (.v (.d (.int (w.length : Nat)))) := by
  have := fLen_tx (l := w.map vc) (by rw [List.length_map]; exact h)
  rw [List.length_map] at this
  exact this
theorem wsl_from {w : List Bool} (h : w.length ≤ 1000000) (i : Nat) : slD (some (i : Int)) none (.str (wt w)) = some (.v (.d (.str (wt (w.drop i))))) := by
  rw [wt, sl_from (by rw [List.length_map]; exact h), wt, List.map_drop]
theorem wsl_to {w : List Bool} (h : w.length ≤ 1000000) (i : Nat) : slD none (some (i : Int)) (.str (wt w)) = some (.v (.d (.str (wt (w.take i))))) := by
  rw [wt, sl_to (by rw [List.length_map]; exact h), wt, List.map_take]
theorem wsl_rev {w : List Bool} (h : w.length ≤ 1000000) : slD3 none none (-1) (.str (wt w)) = some (.v (.d (.str (wt w.reverse)))) := by
  rw [wt, sl_rev (by rw [List.length_map]; exact h), wt, List.map_reverse]
theorem turn_row {u : List Bool} (s0 s1 s2 : Sl) (hh : Hh) : compL [3] (tN 3) yes c__law_is_word_q1 (u.map fun b => .str (wt [b])) [s0, s1, s2, .un] hh = some (u.map fun b => .str (wt [!b]), hh) :=
  compL_mapped u fun b _ => ⟨_, rfl, by
    cases b
    · have e : decide (wt [false] = "v") = false := by decide
      simp -implicitDefEqProofs only [mkFn, sSeq, sSet, sSkip, sIf, sRet, sRetV, sExpr, sFz, fzs, fz, sPr, sAsg, sAsgs, evs, tAll, tN, tT, sFor, sWhile, sApp, sDput, eIxR, sIxR, fr, eC, eVar, pk, ev, dv, vv, evd, evv, EV.sl, EV.val, EV.data, Ob.d, eTup, eLst, eBin, eUn, eChain, eAnd, eOr, eNot, eIte, bAnd, bOr, bNot, eFn, eCall, eIs, eJoin, eKd, eDict0, eSl, eSl3, pN, pI, iSeq, iRange, iZip, iEnu, iArgs, eComp, wipeS, sNo, yes, List.length_cons, List.length_nil, List.map_cons, List.map_nil, List.replicate, List.cons_append, List.nil_append, Option.bind_some, Option.bind_none, Option.map_some, Option.map_none, List.set_cons_succ, List.set_cons_zero, List.getElem?_cons_succ, List.getElem?_cons_zero, Nat.reduceSub, Nat.reduceAdd, Nat.zero_add, if_pos, ite_true, ite_false, reduceIte, eq_self, Bool.false_eq_true, and_self, and_true, true_and, c__law_is_word_q1, bEq_ss, e]
      rfl
    · have e : decide (wt [true] = "v") = true := by decide
      simp -implicitDefEqProofs only [mkFn, sSeq, sSet, sSkip, sIf, sRet, sRetV, sExpr, sFz, fzs, fz, sPr, sAsg, sAsgs, evs, tAll, tN, tT, sFor, sWhile, sApp, sDput, eIxR, sIxR, fr, eC, eVar, pk, ev, dv, vv, evd, evv, EV.sl, EV.val, EV.data, Ob.d, eTup, eLst, eBin, eUn, eChain, eAnd, eOr, eNot, eIte, bAnd, bOr, bNot, eFn, eCall, eIs, eJoin, eKd, eDict0, eSl, eSl3, pN, pI, iSeq, iRange, iZip, iEnu, iArgs, eComp, wipeS, sNo, yes, List.length_cons, List.length_nil, List.map_cons, List.map_nil, List.replicate, List.cons_append, List.nil_append, Option.bind_some, Option.bind_none, Option.map_some, Option.map_none, List.set_cons_succ, List.set_cons_zero, List.getElem?_cons_succ, List.getElem?_cons_zero, Nat.reduceSub, Nat.reduceAdd, Nat.zero_add, if_pos, ite_true, ite_false, reduceIte, eq_self, Bool.false_eq_true, and_self, and_true, true_and, c__law_is_word_q1, bEq_ss, e]
      rfl⟩
theorem lw_loop (s0 : Sl) (hh : Hh) : ∀ (n : Nat) (w : List Bool) (s2 : Sl) (fuel : Nat), w.length < 2 ^ (n + 1) → w.length ≤ 4095 → n < fuel →
    (lw n w = true → ∃ st', whileL (dv (eBin bGt (dv (eFn fLen [pk 1])) (dv (eC (.int 1))))) c__law_is_word_b2 fuel [s0, .val (.d (.str (wt w))), s2, .un] hh = some (.nx st' hh)) ∧
    (lw n w = false → whileL (dv (eBin bGt (dv (eFn fLen [pk 1])) (dv (eC (.int 1))))) c__law_is_word_b2 fuel [s0, .val (.d (.str (wt w))), s2, .un] hh = some (.rt (.v (.d (.bool false))) hh)) := by
  intro n
  have stop : ∀ (w : List Bool) (s2 : Sl) (fuel : Nat), w.length ≤ 1 → 0 < fuel → ∃ st', whileL (dv (eBin bGt (dv (eFn fLen [pk 1])) (dv (eC (.int 1))))) c__law_is_word_b2 fuel [s0, .val (.d (.str (wt w))), s2, .un] hh = some (.nx st' hh) := by
    intro w s2 fuel h hf
    obtain ⟨fuel, rfl⟩ : ∃ m, fuel = m + 1 := ⟨fuel - 1, by omega⟩
    have e : decide (1 < (w.length : Int)) = false := decide_eq_false (by omega)
    exact ⟨_, whileL_stop (h1 := hh) (by simp -implicitDefEqProofs only [mkFn, sSeq, sSet, sSkip, sIf, sRet, sRetV, sExpr, sFz, fzs, fz, sPr, sAsg, sAsgs, evs, tAll, tN, tT, sFor, sWhile, sApp, sDput, eIxR, sIxR, fr, eC, eVar, pk, ev, dv, vv, evd, evv, EV.sl, EV.val, EV.data, Ob.d, eTup, eLst, eBin, eUn, eChain, eAnd, eOr, eNot, eIte, bAnd, bOr, bNot, eFn, eCall, eIs, eJoin, eKd, eDict0, eSl, eSl3, pN, pI, iSeq, iRange, iZip, iEnu, iArgs, eComp, wipeS, sNo, yes, List.length_cons, List.length_nil, List.map_cons, List.map_nil, List.replicate, List.cons_append, List.nil_append, Option.bind_some, Option.bind_none, Option.map_some, Option.map_none, List.set_cons_succ, List.set_cons_zero, List.getElem?_cons_succ, List.getElem?_cons_zero, Nat.reduceSub, Nat.reduceAdd, Nat.zero_add, if_pos, ite_true, ite_false, reduceIte, eq_self, Bool.false_eq_true, and_self, and_true, true_and, fLen_wt (w := w) (by omega), bGt_ii, e])⟩
  induction n with
  | zero =>
    intro w s2 fuel h1 h2 h3
    have hw : w.length ≤ 1 := by simp at h1; omega
    refine ⟨fun _ => stop w s2 fuel hw (by omega), fun h => ?_⟩
    unfold lw at h
    rw [decide_eq_true hw] at h
    cases h
  | succ n ih =>
    intro w s2 fuel h1 h2 h3
    unfold lw
    by_cases hw : w.length ≤ 1
    · rw [if_pos hw]
      exact ⟨fun _ => stop w s2 fuel hw (by omega), fun h => nomatch h⟩
    · rw [if_neg hw]
      obtain ⟨fuel, rfl⟩ : ∃ m, fuel = m + 1 := ⟨fuel - 1, by omega⟩
      have ec : (dv (eBin bGt (dv (eFn fLen [pk 1])) (dv (eC (.int 1))))) [s0, .val (.d (.str (wt w))), s2, .un] hh = some (.bool true, hh) := by
        have e : decide (1 < (w.length : Int)) = true := decide_eq_true (by omega)
        simp -implicitDefEqProofs only [mkFn, sSeq, sSet, sSkip, sIf, sRet, sRetV, sExpr, sFz, fzs, fz, sPr, sAsg, sAsgs, evs, tAll, tN, tT, sFor, sWhile, sApp, sDput, eIxR, sIxR, fr, eC, eVar, pk, ev, dv, vv, evd, evv, EV.sl, EV.val, EV.data, Ob.d, eTup, eLst, eBin, eUn, eChain, eAnd, eOr, eNot, eIte, bAnd, bOr, bNot, eFn, eCall, eIs, eJoin, eKd, eDict0, eSl, eSl3, pN, pI, iSeq, iRange, iZip, iEnu, iArgs, eComp, wipeS, sNo, yes, List.length_cons, List.length_nil, List.map_cons, List.map_nil, List.replicate, List.cons_append, List.nil_append, Option.bind_some, Option.bind_none, Option.map_some, Option.map_none, List.set_cons_succ, List.set_cons_zero, List.getElem?_cons_succ, List.getElem?_cons_zero, Nat.reduceSub, Nat.reduceAdd, Nat.zero_add, if_pos, ite_true, ite_false, reduceIte, eq_self, Bool.false_eq_true, and_self, and_true, true_and, fLen_wt (w := w) (by omega), bGt_ii, e]
      have hl := fLen_wt (w := w) (by omega)
      have ed : (w.length : Int) / 2 = ((w.length / 2 : Nat) : Int) := by omega
      have em : mulOk 2 ((w.length / 2 : Nat) : Int) = true := mulOk_l (by decide) (by decide)
      have e1 : ((w.length / 2 : Nat) : Int) + 1 = ((w.length / 2 + 1 : Nat) : Int) := by omega
      have hto := wsl_to (w := w) (by omega) (w.length / 2)
      have hfrom := wsl_from (w := w) (by omega) (w.length / 2 + 1)
      have hrev := wsl_rev (w := w.take (w.length / 2)) (by rw [List.length_take]; omega)
      have hn : uNeg (.int 1) = some (.v (.d (.int (-1)))) := (rfl)
      have hel : elems (.str (wt (w.take (w.length / 2)).reverse)) = some ((w.take (w.length / 2)).reverse.map fun b => .str (wt [b])) := by rw [← signs_wt]; rfl
      have hf : fits ((w.take (w.length / 2)).reverse.map fun b => (.str (wt [b]) : D)).length = true := fits_le (m := 4095) (by simp; omega) (by decide)
      have hj := joinD_wt (w := rn (w.take (w.length / 2))) (by rw [rn_len, List.length_take]; omega)
      have hrn : ((rn (w.take (w.length / 2))).map fun b => (.str (wt [b]) : D)) = (w.take (w.length / 2)).reverse.map fun b => .str (wt [!b]) := by
        unfold rn
        rw [← List.map_reverse, List.map_map]
        rfl
      rw [hrn] at hj
      by_cases ho : w.length % 2 = 1
      · have eo : decide (2 * ((w.length / 2 : Nat) : Int) = (w.length : Int)) = false := decide_eq_false (by omega)
        by_cases hs : w.drop (w.length / 2 + 1) = rn (w.take (w.length / 2))
        · rw [if_pos ⟨ho, hs⟩]
          have es : decide (wt (w.drop (w.length / 2 + 1)) = wt (rn (w.take (w.length / 2)))) = true := decide_eq_true (by rw [hs])
          have eb : c__law_is_word_b2 [s0, .val (.d (.str (wt w))), s2, .un] hh = some (.nx [s0, .val (.d (.str (wt (w.take (w.length / 2))))), .val (.d (.int ((w.length / 2 : Nat) : Int))), .un] hh) := by
            simp -implicitDefEqProofs only [mkFn, sSeq, sSet, sSkip, sIf, sRet, sRetV, sExpr, sFz, fzs, fz, sPr, sAsg, sAsgs, evs, tAll, tN, tT, sFor, sWhile, sApp, sDput, eIxR, sIxR, fr, eC, eVar, pk, ev, dv, vv, evd, evv, EV.sl, EV.val, EV.data, Ob.d, eTup, eLst, eBin, eUn, eChain, eAnd, eOr, eNot, eIte, bAnd, bOr, bNot, eFn, eCall, eIs, eJoin, eKd, eDict0, eSl, eSl3, pN, pI, iSeq, iRange, iZip, iEnu, iArgs, eComp, wipeS, sNo, yes, List.length_cons, List.length_nil, List.map_cons, List.map_nil, List.replicate, List.cons_append, List.nil_append, Option.bind_some, Option.bind_none, Option.map_some, Option.map_none, List.set_cons_succ, List.set_cons_zero, List.getElem?_cons_succ, List.getElem?_cons_zero, Nat.reduceSub, Nat.reduceAdd, Nat.zero_add, if_pos, ite_true, ite_false, reduceIte, eq_self, Bool.false_eq_true, and_self, and_true, true_and, c__law_is_word_b2, hl, bDiv_ii _ 2 (by decide) (by decide), ed, fInt, bMul_ii _ _ em, bEq_ii, eo, bAdd_ii, e1, hto, hfrom, hrev, hn, hel, hf, turn_row, hj, bNe_ss, es, Bool.not_true]
          rw [whileL_go ec eb]
          exact ih (w.take (w.length / 2)) _ fuel (by rw [List.length_take]; rw [Nat.pow_succ] at h1; omega) (by rw [List.length_take]; omega) (by omega)
        · rw [if_neg (fun q => hs q.2)]
          have es : decide (wt (w.drop (w.length / 2 + 1)) = wt (rn (w.take (w.length / 2)))) = false := decide_eq_false fun q => hs (wt_inj q)
          have eb : c__law_is_word_b2 [s0, .val (.d (.str (wt w))), s2, .un] hh = some (.rt (.v (.d (.bool false))) hh) := by
            simp -implicitDefEqProofs only [mkFn, sSeq, sSet, sSkip, sIf, sRet, sRetV, sExpr, sFz, fzs, fz, sPr, sAsg, sAsgs, evs, tAll, tN, tT, sFor, sWhile, sApp, sDput, eIxR, sIxR, fr, eC, eVar, pk, ev, dv, vv, evd, evv, EV.sl, EV.val, EV.data, Ob.d, eTup, eLst, eBin, eUn, eChain, eAnd, eOr, eNot, eIte, bAnd, bOr, bNot, eFn, eCall, eIs, eJoin, eKd, eDict0, eSl, eSl3, pN, pI, iSeq, iRange, iZip, iEnu, iArgs, eComp, wipeS, sNo, yes, List.length_cons, List.length_nil, List.map_cons, List.map_nil, List.replicate, List.cons_append, List.nil_append, Option.bind_some, Option.bind_none, Option.map_some, Option.map_none, List.set_cons_succ, List.set_cons_zero, List.getElem?_cons_succ, List.getElem?_cons_zero, Nat.reduceSub, Nat.reduceAdd, Nat.zero_add, if_pos, ite_true, ite_false, reduceIte, eq_self, Bool.false_eq_true, and_self, and_true, true_and, c__law_is_word_b2, hl, bDiv_ii _ 2 (by decide) (by decide), ed, fInt, bMul_ii _ _ em, bEq_ii, eo, bAdd_ii, e1, hto, hfrom, hrev, hn, hel, hf, turn_row, hj, bNe_ss, es, Bool.not_false]
          exact ⟨(fun h => nomatch h), fun _ => whileL_ret ec eb⟩
      · rw [if_neg (fun q => ho q.1)]
        have eo : decide (2 * ((w.length / 2 : Nat) : Int) = (w.length : Int)) = true := decide_eq_true (by omega)
        have eb : c__law_is_word_b2 [s0, .val (.d (.str (wt w))), s2, .un] hh = some (.rt (.v (.d (.bool false))) hh) := by
          simp -implicitDefEqProofs only [mkFn, sSeq, sSet, sSkip, sIf, sRet, sRetV, sExpr, sFz, fzs, fz, sPr, sAsg, sAsgs, evs, tAll, tN, tT, sFor, sWhile, sApp, sDput, eIxR, sIxR, fr, eC, eVar, pk, ev, dv, vv, evd, evv, EV.sl, EV.val, EV.data, Ob.d, eTup, eLst, eBin, eUn, eChain, eAnd, eOr, eNot, eIte, bAnd, bOr, bNot, eFn, eCall, eIs, eJoin, eKd, eDict0, eSl, eSl3, pN, pI, iSeq, iRange, iZip, iEnu, iArgs, eComp, wipeS, sNo, yes, List.length_cons, List.length_nil, List.map_cons, List.map_nil, List.replicate, List.cons_append, List.nil_append, Option.bind_some, Option.bind_none, Option.map_some, Option.map_none, List.set_cons_succ, List.set_cons_zero, List.getElem?_cons_succ, List.getElem?_cons_zero, Nat.reduceSub, Nat.reduceAdd, Nat.zero_add, if_pos, ite_true, ite_false, reduceIte, eq_self, Bool.false_eq_true, and_self, and_true, true_and, c__law_is_word_b2, hl, bDiv_ii _ 2 (by decide) (by decide), ed, fInt, bMul_ii _ _ em, bEq_ii, eo]
        exact ⟨(fun h => nomatch h), fun _ => whileL_ret ec eb⟩
theorem bNotIn_mv (c : Nat) : bNotIn (.str (tx [c])) (.tuple [.str "m", .str "v"]) = some (.v (.d (.bool (!([109, 118].contains c))))) := by
  have hm : ("m" : Str) = tx [109] := by decide
  have hv : ("v" : Str) = tx [118] := by decide
  have hp : plAll 20 [.str (tx [109]), .str (tx [118])] = true := by decide
  unfold bNotIn
  rw [hm, hv]
  simp only [bInB, plS, hp, Bool.and_self, if_true, Option.map_some, List.any_cons, List.any_nil, eq_ss]
  have d : ∀ k, decide (tx [k] = tx [c]) = (c == k) := fun k => by
    by_cases h : c = k
    · subst h; simp
    · rw [decide_eq_false fun q => h (by have := tx_inj q; simpa using this.symm)]
      simp [h]
  by_cases h1 : c = 109 <;> by_cases h2 : c = 118 <;> simp [h1, h2, hp, d]
theorem plAll_str {α : Type} (g : α → Str) (n : Nat) : ∀ l : List α, plAll n (l.map fun a => .str (g a)) = true
  | [] => by rw [List.map_nil, plAll]
  | a :: r => by rw [List.map_cons, plAll_cons, plS, plAll_str g n r]; rfl
theorem bNe_nil {α : Type} (g : α → Str) (l : List α) : bNe (.list (l.map fun a => .str (g a))) (.list []) = some (.v (.d (.bool (!l.isEmpty)))) := by
  have h1 : pl 20 (.list (l.map fun a => .str (g a))) = true := by
    show plAll 19 _ = true
    exact plAll_str g 19 l
  have h2 : pl 20 (.list []) = true := rfl
  unfold bNe
  rw [h1, h2]
  cases l with
  | nil => rfl
  | cons a r => rfl
def notMv : D → Bool
  | .str x => !([109, 118].contains (x.cps.toList.headD 0))
  | _ => false
theorem law_is_word_ok {v : D} (hv : short v) (hh : Hh) : ∃ b, F__law_is_word [.d v] hh = some (.v (.d (.bool b)), hh) ∧ (b = true ↔ ∃ f : List Bool, f.length ≤ 12 ∧ v = .str (wt (W f))) := by
  have non : instD "str" v = false → (∀ x, v ≠ .str x) → ∃ b, F__law_is_word [.d v] hh = some (.v (.d (.bool b)), hh) ∧ (b = true ↔ ∃ f : List Bool, f.length ≤ 12 ∧ v = .str (wt (W f))) := fun h h2 => by
    refine ⟨false, ?_, ⟨(fun h => nomatch h), fun ⟨f, _, e⟩ => absurd e (h2 _)⟩⟩
    simp -implicitDefEqProofs only [mkFn, sSeq, sSet, sSkip, sIf, sRet, sRetV, sExpr, sFz, fzs, fz, sPr, sAsg, sAsgs, evs, tAll, tN, tT, sFor, sWhile, sApp, sDput, eIxR, sIxR, fr, eC, eVar, pk, ev, dv, vv, evd, evv, EV.sl, EV.val, EV.data, Ob.d, eTup, eLst, eBin, eUn, eChain, eAnd, eOr, eNot, eIte, bAnd, bOr, bNot, eFn, eCall, eIs, eJoin, eKd, eDict0, eSl, eSl3, pN, pI, iSeq, iRange, iZip, iEnu, iArgs, eComp, wipeS, sNo, yes, List.length_cons, List.length_nil, List.map_cons, List.map_nil, List.replicate, List.cons_append, List.nil_append, Option.bind_some, Option.bind_none, Option.map_some, Option.map_none, List.set_cons_succ, List.set_cons_zero, List.getElem?_cons_succ, List.getElem?_cons_zero, Nat.reduceSub, Nat.reduceAdd, Nat.zero_add, if_pos, ite_true, ite_false, reduceIte, eq_self, Bool.false_eq_true, and_self, and_true, true_and, F__law_is_word, c__law_is_word, h, Bool.not_false]
  cases v with
  | str x =>
    have hx := hv x rfl
    rw [str_tx x] at hx ⊢
    rw [tx_len] at hx
    generalize x.cps.toList = l at hx ⊢
    have hlen := fLen_tx hx
    have hel : elems (.str (tx l)) = some (l.map fun c => .str (tx [c])) := by rw [← signs_tx]; rfl
    have hf : fits (l.map fun c => (.str (tx [c]) : D)).length = true := fits_le (m := 1000000) (by simp; exact hx) (by decide)
    have hrow := fun s1 s2 => compL_pure (vs := [3]) (t := tN 3) (c := dv (eBin bNotIn (pk 3) (dv (eTup [dv (eC (.str "m")), dv (eC (.str "v"))])))) (e := c__law_is_word_q0) (st := [.val (.d (.str (tx l))), s1, s2, .un]) (hh := hh) (p := notMv) (f := id) (l.map fun c => .str (tx [c])) fun d hd => by
      obtain ⟨c, _, rfl⟩ := List.mem_map.mp hd
      refine ⟨_, rfl, ?_, fun _ => ?_⟩
      · simp -implicitDefEqProofs only [mkFn, sSeq, sSet, sSkip, sIf, sRet, sRetV, sExpr, sFz, fzs, fz, sPr, sAsg, sAsgs, evs, tAll, tN, tT, sFor, sWhile, sApp, sDput, eIxR, sIxR, fr, eC, eVar, pk, ev, dv, vv, evd, evv, EV.sl, EV.val, EV.data, Ob.d, eTup, eLst, eBin, eUn, eChain, eAnd, eOr, eNot, eIte, bAnd, bOr, bNot, eFn, eCall, eIs, eJoin, eKd, eDict0, eSl, eSl3, pN, pI, iSeq, iRange, iZip, iEnu, iArgs, eComp, wipeS, sNo, yes, List.length_cons, List.length_nil, List.map_cons, List.map_nil, List.replicate, List.cons_append, List.nil_append, Option.bind_some, Option.bind_none, Option.map_some, Option.map_none, List.set_cons_succ, List.set_cons_zero, List.getElem?_cons_succ, List.getElem?_cons_zero, Nat.reduceSub, Nat.reduceAdd, Nat.zero_add, if_pos, ite_true, ite_false, reduceIte, eq_self, Bool.false_eq_true, and_self, and_true, true_and, bNotIn_mv]
        simp [tx, notMv]
      · simp -implicitDefEqProofs only [mkFn, sSeq, sSet, sSkip, sIf, sRet, sRetV, sExpr, sFz, fzs, fz, sPr, sAsg, sAsgs, evs, tAll, tN, tT, sFor, sWhile, sApp, sDput, eIxR, sIxR, fr, eC, eVar, pk, ev, dv, vv, evd, evv, EV.sl, EV.val, EV.data, Ob.d, eTup, eLst, eBin, eUn, eChain, eAnd, eOr, eNot, eIte, bAnd, bOr, bNot, eFn, eCall, eIs, eJoin, eKd, eDict0, eSl, eSl3, pN, pI, iSeq, iRange, iZip, iEnu, iArgs, eComp, wipeS, sNo, yes, List.length_cons, List.length_nil, List.map_cons, List.map_nil, List.replicate, List.cons_append, List.nil_append, Option.bind_some, Option.bind_none, Option.map_some, Option.map_none, List.set_cons_succ, List.set_cons_zero, List.getElem?_cons_succ, List.getElem?_cons_zero, Nat.reduceSub, Nat.reduceAdd, Nat.zero_add, if_pos, ite_true, ite_false, reduceIte, eq_self, Bool.false_eq_true, and_self, and_true, true_and, c__law_is_word_q0, id]
    have hfil : (List.filter notMv (l.map fun c => (.str (tx [c]) : D))).map id = (l.filter fun c => !([109, 118].contains c)).map fun c => .str (tx [c]) := by
      rw [List.map_id, List.filter_map]
      congr 1
    simp only [hfil] at hrow
    have hne := bNe_nil (fun c => tx [c]) (l.filter fun c => !([109, 118].contains c))
    cases h1 : l.all fun c => [109, 118].contains c with
    | false =>
      have he : (l.filter fun c => !([109, 118].contains c)).isEmpty = false := by
        rw [List.isEmpty_eq_false_iff]
        intro q
        rw [List.filter_eq_nil_iff] at q
        rw [List.all_eq_false] at h1
        obtain ⟨c, hc, hc2⟩ := h1
        exact q c hc (by simpa using hc2)
      rw [he] at hne
      refine ⟨false, ?_, ⟨(fun h => nomatch h), ?_⟩⟩
      · simp -implicitDefEqProofs only [mkFn, sSeq, sSet, sSkip, sIf, sRet, sRetV, sExpr, sFz, fzs, fz, sPr, sAsg, sAsgs, evs, tAll, tN, tT, sFor, sWhile, sApp, sDput, eIxR, sIxR, fr, eC, eVar, pk, ev, dv, vv, evd, evv, EV.sl, EV.val, EV.data, Ob.d, eTup, eLst, eBin, eUn, eChain, eAnd, eOr, eNot, eIte, bAnd, bOr, bNot, eFn, eCall, eIs, eJoin, eKd, eDict0, eSl, eSl3, pN, pI, iSeq, iRange, iZip, iEnu, iArgs, eComp, wipeS, sNo, yes, List.length_cons, List.length_nil, List.map_cons, List.map_nil, List.replicate, List.cons_append, List.nil_append, Option.bind_some, Option.bind_none, Option.map_some, Option.map_none, List.set_cons_succ, List.set_cons_zero, List.getElem?_cons_succ, List.getElem?_cons_zero, Nat.reduceSub, Nat.reduceAdd, Nat.zero_add, if_pos, ite_true, ite_false, reduceIte, eq_self, Bool.false_eq_true, and_self, and_true, true_and, F__law_is_word, c__law_is_word, inst_str, Bool.not_true, hel, hf, hrow, hne, Bool.not_false]
      · rintro ⟨f, hf, e⟩
        injection e with e
        rw [tx_inj e, mv_of] at h1
        cases h1
    | true =>
      have he : (l.filter fun c => !([109, 118].contains c)).isEmpty = true := by
        rw [List.isEmpty_iff, List.filter_eq_nil_iff]
        intro c hc
        have := List.all_eq_true.mp h1 c hc
        simp [this] at this ⊢
        omega
      rw [he] at hne
      obtain ⟨w, rfl⟩ := of_mv l h1
      rw [List.length_map] at hlen hx
      by_cases h2 : w.length ≤ 4095
      · have e4 : decide (4095 < (w.length : Int)) = false := decide_eq_false (by omega)
        have hw := lw_loop (.val (.d (.str (wt w)))) hh 11 w .un 100000 (by omega) h2 (by decide)
        have hi := lw_iff 11 w (by omega)
        have fin : ∀ b, lw 11 w = b → (b = true ↔ ∃ f : List Bool, f.length ≤ 12 ∧ (.str (tx (w.map vc)) : D) = .str (wt (W f))) := fun b hb => by
          rw [← hb, hi]
          constructor
          · rintro ⟨f, e⟩
            refine ⟨f, ?_, by rw [e]; rfl⟩
            have := W_len f
            rw [← e] at this
            rcases Nat.lt_or_ge f.length 13 with q | q
            · omega
            · have := Nat.pow_le_pow_right (n := 2) (by decide) q
              omega
          · rintro ⟨f, _, e⟩
            injection e with e
            exact ⟨f, wt_inj e⟩
        cases hb : lw 11 w with
        | true =>
          obtain ⟨st', e⟩ := hw.1 hb
          refine ⟨true, ?_, fin true hb⟩
          rw [wt] at e
          simp -implicitDefEqProofs only [mkFn, sSeq, sSet, sSkip, sIf, sRet, sRetV, sExpr, sFz, fzs, fz, sPr, sAsg, sAsgs, evs, tAll, tN, tT, sFor, sWhile, sApp, sDput, eIxR, sIxR, fr, eC, eVar, pk, ev, dv, vv, evd, evv, EV.sl, EV.val, EV.data, Ob.d, eTup, eLst, eBin, eUn, eChain, eAnd, eOr, eNot, eIte, bAnd, bOr, bNot, eFn, eCall, eIs, eJoin, eKd, eDict0, eSl, eSl3, pN, pI, iSeq, iRange, iZip, iEnu, iArgs, eComp, wipeS, sNo, yes, List.length_cons, List.length_nil, List.map_cons, List.map_nil, List.replicate, List.cons_append, List.nil_append, Option.bind_some, Option.bind_none, Option.map_some, Option.map_none, List.set_cons_succ, List.set_cons_zero, List.getElem?_cons_succ, List.getElem?_cons_zero, Nat.reduceSub, Nat.reduceAdd, Nat.zero_add, if_pos, ite_true, ite_false, reduceIte, eq_self, Bool.false_eq_true, and_self, and_true, true_and, F__law_is_word, c__law_is_word, inst_str, Bool.not_true, hel, hf, hrow, hne, hlen, bGt_ii, e4, e]
        | false =>
          have e := hw.2 hb
          refine ⟨false, ?_, fin false hb⟩
          rw [wt] at e
          simp -implicitDefEqProofs only [mkFn, sSeq, sSet, sSkip, sIf, sRet, sRetV, sExpr, sFz, fzs, fz, sPr, sAsg, sAsgs, evs, tAll, tN, tT, sFor, sWhile, sApp, sDput, eIxR, sIxR, fr, eC, eVar, pk, ev, dv, vv, evd, evv, EV.sl, EV.val, EV.data, Ob.d, eTup, eLst, eBin, eUn, eChain, eAnd, eOr, eNot, eIte, bAnd, bOr, bNot, eFn, eCall, eIs, eJoin, eKd, eDict0, eSl, eSl3, pN, pI, iSeq, iRange, iZip, iEnu, iArgs, eComp, wipeS, sNo, yes, List.length_cons, List.length_nil, List.map_cons, List.map_nil, List.replicate, List.cons_append, List.nil_append, Option.bind_some, Option.bind_none, Option.map_some, Option.map_none, List.set_cons_succ, List.set_cons_zero, List.getElem?_cons_succ, List.getElem?_cons_zero, Nat.reduceSub, Nat.reduceAdd, Nat.zero_add, if_pos, ite_true, ite_false, reduceIte, eq_self, Bool.false_eq_true, and_self, and_true, true_and, F__law_is_word, c__law_is_word, inst_str, Bool.not_true, hel, hf, hrow, hne, hlen, bGt_ii, e4, e]
      · have e4 : decide (4095 < (w.length : Int)) = true := decide_eq_true (by omega)
        refine ⟨false, ?_, ⟨(fun h => nomatch h), ?_⟩⟩
        · simp -implicitDefEqProofs only [mkFn, sSeq, sSet, sSkip, sIf, sRet, sRetV, sExpr, sFz, fzs, fz, sPr, sAsg, sAsgs, evs, tAll, tN, tT, sFor, sWhile, sApp, sDput, eIxR, sIxR, fr, eC, eVar, pk, ev, dv, vv, evd, evv, EV.sl, EV.val, EV.data, Ob.d, eTup, eLst, eBin, eUn, eChain, eAnd, eOr, eNot, eIte, bAnd, bOr, bNot, eFn, eCall, eIs, eJoin, eKd, eDict0, eSl, eSl3, pN, pI, iSeq, iRange, iZip, iEnu, iArgs, eComp, wipeS, sNo, yes, List.length_cons, List.length_nil, List.map_cons, List.map_nil, List.replicate, List.cons_append, List.nil_append, Option.bind_some, Option.bind_none, Option.map_some, Option.map_none, List.set_cons_succ, List.set_cons_zero, List.getElem?_cons_succ, List.getElem?_cons_zero, Nat.reduceSub, Nat.reduceAdd, Nat.zero_add, if_pos, ite_true, ite_false, reduceIte, eq_self, Bool.false_eq_true, and_self, and_true, true_and, F__law_is_word, c__law_is_word, inst_str, Bool.not_true, hel, hf, hrow, hne, hlen, bGt_ii, e4]
        · rintro ⟨f, hf12, e⟩
          injection e with e
          have := wt_inj e
          subst this
          have a := W_len f
          have := Nat.pow_le_pow_right (n := 2) (by decide) hf12
          omega
  | none => exact non (inst_str _) fun _ => PyData.noConfusion
  | bool b => exact non (inst_str _) fun _ => PyData.noConfusion
  | int i => exact non (inst_str _) fun _ => PyData.noConfusion
  | list xs => exact non (inst_str _) fun _ => PyData.noConfusion
  | tuple xs => exact non (inst_str _) fun _ => PyData.noConfusion
  | dict xs => exact non (inst_str _) fun _ => PyData.noConfusion
end FF.K41

set_option Elab.async false
set_option linter.all false
set_option maxRecDepth 100000
set_option maxHeartbeats 1000000
set_option autoImplicit false
/-! K41Paper: the strip folded leaf by leaf. -/
namespace FF.K41
open PySem PySem.Spec PyProof.Rows L2 FF.W FF.L
/-! ### the marks, by numbers -/
def putN (L : List (Nat × Bool)) (i : Nat) (b : Bool) : List (Nat × Bool) := if L.any (fun p => decide (p.1 = i)) then L.map fun p => if p.1 = i then (p.1, b) else p else L ++ [(i, b)]
def getN (L : List (Nat × Bool)) (i : Nat) : Option Bool := (L.find? fun p => decide (p.1 = i)).map (·.2)
def kvD (L : List (Nat × Bool)) : List (D × D) := L.map fun p => (.int (p.1 : Nat), .str (wt [p.2]))
theorem get_put (L : List (Nat × Bool)) (i : Nat) (b : Bool) (j : Nat) : getN (putN L i b) j = if j = i then some b else getN L j := by
  unfold getN putN
  by_cases h : L.any (fun p => decide (p.1 = i)) = true
  · rw [if_pos h, List.find?_map]
    have hf : ((fun p : Nat × Bool => decide (p.1 = j)) ∘ fun p : Nat × Bool => if p.1 = i then (p.1, b) else p) = fun p => decide (p.1 = j) := by
      funext p
      by_cases q : p.1 = i <;> simp [q]
    rw [hf]
    by_cases e : j = i
    · subst e
      rw [if_pos rfl]
      obtain ⟨p, hp, hp2⟩ := List.any_eq_true.mp h
      cases q : L.find? fun p => decide (p.1 = j) with
      | none => exact absurd hp2 (by simpa using List.find?_eq_none.mp q p hp)
      | some r =>
        have := List.find?_some q
        have hr : r.1 = j := of_decide_eq_true this
        simp [hr]
    · rw [if_neg e]
      cases q : L.find? fun p => decide (p.1 = j) with
      | none => rfl
      | some r =>
        have := List.find?_some q
        have hr : r.1 = j := of_decide_eq_true this
        simp [hr, e]
  · rw [if_neg h, List.find?_append]
    by_cases e : j = i
    · subst e
      have hn : (L.find? fun p => decide (p.1 = j)) = none := by
        rw [List.find?_eq_none]
        intro p hp hq
        exact h (List.any_eq_true.mpr ⟨p, hp, hq⟩)
      rw [hn]
      simp
    · have : ¬ i = j := fun q => e q.symm
      rw [if_neg e]
      simp [this]
theorem put_len (L : List (Nat × Bool)) (i : Nat) (b : Bool) : (putN L i b).length ≤ L.length + 1 := by
  unfold putN
  split <;> simp
theorem int_nat (i j : Nat) : PyData.eqv (.int (i : Nat)) (.int (j : Nat)) = decide (i = j) := by
  rw [eq_ii]
  by_cases h : i = j
  · rw [decide_eq_true h, decide_eq_true (by rw [h])]
  · rw [decide_eq_false h, decide_eq_false (by omega)]
theorem dput_kv (L : List (Nat × Bool)) (i : Nat) (b : Bool) : dput (kvD L) (.int (i : Nat)) (.str (wt [b])) = kvD (putN L i b) := by
  unfold dput putN kvD
  rw [List.any_map]
  have : ((fun p : D × D => PyData.eqv p.1 (.int (i : Nat))) ∘ fun p : Nat × Bool => ((.int (p.1 : Nat), .str (wt [p.2])) : D × D)) = fun p => decide (p.1 = i) := by
    funext p
    exact int_nat p.1 i
  rw [this]
  by_cases h : L.any (fun p => decide (p.1 = i)) = true
  · rw [if_pos h, if_pos h, List.map_map, List.map_map]
    apply List.map_congr_left
    intro p _
    simp only [Function.comp, int_nat]
    by_cases q : p.1 = i <;> simp [q]
  · rw [if_neg h, if_neg h, List.map_append]
    rfl
theorem dget_kv (L : List (Nat × Bool)) (i : Nat) : dget (kvD L) (.int (i : Nat)) = (getN L i).map fun b => .str (wt [b]) := by
  unfold dget getN kvD
  rw [List.find?_map]
  have : ((fun p : D × D => PyData.eqv p.1 (.int (i : Nat))) ∘ fun p : Nat × Bool => ((.int (p.1 : Nat), .str (wt [p.2])) : D × D)) = fun p => decide (p.1 = i) := by
    funext p
    exact int_nat p.1 i
  rw [this, Option.map_map, Option.map_map]
  rfl
def puts (k : Nat → Nat) (v : Nat → Bool) (S : List Nat) (L : List (Nat × Bool)) : List (Nat × Bool) := S.foldl (fun L s => putN L (k s) (v s)) L
theorem puts_len (k : Nat → Nat) (v : Nat → Bool) : ∀ (S : List Nat) (L : List (Nat × Bool)), (puts k v S L).length ≤ L.length + S.length
  | [], L => by simp [puts]
  | s :: S, L => by
    have h1 := puts_len k v S (putN L (k s) (v s))
    have h2 := put_len L (k s) (v s)
    show (puts k v S (putN L (k s) (v s))).length ≤ _
    simp only [List.length_cons]
    omega
theorem puts_out (k : Nat → Nat) (v : Nat → Bool) (i : Nat) : ∀ (S : List Nat) (L : List (Nat × Bool)), (∀ s, s ∈ S → k s ≠ i) → getN (puts k v S L) i = getN L i
  | [], L, _ => rfl
  | s :: S, L, h => by
    show getN (puts k v S (putN L (k s) (v s))) i = _
    rw [puts_out k v i S _ fun t ht => h t (List.mem_cons_of_mem _ ht), get_put, if_neg (fun e => h s List.mem_cons_self e.symm)]
theorem puts_in (k : Nat → Nat) (v : Nat → Bool) (hk : ∀ a b, k a = k b → a = b) (s : Nat) : ∀ (S : List Nat) (L : List (Nat × Bool)), s ∈ S ∨ getN L (k s) = some (v s) → getN (puts k v S L) (k s) = some (v s)
  | [], L, h => by
    rcases h with h | h
    · cases h
    · exact h
  | t :: S, L, h => by
    show getN (puts k v S (putN L (k t) (v t))) (k s) = _
    apply puts_in k v hk s S
    by_cases e : s = t
    · right
      rw [get_put, e, if_pos rfl]
    · rcases h with h | h
      · rcases List.mem_cons.mp h with h | h
        · exact absurd h e
        · exact .inl h
      · right
        rw [get_put, if_neg (fun q => e (hk _ _ q)), h]
/-! ### the strip as data -/
def pD (p : Nat × Bool) : D := .tuple [.int (p.1 : Nat), .bool p.2]
def colD (c : List (Nat × Bool)) : D := .list (c.map pD)
def colsD (cs : List (List (Nat × Bool))) : D := .list (cs.map colD)
theorem mid_le {h s : Nat} (hh : 0 < h) : (leaf (2 * h) s (h - 1) = s * (2 * h) + (h - 1) ∧ leaf (2 * h) s h = s * (2 * h) + h) ∨ (leaf (2 * h) s (h - 1) = s * (2 * h) + h ∧ leaf (2 * h) s h = s * (2 * h) + (h - 1)) := by
  unfold leaf
  by_cases e : s % 2 = 0
  · rw [if_pos e, if_pos e]
    exact .inl ⟨rfl, rfl⟩
  · rw [if_neg e, if_neg e]
    refine .inr ⟨?_, ?_⟩
    · congr 1; omega
    · congr 1; omega
theorem ft_o (c : Bool) : decide (ft [c] = "o") = c := by cases c <;> decide
theorem mark_turn {h s : Nat} (hh : 0 < h) (c : Bool) (L : List (Nat × Bool)) (hL : L.length ≤ 1000000) (s0 s1 s3 s5 s6 s7 s8 s9 s10 : Sl) (hp : Hh) :
    c__law_paper_b2 [s0, s1, .val (.d (.str (ft [c]))), s3, .own (.dct (kvD L)), s5, .val (.d (pD (pr (2 * h) (h - 1) s))), .val (.d (pD (pr (2 * h) h s))), s8, s9, s10, .un, .un, .un] hp =
      some (.nx [s0, s1, .val (.d (.str (ft [c]))), s3, .own (.dct (kvD (putN L (s * (2 * h) + (h - 1)) (if s % 2 = 0 then c else !c)))), s5, .val (.d (pD (pr (2 * h) (h - 1) s))), .val (.d (pD (pr (2 * h) h s))), s8, s9, s10, .un, .un, .un] hp) := by
  have i0 : ∀ p : Nat × Bool, bIx (pD p) (.int 0) = some (.v (.d (.int (p.1 : Nat)))) := fun _ => rfl
  have i1 : ∀ p : Nat × Bool, bIx (pD p) (.int 1) = some (.v (.d (.bool p.2))) := fun _ => rfl
  have e2 : decide (c = decide (s % 2 = 0)) = (if s % 2 = 0 then c else !c) := by
    by_cases e : s % 2 = 0 <;> cases c <;> simp [e]
  have hf : fits ((kvD L).length + 1) = true := fits_le (m := 1000001) (by simp [kvD]; omega) (by decide)
  have hk : (toKey (.int ((s * (2 * h) + (h - 1) : Nat) : Int))).isSome = true := rfl
  have key : ∃ d, fAbs [.int (((leaf (2 * h) s (h - 1) : Nat) : Int) - ((leaf (2 * h) s h : Nat) : Int))] = some (.v (.d (.int 1))) ∧ fMin2 [.int ((leaf (2 * h) s (h - 1) : Nat) : Int), .int ((leaf (2 * h) s h : Nat) : Int)] = some (.v (.d (.int ((s * (2 * h) + (h - 1) : Nat) : Int)))) ∧ d = 0 := by
    refine ⟨0, ?_, ?_, rfl⟩
    · rcases mid_le (s := s) hh with ⟨a, b⟩ | ⟨a, b⟩
      · rw [a, b]
        simp only [fAbs]
        rw [if_pos (by omega)]
        congr 4
        omega
      · rw [a, b]
        simp only [fAbs]
        rw [if_neg (by omega)]
        congr 4
        omega
    · rcases mid_le (s := s) hh with ⟨a, b⟩ | ⟨a, b⟩
      · rw [a, b]
        simp only [fMin2]
        rw [if_neg (by omega)]
      · rw [a, b]
        simp only [fMin2]
        rw [if_pos (by omega)]
  obtain ⟨_, ka, km, _⟩ := key
  have d1 : decide ((1 : Int) = 1) = true := rfl
  have w1 : wt [true] = "v" := by decide
  have w0 : wt [false] = "m" := by decide
  have hd := dput_kv L (s * (2 * h) + (h - 1)) (if s % 2 = 0 then c else !c)
  have p1 : (pr (2 * h) (h - 1) s).1 = leaf (2 * h) s (h - 1) := rfl
  have p2 : (pr (2 * h) h s).1 = leaf (2 * h) s h := rfl
  have p3 : (pr (2 * h) (h - 1) s).2 = decide (s % 2 = 0) := rfl
  cases hb : (if s % 2 = 0 then c else !c) with
  | true =>
    rw [hb, w1] at hd
    rw [hb] at e2
    simp -implicitDefEqProofs only [mkFn, sSeq, sSet, sSkip, sIf, sRet, sRetV, sExpr, sFz, fzs, fz, sPr, sAsg, sAsgs, evs, tAll, tN, tT, sFor, sWhile, sApp, sDput, eIxR, sIxR, fr, eC, eVar, pk, ev, dv, vv, evd, evv, EV.sl, EV.val, EV.data, Ob.d, eTup, eLst, eBin, eUn, eChain, eAnd, eOr, eNot, eIte, bAnd, bOr, bNot, eFn, eCall, eIs, eJoin, eKd, eDict0, eSl, eSl3, pN, pI, iSeq, iRange, iZip, iEnu, iArgs, eComp, wipeS, sNo, yes, List.length_cons, List.length_nil, List.map_cons, List.map_nil, List.replicate, List.cons_append, List.nil_append, Option.bind_some, Option.bind_none, Option.map_some, Option.map_none, List.set_cons_succ, List.set_cons_zero, List.getElem?_cons_succ, List.getElem?_cons_zero, Nat.reduceSub, Nat.reduceAdd, Nat.zero_add, if_pos, ite_true, ite_false, reduceIte, eq_self, Bool.false_eq_true, and_self, and_true, true_and, decide_true, decide_false, Bool.not_true, Bool.not_false, c__law_paper_b2, i0, i1, p1, p2, p3, bSub_ii, ka, km, bEq_ii, d1, bEq_ss, ft_o, bEq_bb, e2, hk, hf, Bool.and_self, hd]
  | false =>
    rw [hb, w0] at hd
    rw [hb] at e2
    simp -implicitDefEqProofs only [mkFn, sSeq, sSet, sSkip, sIf, sRet, sRetV, sExpr, sFz, fzs, fz, sPr, sAsg, sAsgs, evs, tAll, tN, tT, sFor, sWhile, sApp, sDput, eIxR, sIxR, fr, eC, eVar, pk, ev, dv, vv, evd, evv, EV.sl, EV.val, EV.data, Ob.d, eTup, eLst, eBin, eUn, eChain, eAnd, eOr, eNot, eIte, bAnd, bOr, bNot, eFn, eCall, eIs, eJoin, eKd, eDict0, eSl, eSl3, pN, pI, iSeq, iRange, iZip, iEnu, iArgs, eComp, wipeS, sNo, yes, List.length_cons, List.length_nil, List.map_cons, List.map_nil, List.replicate, List.cons_append, List.nil_append, Option.bind_some, Option.bind_none, Option.map_some, Option.map_none, List.set_cons_succ, List.set_cons_zero, List.getElem?_cons_succ, List.getElem?_cons_zero, Nat.reduceSub, Nat.reduceAdd, Nat.zero_add, if_pos, ite_true, ite_false, reduceIte, eq_self, Bool.false_eq_true, and_self, and_true, true_and, decide_true, decide_false, Bool.not_true, Bool.not_false, c__law_paper_b2, i0, i1, p1, p2, p3, bSub_ii, ka, km, bEq_ii, d1, bEq_ss, ft_o, bEq_bb, e2, hk, hf, Bool.and_self, hd]
theorem mark_loop {h : Nat} (hh : 0 < h) (c : Bool) (s0 s1 s3 s5 s8 s9 s10 : Sl) (hp : Hh) : ∀ (S : List Nat) (L : List (Nat × Bool)) (s6 s7 : Sl), L.length + S.length ≤ 100000 →
    ∃ s6' s7', forL (tT [tN 6, tN 7]) c__law_paper_b2 (S.map fun s => .tuple [pD (pr (2 * h) (h - 1) s), pD (pr (2 * h) h s)]) [s0, s1, .val (.d (.str (ft [c]))), s3, .own (.dct (kvD L)), s5, s6, s7, s8, s9, s10, .un, .un, .un] hp =
      some (.nx [s0, s1, .val (.d (.str (ft [c]))), s3, .own (.dct (kvD (puts (fun s => s * (2 * h) + (h - 1)) (fun s => if s % 2 = 0 then c else !c) S L))), s5, s6', s7', s8, s9, s10, .un, .un, .un] hp)
  | [], L, s6, s7, _ => ⟨s6, s7, rfl⟩
  | s :: S, L, s6, s7, hl => by
    have t := mark_turn (s := s) hh c L (by omega) s0 s1 s3 s5 s6 s7 s8 s9 s10 hp
    have hput := put_len L (s * (2 * h) + (h - 1)) (if s % 2 = 0 then c else !c)
    obtain ⟨s6', s7', e⟩ := mark_loop hh c s0 s1 s3 s5 s8 s9 s10 hp S (putN L (s * (2 * h) + (h - 1)) (if s % 2 = 0 then c else !c)) (.val (.d (pD (pr (2 * h) (h - 1) s)))) (.val (.d (pD (pr (2 * h) h s)))) (by simp at hl; omega)
    refine ⟨s6', s7', ?_⟩
    have go : forL (tT [tN 6, tN 7]) c__law_paper_b2 ((s :: S).map fun s => .tuple [pD (pr (2 * h) (h - 1) s), pD (pr (2 * h) h s)]) [s0, s1, .val (.d (.str (ft [c]))), s3, .own (.dct (kvD L)), s5, s6, s7, s8, s9, s10, .un, .un, .un] hp =
      (c__law_paper_b2 [s0, s1, .val (.d (.str (ft [c]))), s3, .own (.dct (kvD L)), s5, .val (.d (pD (pr (2 * h) (h - 1) s))), .val (.d (pD (pr (2 * h) h s))), s8, s9, s10, .un, .un, .un] hp).bind fun r => match r with
        | .nx st2 hh2 => forL (tT [tN 6, tN 7]) c__law_paper_b2 (S.map fun s => .tuple [pD (pr (2 * h) (h - 1) s), pD (pr (2 * h) h s)]) st2 hh2
        | .rt e hh' => some (.rt e hh') := rfl
    rw [go, t, Option.bind_some]
    exact e
/-! ### the columns laid anew -/
def newcol (N : Nat) (S : List Nat) (c : Bool) (x : Nat) : List (Nat × Bool) := let over := ((S.map (pr N (N - 1 - x))).reverse).map tn
  if c then S.map (pr N x) ++ over else over ++ S.map (pr N x)
theorem col_at {N x : Nat} (S : List Nat) (hx : x < N) : bIx (colsD (cols N S)) (.int (x : Nat)) = some (.v (.d (colD (S.map (pr N x))))) := by
  unfold colsD
  rw [bIx_l, ixD_nat (by omega)]
  unfold cols
  rw [List.map_map, Int.toNat_natCast, List.getElem?_map, List.getElem?_range hx]
  rfl
theorem over_row (col : List (Nat × Bool)) (s0 s1 s2 s3 s4 s5 s6 s7 s8 s9 s10 : Sl) (hp : Hh) : compL [11, 12] (tT [tN 11, tN 12]) yes c__law_paper_q3 (col.map pD) [s0, s1, s2, s3, s4, s5, s6, s7, s8, s9, s10, .un, .un, .un] hp = some (col.map fun p => pD (tn p), hp) :=
  compL_mapped col fun p _ => ⟨_, rfl, by simp -implicitDefEqProofs only [mkFn, sSeq, sSet, sSkip, sIf, sRet, sRetV, sExpr, sFz, fzs, fz, sPr, sAsg, sAsgs, evs, tAll, tN, tT, sFor, sWhile, sApp, sDput, eIxR, sIxR, fr, eC, eVar, pk, ev, dv, vv, evd, evv, EV.sl, EV.val, EV.data, Ob.d, eTup, eLst, eBin, eUn, eChain, eAnd, eOr, eNot, eIte, bAnd, bOr, bNot, eFn, eCall, eIs, eJoin, eKd, eDict0, eSl, eSl3, pN, pI, iSeq, iRange, iZip, iEnu, iArgs, eComp, wipeS, sNo, yes, List.length_cons, List.length_nil, List.map_cons, List.map_nil, List.replicate, List.cons_append, List.nil_append, Option.bind_some, Option.bind_none, Option.map_some, Option.map_none, List.set_cons_succ, List.set_cons_zero, List.getElem?_cons_succ, List.getElem?_cons_zero, Nat.reduceSub, Nat.reduceAdd, Nat.zero_add, if_pos, ite_true, ite_false, reduceIte, eq_self, Bool.false_eq_true, and_self, and_true, true_and, decide_true, decide_false, Bool.not_true, Bool.not_false, c__law_paper_q3]; rfl⟩
theorem lay_turn {N x : Nat} (S : List Nat) (hS : S.length ≤ 100000) (hN : N ≤ 100000) (hx : x < N) (c : Bool) (acc : List D) (ha : acc.length ≤ 1000000) (s0 s1 s4 s5 s6 s7 s10 : Sl) (hp : Hh) :
    c__law_paper_b4 [s0, s1, .val (.d (.str (ft [c]))), .val (.d (colsD (cols N S))), s4, s5, s6, s7, .own (.lst acc), .val (.d (.int (x : Nat))), s10, .un, .un, .un] hp =
      some (.nx [s0, s1, .val (.d (.str (ft [c]))), .val (.d (colsD (cols N S))), s4, s5, s6, s7, .own (.lst (acc ++ [colD (newcol N S c x)])), .val (.d (.int (x : Nat))), .val (.d (colD (((S.map (pr N (N - 1 - x))).reverse).map tn))), .un, .un, .un] hp) := by
  have hlen : fLen [colsD (cols N S)] = some (.v (.d (.int (N : Nat)))) := by
    show some (EV.v (Val.d (.int (((cols N S).map colD).length : Nat)))) = _
    simp [cols]
  have e1 : (N : Int) - 1 - (x : Nat) = ((N - 1 - x : Nat) : Int) := by omega
  have h1 := col_at (N := N) (x := N - 1 - x) S (by omega)
  have h2 := col_at (N := N) (x := x) S hx
  have hn : uNeg (.int 1) = some (.v (.d (.int (-1)))) := (rfl)
  have hr : slD3 none none (-1) (colD (S.map (pr N (N - 1 - x)))) = some (.o (.lst (((S.map (pr N (N - 1 - x))).reverse).map pD))) := by
    simp only [colD, slD3, and_self, if_true, List.map_reverse]
  have hel : elems (.list (((S.map (pr N (N - 1 - x))).reverse).map pD)) = some (((S.map (pr N (N - 1 - x))).reverse).map pD) := (rfl)
  have hf : fits (((S.map (pr N (N - 1 - x))).reverse).map pD).length = true := fits_le (m := 100000) (by simp; exact hS) (by decide)
  have ho : (((S.map (pr N (N - 1 - x))).reverse).map fun p => pD (tn p)) = (((S.map (pr N (N - 1 - x))).reverse).map tn).map pD := by rw [List.map_map]; rfl
  have hrow := fun s0 s1 s2 s3 s4 s5 s6 s7 s8 s9 s10 => over_row ((S.map (pr N (N - 1 - x))).reverse) s0 s1 s2 s3 s4 s5 s6 s7 s8 s9 s10 hp
  simp only [ho] at hrow
  have ha1 : bAdd (colD (S.map (pr N x))) (.list ((((S.map (pr N (N - 1 - x))).reverse).map tn).map pD)) = some (.o (.lst ((S.map (pr N x) ++ ((S.map (pr N (N - 1 - x))).reverse).map tn).map pD))) := by
    have hf : fits (((S.map (pr N x)).map pD).length + ((((S.map (pr N (N - 1 - x))).reverse).map tn).map pD).length) = true := fits_le (m := 200000) (by simp; omega) (by decide)
    simp only [colD, bAdd, hf, if_true, List.map_append]
  have ha2 : bAdd (.list ((((S.map (pr N (N - 1 - x))).reverse).map tn).map pD)) (colD (S.map (pr N x))) = some (.o (.lst ((((S.map (pr N (N - 1 - x))).reverse).map tn ++ S.map (pr N x)).map pD))) := by
    have hf : fits (((((S.map (pr N (N - 1 - x))).reverse).map tn).map pD).length + ((S.map (pr N x)).map pD).length) = true := fits_le (m := 200000) (by simp; omega) (by decide)
    simp only [colD, bAdd, hf, if_true, List.map_append]
  have hg : fits (acc.length + 1) = true := fits_le (m := 1000001) (by omega) (by decide)
  cases c with
  | true =>
    simp -implicitDefEqProofs only [mkFn, sSeq, sSet, sSkip, sIf, sRet, sRetV, sExpr, sFz, fzs, fz, sPr, sAsg, sAsgs, evs, tAll, tN, tT, sFor, sWhile, sApp, sDput, eIxR, sIxR, fr, eC, eVar, pk, ev, dv, vv, evd, evv, EV.sl, EV.val, EV.data, Ob.d, eTup, eLst, eBin, eUn, eChain, eAnd, eOr, eNot, eIte, bAnd, bOr, bNot, eFn, eCall, eIs, eJoin, eKd, eDict0, eSl, eSl3, pN, pI, iSeq, iRange, iZip, iEnu, iArgs, eComp, wipeS, sNo, yes, List.length_cons, List.length_nil, List.map_cons, List.map_nil, List.replicate, List.cons_append, List.nil_append, Option.bind_some, Option.bind_none, Option.map_some, Option.map_none, List.set_cons_succ, List.set_cons_zero, List.getElem?_cons_succ, List.getElem?_cons_zero, Nat.reduceSub, Nat.reduceAdd, Nat.zero_add, if_pos, ite_true, ite_false, reduceIte, eq_self, Bool.false_eq_true, and_self, and_true, true_and, decide_true, decide_false, Bool.not_true, Bool.not_false, c__law_paper_b4, hlen, bSub_ii, e1, h1, h2, hn, hr, hel, hf, hrow, bEq_ss, ft_o, ha1, hg]
    rfl
  | false =>
    simp -implicitDefEqProofs only [mkFn, sSeq, sSet, sSkip, sIf, sRet, sRetV, sExpr, sFz, fzs, fz, sPr, sAsg, sAsgs, evs, tAll, tN, tT, sFor, sWhile, sApp, sDput, eIxR, sIxR, fr, eC, eVar, pk, ev, dv, vv, evd, evv, EV.sl, EV.val, EV.data, Ob.d, eTup, eLst, eBin, eUn, eChain, eAnd, eOr, eNot, eIte, bAnd, bOr, bNot, eFn, eCall, eIs, eJoin, eKd, eDict0, eSl, eSl3, pN, pI, iSeq, iRange, iZip, iEnu, iArgs, eComp, wipeS, sNo, yes, List.length_cons, List.length_nil, List.map_cons, List.map_nil, List.replicate, List.cons_append, List.nil_append, Option.bind_some, Option.bind_none, Option.map_some, Option.map_none, List.set_cons_succ, List.set_cons_zero, List.getElem?_cons_succ, List.getElem?_cons_zero, Nat.reduceSub, Nat.reduceAdd, Nat.zero_add, if_pos, ite_true, ite_false, reduceIte, eq_self, Bool.false_eq_true, and_self, and_true, true_and, decide_true, decide_false, Bool.not_true, Bool.not_false, c__law_paper_b4, hlen, bSub_ii, e1, h1, h2, hn, hr, hel, hf, hrow, bEq_ss, ft_o, ha2, hg]
    rfl
theorem lay_loop {N : Nat} (S : List Nat) (hS : S.length ≤ 100000) (hN : N ≤ 100000) (c : Bool) (s0 s1 s4 s5 s6 s7 : Sl) (hp : Hh) : ∀ (ks : List Nat) (acc : List D) (s9 s10 : Sl), (∀ k, k ∈ ks → k < N) → acc.length + ks.length ≤ 1000000 →
    ∃ s9' s10', forL (tN 9) c__law_paper_b4 (ks.map fun k => .int (k : Nat)) [s0, s1, .val (.d (.str (ft [c]))), .val (.d (colsD (cols N S))), s4, s5, s6, s7, .own (.lst acc), s9, s10, .un, .un, .un] hp =
      some (.nx [s0, s1, .val (.d (.str (ft [c]))), .val (.d (colsD (cols N S))), s4, s5, s6, s7, .own (.lst (acc ++ ks.map fun x => colD (newcol N S c x))), s9', s10', .un, .un, .un] hp)
  | [], acc, s9, s10, _, _ => ⟨s9, s10, by simp [forL]⟩
  | k :: ks, acc, s9, s10, hk, hl => by
    have t := lay_turn S hS hN (hk k List.mem_cons_self) c acc (by simp at hl; omega) s0 s1 s4 s5 s6 s7 s10 hp
    obtain ⟨s9', s10', e⟩ := lay_loop S hS hN c s0 s1 s4 s5 s6 s7 hp ks (acc ++ [colD (newcol N S c k)]) (.val (.d (.int (k : Nat)))) (.val (.d (colD (((S.map (pr N (N - 1 - k))).reverse).map tn)))) (fun j hj => hk j (List.mem_cons_of_mem _ hj)) (by simp at hl ⊢; omega)
    refine ⟨s9', s10', ?_⟩
    have go : forL (tN 9) c__law_paper_b4 ((k :: ks).map fun k => .int (k : Nat)) [s0, s1, .val (.d (.str (ft [c]))), .val (.d (colsD (cols N S))), s4, s5, s6, s7, .own (.lst acc), s9, s10, .un, .un, .un] hp =
      (c__law_paper_b4 [s0, s1, .val (.d (.str (ft [c]))), .val (.d (colsD (cols N S))), s4, s5, s6, s7, .own (.lst acc), .val (.d (.int (k : Nat))), s10, .un, .un, .un] hp).bind fun r => match r with
        | .nx st2 hh2 => forL (tN 9) c__law_paper_b4 (ks.map fun k => .int (k : Nat)) st2 hh2
        | .rt e hh' => some (.rt e hh') := rfl
    rw [go, t, Option.bind_some]
    show forL (tN 9) c__law_paper_b4 (ks.map fun k => .int (k : Nat)) _ hp = _
    rw [e]
    simp
end FF.K41

set_option Elab.async false
set_option linter.all false
set_option maxRecDepth 100000
set_option maxHeartbeats 1000000
set_option autoImplicit false
/-! K41Paper2: the whole strip. -/
namespace FF.K41
open PySem PySem.Spec PyProof.Rows L2 FF.W FF.L
theorem fold_turn {h : Nat} (hh : 0 < h) (hN : 2 * h ≤ 10000) (S : List Nat) (hS : S.length ≤ 10000) (c : Bool) (L : List (Nat × Bool)) (hL : L.length ≤ 10000) (s0 s1 s5 s6 s7 s8 s9 s10 : Sl) (hp : Hh) :
    ∃ s5' s6' s7' s8' s9' s10', c__law_paper_b5 [s0, s1, .val (.d (.str (ft [c]))), .val (.d (colsD (cols (2 * h) S))), .own (.dct (kvD L)), s5, s6, s7, s8, s9, s10, .un, .un, .un] hp =
      some (.nx [s0, s1, .val (.d (.str (ft [c]))), .val (.d (colsD (cols h (fseg c S)))), .own (.dct (kvD (puts (fun s => s * (2 * h) + (h - 1)) (fun s => if s % 2 = 0 then c else !c) S L))), s5', s6', s7', s8', s9', s10', .un, .un, .un] hp) := by
  have hlen : fLen [colsD (cols (2 * h) S)] = some (.v (.d (.int ((2 * h : Nat) : Int)))) := by
    show some (EV.v (Val.d (.int (((cols (2 * h) S).map colD).length : Nat)))) = _
    simp [cols]
  have e1 : ((2 * h : Nat) : Int) / 2 = (h : Nat) := by omega
  have e2 : (h : Int) - 1 = ((h - 1 : Nat) : Int) := by omega
  have c1 := col_at (N := 2 * h) (x := h - 1) S (by omega)
  have c2 := col_at (N := 2 * h) (x := h) S (by omega)
  have hz : zipD [colD (S.map (pr (2 * h) (h - 1))), colD (S.map (pr (2 * h) h))] = some (S.map fun s => .tuple [pD (pr (2 * h) (h - 1) s), pD (pr (2 * h) h s)]) := by
    show some _ = _
    congr 1
    rw [List.map_map, List.map_map]
    clear hS hlen c1 c2
    induction S with
    | nil => rfl
    | cons a r ih => simp only [List.map_cons, List.zip_cons_cons, ih]; rfl
  obtain ⟨s6', s7', em⟩ := mark_loop hh c s0 s1 (.val (.d (colsD (cols (2 * h) S)))) (.val (.d (.int (h : Nat)))) s8 s9 s10 hp S L s6 s7 (by omega)
  have hr := range_n (n := h) (by omega)
  obtain ⟨s9', s10', el⟩ := lay_loop (N := 2 * h) S (by omega) (by omega) c s0 s1 (.own (.dct (kvD (puts (fun s => s * (2 * h) + (h - 1)) (fun s => if s % 2 = 0 then c else !c) S L)))) (.val (.d (.int (h : Nat)))) s6' s7' hp (List.range h) [] s9 s10 (fun k hk => by have := List.mem_range.mp hk; omega) (by simp; omega)
  rw [List.nil_append] at el
  have hc : PyData.list ((List.range h).map fun x => colD (newcol (2 * h) S c x)) = colsD (cols h (fseg c S)) := by
    rw [cols_fold]
    unfold colsD
    rw [List.map_map]
    rfl
  refine ⟨.val (.d (.int (h : Nat))), s6', s7', .val (.d (colsD (cols h (fseg c S)))), s9', s10', ?_⟩
  simp -implicitDefEqProofs only [mkFn, sSeq, sSet, sSkip, sIf, sRet, sRetV, sExpr, sFz, fzs, fz, sPr, sAsg, sAsgs, evs, tAll, tN, tT, sFor, sWhile, sApp, sDput, eIxR, sIxR, fr, eC, eVar, pk, ev, dv, vv, evd, evv, EV.sl, EV.val, EV.data, Ob.d, eTup, eLst, eBin, eUn, eChain, eAnd, eOr, eNot, eIte, bAnd, bOr, bNot, eFn, eCall, eIs, eJoin, eKd, eDict0, eSl, eSl3, pN, pI, iSeq, iRange, iZip, iEnu, iArgs, eComp, wipeS, sNo, yes, List.length_cons, List.length_nil, List.map_cons, List.map_nil, List.replicate, List.cons_append, List.nil_append, Option.bind_some, Option.bind_none, Option.map_some, Option.map_none, List.set_cons_succ, List.set_cons_zero, List.getElem?_cons_succ, List.getElem?_cons_zero, Nat.reduceSub, Nat.reduceAdd, Nat.zero_add, if_pos, ite_true, ite_false, reduceIte, eq_self, Bool.false_eq_true, and_self, and_true, true_and, decide_true, decide_false, Bool.not_true, Bool.not_false, c__law_paper_b5, hlen, bDiv_ii _ 2 (by decide) (by decide), e1, fInt, bSub_ii, e2, c1, c2, hz, em, hr, el, hc]
structure Marks (f : List Bool) (k : Nat) (L : List (Nat × Bool)) : Prop where
  at_ : ∀ i, i + 1 < 2 ^ f.length → 2 ^ k ∣ i + 1 → getN L i = some (sg f.reverse (i + 1))
theorem key_inj {h : Nat} (hh : 0 < h) : ∀ a b : Nat, a * (2 * h) + (h - 1) = b * (2 * h) + (h - 1) → a = b := fun a b e => by
  have : a * (2 * h) = b * (2 * h) := by omega
  exact Nat.eq_of_mul_eq_mul_right (by omega) this
theorem key_eq {h : Nat} (hh : 0 < h) (s : Nat) : s * (2 * h) + (h - 1) + 1 = h * (2 * s + 1) := by
  have : h * (2 * s + 1) = s * (2 * h) + h := by rw [Nat.mul_add, Nat.mul_one, Nat.mul_comm h (2 * s), Nat.mul_comm 2 s, Nat.mul_assoc]
  omega
theorem marks_step {p q : List Bool} {c : Bool} {S : List Nat} {L : List (Nat × Bool)} (hS : ∀ s, s < 2 ^ p.length → s ∈ S) (M : Marks (p ++ c :: q) (q.length + 1) L) :
    Marks (p ++ c :: q) q.length (puts (fun s => s * (2 * 2 ^ q.length) + (2 ^ q.length - 1)) (fun s => if s % 2 = 0 then c else !c) S L) := by
  have hp := Nat.two_pow_pos q.length
  constructor
  intro i hi hd
  obtain ⟨m, hm⟩ := hd
  have hlen : (p ++ c :: q).length = p.length + (q.length + 1) := by simp
  rw [hlen, Nat.pow_add, Nat.pow_succ] at hi
  by_cases ho : m % 2 = 0
  · have hd2 : 2 ^ (q.length + 1) ∣ i + 1 := ⟨m / 2, by rw [Nat.pow_succ, hm, Nat.mul_assoc]; congr 1; omega⟩
    rw [puts_out, M.at_ i (by rw [hlen, Nat.pow_add, Nat.pow_succ]; exact hi) hd2]
    intro s _ e
    have e' : 2 ^ q.length * m = 2 ^ q.length * (2 * s + 1) := by rw [← hm, ← e, key_eq hp]
    have := Nat.eq_of_mul_eq_mul_left hp e'
    omega
  · obtain ⟨s, rfl⟩ : ∃ s, m = 2 * s + 1 := ⟨m / 2, by omega⟩
    have hi2 : i = s * (2 * 2 ^ q.length) + (2 ^ q.length - 1) := by
      have := key_eq hp s
      omega
    have hs : s < 2 ^ p.length := by
      rw [hm] at hi
      have h1 : 2 ^ q.length * (2 * s + 1) < 2 ^ q.length * (2 ^ p.length * 2) := by
        rw [show 2 ^ q.length * (2 ^ p.length * 2) = 2 ^ p.length * (2 ^ q.length * 2) by rw [Nat.mul_comm (2 ^ q.length) (2 ^ p.length * 2), Nat.mul_assoc, Nat.mul_comm 2 (2 ^ q.length)]]
        exact hi
      have := Nat.lt_of_mul_lt_mul_left h1
      omega
    have := puts_in (fun s => s * (2 * 2 ^ q.length) + (2 ^ q.length - 1)) (fun s => if s % 2 = 0 then c else !c) (key_inj hp) s S L (.inl (hS s hs))
    have hi2' : i = (fun s => s * (2 * 2 ^ q.length) + (2 ^ q.length - 1)) s := hi2
    rw [hi2', this, ← hi2', hm, sg_pow q.length (p ++ c :: q).reverse s c]
    rw [List.reverse_append, List.reverse_cons, List.append_assoc, List.getElem?_append_right (by simp)]
    simp
theorem paper_loop (f : List Bool) (hf : f.length ≤ 12) (s0 s1 : Sl) (hp : Hh) : ∀ (q p : List Bool) (S : List Nat) (L : List (Nat × Bool)) (s2 s5 s6 s7 s8 s9 s10 : Sl), p ++ q = f → S.length = 2 ^ p.length → (∀ s, s < 2 ^ p.length → s ∈ S) → Marks f q.length L → L.length + 1 ≤ 2 ^ p.length →
    ∃ (S' : List Nat) (L' : List (Nat × Bool)) (s2' s5' s6' s7' s8' s9' s10' : Sl), forL (tN 2) c__law_paper_b5 (q.map fun b => .str (ft [b])) [s0, s1, s2, .val (.d (colsD (cols (2 ^ q.length) S))), .own (.dct (kvD L)), s5, s6, s7, s8, s9, s10, .un, .un, .un] hp =
      some (.nx [s0, s1, s2', .val (.d (colsD (cols 1 S'))), .own (.dct (kvD L')), s5', s6', s7', s8', s9', s10', .un, .un, .un] hp) ∧ Marks f 0 L' ∧ S'.length ≤ 5000
  | [], p, S, L, s2, s5, s6, s7, s8, s9, s10, hpq, hl, _, M, _ => by
    refine ⟨S, L, s2, s5, s6, s7, s8, s9, s10, rfl, M, ?_⟩
    rw [hl]
    have : p.length ≤ 12 := by rw [← hpq] at hf; simpa using hf
    have := Nat.pow_le_pow_right (n := 2) (by decide) this
    omega
  | c :: q, p, S, L, s2, s5, s6, s7, s8, s9, s10, hpq, hl, hS, M, hL => by
    subst hpq
    have hlen : (p ++ c :: q).length = p.length + (q.length + 1) := by simp
    rw [hlen] at hf
    have b1 := Nat.pow_le_pow_right (n := 2) (by decide) (show p.length ≤ 12 by omega)
    have b2 := Nat.pow_le_pow_right (n := 2) (by decide) (show q.length + 1 ≤ 12 by omega)
    have hq := Nat.two_pow_pos q.length
    have e2 : 2 ^ (c :: q).length = 2 * 2 ^ q.length := by rw [List.length_cons, Nat.pow_succ, Nat.mul_comm]
    rw [Nat.pow_succ] at b2
    obtain ⟨t5, t6, t7, t8, t9, t10, et⟩ := fold_turn (h := 2 ^ q.length) hq (by omega) S (by omega) c L (by omega) s0 s1 s5 s6 s7 s8 s9 s10 hp
    have hpl : (p ++ [c]).length = p.length + 1 := by simp
    obtain ⟨S', L', s2', s5', s6', s7', s8', s9', s10', e, M', hS'⟩ := paper_loop (p ++ c :: q) (by rw [hlen]; exact hf) s0 s1 hp q (p ++ [c]) (fseg c S) (puts (fun s => s * (2 * 2 ^ q.length) + (2 ^ q.length - 1)) (fun s => if s % 2 = 0 then c else !c) S L) (.val (.d (.str (ft [c])))) t5 t6 t7 t8 t9 t10
      (by simp) (by rw [fseg_len, hl, hpl, Nat.pow_succ, Nat.mul_comm]) (fun s hs => mem_fseg hS s (by rw [hpl, Nat.pow_succ, Nat.mul_comm] at hs; exact hs)) (marks_step hS M) (by
        have := puts_len (fun s => s * (2 * 2 ^ q.length) + (2 ^ q.length - 1)) (fun s => if s % 2 = 0 then c else !c) S L
        rw [hpl, Nat.pow_succ]
        omega)
    refine ⟨S', L', s2', s5', s6', s7', s8', s9', s10', ?_, M', hS'⟩
    rw [e2]
    have go : forL (tN 2) c__law_paper_b5 ((c :: q).map fun b => .str (ft [b])) [s0, s1, s2, .val (.d (colsD (cols (2 * 2 ^ q.length) S))), .own (.dct (kvD L)), s5, s6, s7, s8, s9, s10, .un, .un, .un] hp =
      (c__law_paper_b5 [s0, s1, .val (.d (.str (ft [c]))), .val (.d (colsD (cols (2 * 2 ^ q.length) S))), .own (.dct (kvD L)), s5, s6, s7, s8, s9, s10, .un, .un, .un] hp).bind fun r => match r with
        | .nx st2 hh2 => forL (tN 2) c__law_paper_b5 (q.map fun b => .str (ft [b])) st2 hh2
        | .rt e hh' => some (.rt e hh') := rfl
    rw [go, et, Option.bind_some]
    exact e
theorem many_loop (s0 : Sl) (hp : Hh) (s3 s4 s5 s6 s7 s8 s9 s10 s11 s12 s13 : Sl) : ∀ (ds : List D) (a : Nat) (s2 : Sl), ∃ s2', forL (tN 2) c__law_paper_b0 ds [s0, .val (.d (.int (a : Nat))), s2, s3, s4, s5, s6, s7, s8, s9, s10, s11, s12, s13] hp = some (.nx [s0, .val (.d (.int ((2 ^ ds.length * a : Nat) : Int))), s2', s3, s4, s5, s6, s7, s8, s9, s10, s11, s12, s13] hp)
  | [], a, s2 => ⟨s2, by simp [forL]⟩
  | d :: ds, a, s2 => by
    obtain ⟨s2', e⟩ := many_loop s0 hp s3 s4 s5 s6 s7 s8 s9 s10 s11 s12 s13 ds (2 * a) (.val (.d d))
    refine ⟨s2', ?_⟩
    have go : forL (tN 2) c__law_paper_b0 (d :: ds) [s0, .val (.d (.int (a : Nat))), s2, s3, s4, s5, s6, s7, s8, s9, s10, s11, s12, s13] hp =
      (c__law_paper_b0 [s0, .val (.d (.int (a : Nat))), .val (.d d), s3, s4, s5, s6, s7, s8, s9, s10, s11, s12, s13] hp).bind fun r => match r with
        | .nx st2 hh2 => forL (tN 2) c__law_paper_b0 ds st2 hh2
        | .rt e hh' => some (.rt e hh') := rfl
    have hb : c__law_paper_b0 [s0, .val (.d (.int (a : Nat))), .val (.d d), s3, s4, s5, s6, s7, s8, s9, s10, s11, s12, s13] hp = some (.nx [s0, .val (.d (.int ((2 * a : Nat) : Int))), .val (.d d), s3, s4, s5, s6, s7, s8, s9, s10, s11, s12, s13] hp) := by
      simp -implicitDefEqProofs only [mkFn, sSeq, sSet, sSkip, sIf, sRet, sRetV, sExpr, sFz, fzs, fz, sPr, sAsg, sAsgs, evs, tAll, tN, tT, sFor, sWhile, sApp, sDput, eIxR, sIxR, fr, eC, eVar, pk, ev, dv, vv, evd, evv, EV.sl, EV.val, EV.data, Ob.d, eTup, eLst, eBin, eUn, eChain, eAnd, eOr, eNot, eIte, bAnd, bOr, bNot, eFn, eCall, eIs, eJoin, eKd, eDict0, eSl, eSl3, pN, pI, iSeq, iRange, iZip, iEnu, iArgs, eComp, wipeS, sNo, yes, List.length_cons, List.length_nil, List.map_cons, List.map_nil, List.replicate, List.cons_append, List.nil_append, Option.bind_some, Option.bind_none, Option.map_some, Option.map_none, List.set_cons_succ, List.set_cons_zero, List.getElem?_cons_succ, List.getElem?_cons_zero, Nat.reduceSub, Nat.reduceAdd, Nat.zero_add, if_pos, ite_true, ite_false, reduceIte, eq_self, Bool.false_eq_true, and_self, and_true, true_and, decide_true, decide_false, Bool.not_true, Bool.not_false, c__law_paper_b0, bMul_ii _ _ (mulOk_l (i := 2) (j := (a : Int)) (by decide) (by decide)), Int.natCast_mul, Int.cast_ofNat_Int]
    rw [go, hb, Option.bind_some]
    show forL (tN 2) c__law_paper_b0 ds _ hp = _
    rw [e, List.length_cons, Nat.pow_succ, Nat.mul_assoc]
theorem paper_ok {f : List Bool} (hf : f.length ≤ 12) (hp : Hh) : ∃ pile : D, F__law_paper [.d (.str (ft f))] hp = some (.v (.d (.tuple [.str (wt (W f)), pile])), hp) := by
  have b12 := Nat.pow_le_pow_right (n := 2) (by decide) hf
  have hW := W_len f
  have hel : elems (.str (ft f)) = some (f.map fun b => .str (ft [b])) := by
    show some (signsD (tx (f.map oc))) = _
    rw [signs_tx, List.map_map]
    rfl
  obtain ⟨s2', em⟩ := many_loop (.val (.d (.str (ft f)))) hp .un .un .un .un .un .un .un .un .un .un .un (f.map fun b => .str (ft [b])) 1 .un
  rw [List.length_map, Nat.mul_one] at em
  rw [show ((1 : Nat) : Int) = 1 from rfl] at em
  have hr := range_n (n := 2 ^ f.length) (by omega)
  have hf1 : fits ((List.range (2 ^ f.length)).map fun (k : Nat) => (.int (k : Int) : D)).length = true := fits_le (m := 5000) (by simp; omega) (by decide)
  have hq := fun s0 s1 s2 s3 s4 s5 s6 s7 s8 s9 s10 s12 s13 => compL_mapped (vs := [11]) (t := tN 11) (e := c__law_paper_q1) (st := [s0, s1, s2, s3, s4, s5, s6, s7, s8, s9, s10, .un, s12, s13]) (hh := hp) (g := fun (k : Nat) => (.int (k : Int) : D)) (f := fun k => .list [.tuple [.int (k : Nat), .bool true]]) (List.range (2 ^ f.length)) fun k _ => ⟨_, rfl, by simp -implicitDefEqProofs only [mkFn, sSeq, sSet, sSkip, sIf, sRet, sRetV, sExpr, sFz, fzs, fz, sPr, sAsg, sAsgs, evs, tAll, tN, tT, sFor, sWhile, sApp, sDput, eIxR, sIxR, fr, eC, eVar, pk, ev, dv, vv, evd, evv, EV.sl, EV.val, EV.data, Ob.d, eTup, eLst, eBin, eUn, eChain, eAnd, eOr, eNot, eIte, bAnd, bOr, bNot, eFn, eCall, eIs, eJoin, eKd, eDict0, eSl, eSl3, pN, pI, iSeq, iRange, iZip, iEnu, iArgs, eComp, wipeS, sNo, yes, List.length_cons, List.length_nil, List.map_cons, List.map_nil, List.replicate, List.cons_append, List.nil_append, Option.bind_some, Option.bind_none, Option.map_some, Option.map_none, List.set_cons_succ, List.set_cons_zero, List.getElem?_cons_succ, List.getElem?_cons_zero, Nat.reduceSub, Nat.reduceAdd, Nat.zero_add, if_pos, ite_true, ite_false, reduceIte, eq_self, Bool.false_eq_true, and_self, and_true, true_and, decide_true, decide_false, Bool.not_true, Bool.not_false, c__law_paper_q1]⟩
  have hc0 : PyData.list ((List.range (2 ^ f.length)).map fun k => (.list [.tuple [.int (k : Nat), .bool true]] : D)) = colsD (cols (2 ^ f.length) [0]) := by
    unfold colsD cols
    rw [List.map_map]
    refine congrArg PyData.list (List.map_congr_left fun k _ => ?_)
    show _ = colD [pr (2 ^ f.length) k 0]
    simp [colD, pD, pr, leaf]
  have M0 : Marks f f.length [] := ⟨fun i hi hd => by
    have := Nat.le_of_dvd (by omega) hd
    omega⟩
  obtain ⟨S', L', t2, t5, t6, t7, t8, t9, t10, el, M, hS'⟩ := paper_loop f hf (.val (.d (.str (ft f)))) (.val (.d (.int ((2 ^ f.length : Nat) : Int)))) hp f [] [0] [] s2' .un .un .un .un .un .un rfl rfl (fun s hs => by simp at hs; simp [hs]) M0 (by simp)
  have e0 : kvD [] = [] := rfl
  rw [e0] at el
  have e1 : ((2 ^ f.length : Nat) : Int) - 1 = (((W f).length : Nat) : Int) := by omega
  have hr2 := range_n (n := (W f).length) (by omega)
  have hf2 : fits ((List.range (W f).length).map fun (k : Nat) => (.int (k : Int) : D)).length = true := fits_le (m := 5000) (by simp; omega) (by decide)
  have hq6 := fun s0 s1 s2 s3 s5 s6 s7 s8 s9 s10 s11 s12 => compL_mapped (vs := [13]) (t := tN 13) (e := c__law_paper_q6) (st := [s0, s1, s2, s3, .own (.dct (kvD L')), s5, s6, s7, s8, s9, s10, s11, s12, .un]) (hh := hp) (g := fun (k : Nat) => (.int (k : Int) : D)) (f := fun k => .str (wt [sg f.reverse (k + 1)])) (List.range (W f).length) fun k hk => by
    have hk := List.mem_range.mp hk
    refine ⟨_, rfl, ?_⟩
    have hi : bIx (.dict (kvD L')) (.int (k : Nat)) = some (.v (.d (.str (wt [sg f.reverse (k + 1)])))) := by
      have : dget (kvD L') (.int (k : Nat)) = some (.str (wt [sg f.reverse (k + 1)])) := by
        rw [dget_kv, M.at_ k (by omega) (by simp)]
        rfl
      simp only [bIx, toKey, Option.isSome_some, if_true, this, Option.map_some]
    simp -implicitDefEqProofs only [mkFn, sSeq, sSet, sSkip, sIf, sRet, sRetV, sExpr, sFz, fzs, fz, sPr, sAsg, sAsgs, evs, tAll, tN, tT, sFor, sWhile, sApp, sDput, eIxR, sIxR, fr, eC, eVar, pk, ev, dv, vv, evd, evv, EV.sl, EV.val, EV.data, Ob.d, eTup, eLst, eBin, eUn, eChain, eAnd, eOr, eNot, eIte, bAnd, bOr, bNot, eFn, eCall, eIs, eJoin, eKd, eDict0, eSl, eSl3, pN, pI, iSeq, iRange, iZip, iEnu, iArgs, eComp, wipeS, sNo, yes, List.length_cons, List.length_nil, List.map_cons, List.map_nil, List.replicate, List.cons_append, List.nil_append, Option.bind_some, Option.bind_none, Option.map_some, Option.map_none, List.set_cons_succ, List.set_cons_zero, List.getElem?_cons_succ, List.getElem?_cons_zero, Nat.reduceSub, Nat.reduceAdd, Nat.zero_add, if_pos, ite_true, ite_false, reduceIte, eq_self, Bool.false_eq_true, and_self, and_true, true_and, decide_true, decide_false, Bool.not_true, Bool.not_false, c__law_paper_q6, hi]
  have hw : ((List.range (W f).length).map fun k => (.str (wt [sg f.reverse (k + 1)]) : D)) = (W f).map fun b => .str (wt [b]) := by
    apply List.ext_getElem?
    intro i
    rw [List.getElem?_map, List.getElem?_map]
    by_cases hi : i < (W f).length
    · have := sg_W f.reverse (i + 1) (by omega) (by rw [List.length_reverse]; omega)
      rw [List.reverse_reverse, Nat.add_sub_cancel] at this
      rw [List.getElem?_range hi, this]
      rfl
    · rw [List.getElem?_eq_none (by simp; omega), List.getElem?_eq_none (by omega)]
      rfl
  simp only [hw] at hq6
  have hj := joinD_wt (w := W f) (by omega)
  have h0 := col_at (N := 1) (x := 0) S' (by decide)
  rw [show ((0 : Nat) : Int) = 0 from rfl] at h0
  have hel2 : elems (colD (S'.map (pr 1 0))) = some ((S'.map (pr 1 0)).map pD) := rfl
  have hf3 : fits ((S'.map (pr 1 0)).map pD).length = true := fits_le (m := 5000) (by simp; exact hS') (by decide)
  have hq7 := fun s0 s1 s2 s3 s4 s5 s6 s7 s8 s9 s10 s13 => compL_mapped (vs := [11, 12]) (t := tT [tN 11, tN 12]) (e := c__law_paper_q7) (st := [s0, s1, s2, s3, s4, s5, s6, s7, s8, s9, s10, .un, .un, s13]) (hh := hp) (g := pD) (f := fun p => .int (p.1 : Nat)) (S'.map (pr 1 0)) fun p _ => ⟨_, rfl, by simp -implicitDefEqProofs only [mkFn, sSeq, sSet, sSkip, sIf, sRet, sRetV, sExpr, sFz, fzs, fz, sPr, sAsg, sAsgs, evs, tAll, tN, tT, sFor, sWhile, sApp, sDput, eIxR, sIxR, fr, eC, eVar, pk, ev, dv, vv, evd, evv, EV.sl, EV.val, EV.data, Ob.d, eTup, eLst, eBin, eUn, eChain, eAnd, eOr, eNot, eIte, bAnd, bOr, bNot, eFn, eCall, eIs, eJoin, eKd, eDict0, eSl, eSl3, pN, pI, iSeq, iRange, iZip, iEnu, iArgs, eComp, wipeS, sNo, yes, List.length_cons, List.length_nil, List.map_cons, List.map_nil, List.replicate, List.cons_append, List.nil_append, Option.bind_some, Option.bind_none, Option.map_some, Option.map_none, List.set_cons_succ, List.set_cons_zero, List.getElem?_cons_succ, List.getElem?_cons_zero, Nat.reduceSub, Nat.reduceAdd, Nat.zero_add, if_pos, ite_true, ite_false, reduceIte, eq_self, Bool.false_eq_true, and_self, and_true, true_and, decide_true, decide_false, Bool.not_true, Bool.not_false, c__law_paper_q7]⟩
  refine ⟨.tuple ((S'.map (pr 1 0)).map fun p => .int (p.1 : Nat)), ?_⟩
  simp -implicitDefEqProofs only [mkFn, sSeq, sSet, sSkip, sIf, sRet, sRetV, sExpr, sFz, fzs, fz, sPr, sAsg, sAsgs, evs, tAll, tN, tT, sFor, sWhile, sApp, sDput, eIxR, sIxR, fr, eC, eVar, pk, ev, dv, vv, evd, evv, EV.sl, EV.val, EV.data, Ob.d, eTup, eLst, eBin, eUn, eChain, eAnd, eOr, eNot, eIte, bAnd, bOr, bNot, eFn, eCall, eIs, eJoin, eKd, eDict0, eSl, eSl3, pN, pI, iSeq, iRange, iZip, iEnu, iArgs, eComp, wipeS, sNo, yes, List.length_cons, List.length_nil, List.map_cons, List.map_nil, List.replicate, List.cons_append, List.nil_append, Option.bind_some, Option.bind_none, Option.map_some, Option.map_none, List.set_cons_succ, List.set_cons_zero, List.getElem?_cons_succ, List.getElem?_cons_zero, Nat.reduceSub, Nat.reduceAdd, Nat.zero_add, if_pos, ite_true, ite_false, reduceIte, eq_self, Bool.false_eq_true, and_self, and_true, true_and, decide_true, decide_false, Bool.not_true, Bool.not_false, F__law_paper, c__law_paper, hel, em, hr, hf1, hq, hc0, el, bSub_ii, e1, hr2, hf2, hq6, hj, h0, hel2, hf3, hq7, fTuple]
end FF.K41

set_option Elab.async false
set_option linter.all false
set_option maxRecDepth 100000
set_option maxHeartbeats 1000000
set_option autoImplicit false
/-! K41Right: the law. -/
namespace FF.K41
open PySem PySem.Spec PyProof.Rows L2 FF.W FF.L
theorem same_bool {a b : Bool} {P : Prop} (h1 : a = true ↔ P) (h2 : b = true ↔ P) : a = b := by
  cases a <;> cases b <;> simp_all
theorem value_turn {v : D} (hv : short v) (s0 s1 s2 s3 s4 s5 s6 s7 s8 s9 s10 : Sl) (hh : Hh) : c__law_right_b1 [s0, s1, s2, s3, s4, s5, s6, s7, s8, s9, s10, .val (.d v)] hh = some (.nx [s0, s1, s2, s3, s4, s5, s6, s7, s8, s9, s10, .val (.d v)] hh) := by
  obtain ⟨b, e1, i1⟩ := is_word_ok hv hh
  obtain ⟨b', e2, i2⟩ := law_is_word_ok hv hh
  have hb : b = b' := same_bool i1 i2
  subst hb
  have hl := like_self 11 (.bool b) hh rfl
  cases b with
  | false =>
    cases hs : instD "str" v with
    | false => simp -implicitDefEqProofs only [mkFn, sSeq, sSet, sSkip, sIf, sRet, sRetV, sExpr, sFz, fzs, fz, sPr, sAsg, sAsgs, evs, tAll, tN, tT, sFor, sWhile, sApp, sDput, eIxR, sIxR, fr, eC, eVar, pk, ev, dv, vv, evd, evv, EV.sl, EV.val, EV.data, Ob.d, eTup, eLst, eBin, eUn, eChain, eAnd, eOr, eNot, eIte, bAnd, bOr, bNot, eFn, eCall, eIs, eJoin, eKd, eDict0, eSl, eSl3, pN, pI, iSeq, iRange, iZip, iEnu, iArgs, eComp, wipeS, sNo, yes, List.length_cons, List.length_nil, List.map_cons, List.map_nil, List.replicate, List.cons_append, List.nil_append, Option.bind_some, Option.bind_none, Option.map_some, Option.map_none, List.set_cons_succ, List.set_cons_zero, List.getElem?_cons_succ, List.getElem?_cons_zero, Nat.reduceSub, Nat.reduceAdd, Nat.zero_add, if_pos, ite_true, ite_false, reduceIte, eq_self, Bool.false_eq_true, and_self, and_true, true_and, decide_true, decide_false, Bool.not_true, Bool.not_false, c__law_right_b1, e1, e2, hl, hs]
    | true => simp -implicitDefEqProofs only [mkFn, sSeq, sSet, sSkip, sIf, sRet, sRetV, sExpr, sFz, fzs, fz, sPr, sAsg, sAsgs, evs, tAll, tN, tT, sFor, sWhile, sApp, sDput, eIxR, sIxR, fr, eC, eVar, pk, ev, dv, vv, evd, evv, EV.sl, EV.val, EV.data, Ob.d, eTup, eLst, eBin, eUn, eChain, eAnd, eOr, eNot, eIte, bAnd, bOr, bNot, eFn, eCall, eIs, eJoin, eKd, eDict0, eSl, eSl3, pN, pI, iSeq, iRange, iZip, iEnu, iArgs, eComp, wipeS, sNo, yes, List.length_cons, List.length_nil, List.map_cons, List.map_nil, List.replicate, List.cons_append, List.nil_append, Option.bind_some, Option.bind_none, Option.map_some, Option.map_none, List.set_cons_succ, List.set_cons_zero, List.getElem?_cons_succ, List.getElem?_cons_zero, Nat.reduceSub, Nat.reduceAdd, Nat.zero_add, if_pos, ite_true, ite_false, reduceIte, eq_self, Bool.false_eq_true, and_self, and_true, true_and, decide_true, decide_false, Bool.not_true, Bool.not_false, c__law_right_b1, e1, e2, hl, hs]
  | true =>
    obtain ⟨f, hf, rfl⟩ := i1.mp rfl
    have h3 := folds_of_ok hf hh
    obtain ⟨pile, h4⟩ := paper_ok hf hh
    have h5 : bIx (.tuple [.str (wt (W f)), pile]) (.int 0) = some (.v (.d (.str (wt (W f))))) := rfl
    simp -implicitDefEqProofs only [mkFn, sSeq, sSet, sSkip, sIf, sRet, sRetV, sExpr, sFz, fzs, fz, sPr, sAsg, sAsgs, evs, tAll, tN, tT, sFor, sWhile, sApp, sDput, eIxR, sIxR, fr, eC, eVar, pk, ev, dv, vv, evd, evv, EV.sl, EV.val, EV.data, Ob.d, eTup, eLst, eBin, eUn, eChain, eAnd, eOr, eNot, eIte, bAnd, bOr, bNot, eFn, eCall, eIs, eJoin, eKd, eDict0, eSl, eSl3, pN, pI, iSeq, iRange, iZip, iEnu, iArgs, eComp, wipeS, sNo, yes, List.length_cons, List.length_nil, List.map_cons, List.map_nil, List.replicate, List.cons_append, List.nil_append, Option.bind_some, Option.bind_none, Option.map_some, Option.map_none, List.set_cons_succ, List.set_cons_zero, List.getElem?_cons_succ, List.getElem?_cons_zero, Nat.reduceSub, Nat.reduceAdd, Nat.zero_add, if_pos, ite_true, ite_false, reduceIte, eq_self, Bool.false_eq_true, and_self, and_true, true_and, decide_true, decide_false, Bool.not_true, Bool.not_false, c__law_right_b1, e1, e2, hl, inst_str, h3, h4, h5, bNe_ss]
theorem value_loop (s0 s1 s2 s3 s4 s5 s6 s7 s8 s9 s10 : Sl) (hh : Hh) : ∀ (ds : List D) (s11 : Sl), (∀ d, d ∈ ds → short d) → ∃ st', forL (tN 11) c__law_right_b1 ds [s0, s1, s2, s3, s4, s5, s6, s7, s8, s9, s10, s11] hh = some (.nx st' hh)
  | [], s11, _ => ⟨_, rfl⟩
  | d :: ds, s11, h => by
    obtain ⟨st', e⟩ := value_loop s0 s1 s2 s3 s4 s5 s6 s7 s8 s9 s10 hh ds (.val (.d d)) fun d hd => h d (List.mem_cons_of_mem _ hd)
    refine ⟨st', ?_⟩
    have go : forL (tN 11) c__law_right_b1 (d :: ds) [s0, s1, s2, s3, s4, s5, s6, s7, s8, s9, s10, s11] hh = (c__law_right_b1 [s0, s1, s2, s3, s4, s5, s6, s7, s8, s9, s10, .val (.d d)] hh).bind fun r => match r with
        | .nx st2 hh2 => forL (tN 11) c__law_right_b1 ds st2 hh2
        | .rt e hh' => some (.rt e hh') := rfl
    rw [go, value_turn (h d List.mem_cons_self), Option.bind_some]
    exact e
theorem crease_loop {f : List Bool} (hf : f.length ≤ 12) (hw : W f ≠ []) {n : Nat} (s1 s4 s7 s8 s9 s10 s11 : Sl) : ∀ (ds : List D) (s5 s6 : Sl) (hh : Hh), CupAt hh n →
    ∃ (s5' s6' : Sl) (hh' : Hh), forL (tN 5) c__law_right_b0 ds [.val (.ref n), s1, .val (.d (.str (ft f))), .val (.d (.str (wt (W f)))), s4, s5, s6, s7, s8, s9, s10, s11] hh =
      some (.nx [.val (.ref n), s1, .val (.d (.str (ft f))), .val (.d (.str (wt (W f)))), s4, s5', s6', s7, s8, s9, s10, s11] hh') ∧ CupAt hh' n
  | [], s5, s6, hh, hc => ⟨s5, s6, hh, rfl, hc⟩
  | d :: ds, s5, s6, hh, hc => by
    have hW := W_len f
    have b12 := Nat.pow_le_pow_right (n := 2) (by decide) hf
    have hpos : 0 < (W f).length := List.length_pos_iff.mpr hw
    have hlen := fLen_wt (w := W f) (by omega)
    obtain ⟨r, h1, e1, r0, r1, hc1⟩ := roll_ok hc (many := ((W f).length : Nat)) (by omega) (by omega)
    obtain ⟨k, rfl⟩ : ∃ k : Nat, r = k := ⟨r.toNat, by omega⟩
    have hk : k < (W f).length := by omega
    have e2 := sign_at_ok hf hk h1
    have e3 : bIx (.str (wt (W f))) (.int (k : Nat)) = some (.v (.d (.str (wt [(W f)[k]])))) := by
      refine bIx_tx (by simp; omega) ?_
      rw [List.getElem?_map, List.getElem?_eq_getElem hk]
      rfl
    have e4 := like_self 11 (.str (wt [(W f)[k]])) h1 rfl
    have hb : c__law_right_b0 [.val (.ref n), s1, .val (.d (.str (ft f))), .val (.d (.str (wt (W f)))), s4, .val (.d d), s6, s7, s8, s9, s10, s11] hh = some (.nx [.val (.ref n), s1, .val (.d (.str (ft f))), .val (.d (.str (wt (W f)))), s4, .val (.d d), .val (.d (.int (k : Nat))), s7, s8, s9, s10, s11] h1) := by
      simp -implicitDefEqProofs only [mkFn, sSeq, sSet, sSkip, sIf, sRet, sRetV, sExpr, sFz, fzs, fz, sPr, sAsg, sAsgs, evs, tAll, tN, tT, sFor, sWhile, sApp, sDput, eIxR, sIxR, fr, eC, eVar, pk, ev, dv, vv, evd, evv, EV.sl, EV.val, EV.data, Ob.d, eTup, eLst, eBin, eUn, eChain, eAnd, eOr, eNot, eIte, bAnd, bOr, bNot, eFn, eCall, eIs, eJoin, eKd, eDict0, eSl, eSl3, pN, pI, iSeq, iRange, iZip, iEnu, iArgs, eComp, wipeS, sNo, yes, List.length_cons, List.length_nil, List.map_cons, List.map_nil, List.replicate, List.cons_append, List.nil_append, Option.bind_some, Option.bind_none, Option.map_some, Option.map_none, List.set_cons_succ, List.set_cons_zero, List.getElem?_cons_succ, List.getElem?_cons_zero, Nat.reduceSub, Nat.reduceAdd, Nat.zero_add, if_pos, ite_true, ite_false, reduceIte, eq_self, Bool.false_eq_true, and_self, and_true, true_and, decide_true, decide_false, Bool.not_true, Bool.not_false, c__law_right_b0, hlen, e1, e2, e3, e4]
    obtain ⟨s5', s6', hh', e, hc2⟩ := crease_loop hf hw s1 s4 s7 s8 s9 s10 s11 ds (.val (.d d)) (.val (.d (.int (k : Nat)))) h1 hc1
    refine ⟨s5', s6', hh', ?_, hc2⟩
    have go : forL (tN 5) c__law_right_b0 (d :: ds) [.val (.ref n), s1, .val (.d (.str (ft f))), .val (.d (.str (wt (W f)))), s4, s5, s6, s7, s8, s9, s10, s11] hh =
      (c__law_right_b0 [.val (.ref n), s1, .val (.d (.str (ft f))), .val (.d (.str (wt (W f)))), s4, .val (.d d), s6, s7, s8, s9, s10, s11] hh).bind fun r => match r with
        | .nx st2 hh2 => forL (tN 5) c__law_right_b0 ds st2 hh2
        | .rt e hh' => some (.rt e hh') := rfl
    rw [go, hb, Option.bind_some]
    exact e
theorem bAdd_w {u w : List Bool} (h : u.length + w.length ≤ 1000000) : bAdd (.str (wt u)) (.str (wt w)) = some (.v (.d (.str (wt (u ++ w))))) := by
  have hf : fits ((wt u).length + (wt w).length) = true := fits_le (m := 1000000) (by rw [wt_len, wt_len]; exact h) (by decide)
  simp only [bAdd, hf, if_true, wt_app]
theorem bAdd_t {l m : List Nat} (h : l.length + m.length ≤ 1000000) : bAdd (.str (tx l)) (.str (tx m)) = some (.v (.d (.str (tx (l ++ m))))) := by
  have hf : fits ((tx l).length + (tx m).length) = true := fits_le (m := 1000000) (by rw [tx_len, tx_len]; exact h) (by decide)
  simp only [bAdd, hf, if_true, tx_app]
theorem short_wt {w : List Bool} (h : w.length ≤ 1000000) : short (.str (wt w)) := short_tx (by rw [List.length_map]; exact h)
theorem right_ok {hh : Hh} {n : Nat} (hc : CupAt hh n) {most : Nat} (hm : most ≤ 12) : ∃ hh', F__law_right [.ref n, .d (.int (most : Nat))] hh = some (.v (.d (.bool true)), hh') ∧ CupAt hh' n := by
  obtain ⟨f, h1, e1, hfm, hc1⟩ := law_folds_ok hc (most := most) (by omega)
  have hf : f.length ≤ 12 := by omega
  have hW := W_len f
  have b12 := Nat.pow_le_pow_right (n := 2) (by decide) hf
  generalize hw : W f = w at *
  have hwl : w.length ≤ 4095 := by omega
  obtain ⟨pile, e2⟩ := paper_ok hf h1
  have e3 := word_of_ok hf h1
  obtain ⟨b, e4, i4⟩ := is_word_ok (v := .str (wt w)) (short_wt (by omega)) h1
  have hb : b = true := i4.mpr ⟨f, hf, by rw [hw]⟩
  subst hb
  have e5 := folds_of_ok hf h1
  have e6 := is_folds_ok hf h1
  rw [hw] at e2 e3 e5
  have e7 := like_self 11 (.list [.str (wt w), .bool true, .str (ft f), .bool true]) h1 rfl
  have hlen := fLen_wt (w := w) (by omega)
  -- the creases
  have cre : ∀ s1 s4 s5 s6 s7 s8 s9 s10 s11 : Sl, ∃ (s5' s6' : Sl) (h2 : Hh), sFor (iRange [dv (eIte (dv (eBin bNe (pk 3) (dv (eC (.str ""))))) (eC (.int 4)) (eC (.int 0)))]) (tN 5) c__law_right_b0 [.val (.ref n), s1, .val (.d (.str (ft f))), .val (.d (.str (wt w))), s4, s5, s6, s7, s8, s9, s10, s11] h1 =
      some (.nx [.val (.ref n), s1, .val (.d (.str (ft f))), .val (.d (.str (wt w))), s4, s5', s6', s7, s8, s9, s10, s11] h2) ∧ CupAt h2 n := by
    intro s1 s4 s5 s6 s7 s8 s9 s10 s11
    by_cases hne : w = []
    · have d1 : decide (wt w = "") = true := decide_eq_true (wt_nil.mpr hne)
      have hr := range_n (n := 0) (by decide)
      rw [show ((0 : Nat) : Int) = 0 from rfl] at hr
      refine ⟨s5, s6, h1, ?_, hc1⟩
      simp -implicitDefEqProofs only [mkFn, sSeq, sSet, sSkip, sIf, sRet, sRetV, sExpr, sFz, fzs, fz, sPr, sAsg, sAsgs, evs, tAll, tN, tT, sFor, sWhile, sApp, sDput, eIxR, sIxR, fr, eC, eVar, pk, ev, dv, vv, evd, evv, EV.sl, EV.val, EV.data, Ob.d, eTup, eLst, eBin, eUn, eChain, eAnd, eOr, eNot, eIte, bAnd, bOr, bNot, eFn, eCall, eIs, eJoin, eKd, eDict0, eSl, eSl3, pN, pI, iSeq, iRange, iZip, iEnu, iArgs, eComp, wipeS, sNo, yes, List.length_cons, List.length_nil, List.map_cons, List.map_nil, List.replicate, List.cons_append, List.nil_append, Option.bind_some, Option.bind_none, Option.map_some, Option.map_none, List.set_cons_succ, List.set_cons_zero, List.getElem?_cons_succ, List.getElem?_cons_zero, Nat.reduceSub, Nat.reduceAdd, Nat.zero_add, if_pos, ite_true, ite_false, reduceIte, eq_self, Bool.false_eq_true, and_self, and_true, true_and, decide_true, decide_false, Bool.not_true, Bool.not_false, bNe_ss, d1, hr]
      rfl
    · have d1 : decide (wt w = "") = false := decide_eq_false fun q => hne (wt_nil.mp q)
      have hr := range_n (n := 4) (by decide)
      rw [show ((4 : Nat) : Int) = 4 from rfl] at hr
      obtain ⟨s5', s6', h2, e, hc2⟩ := crease_loop hf (by rw [hw]; exact hne) s1 s4 s7 s8 s9 s10 s11 ((List.range 4).map fun (k : Nat) => (.int (k : Int) : D)) s5 s6 h1 hc1
      rw [hw] at e
      refine ⟨s5', s6', h2, ?_, hc2⟩
      simp -implicitDefEqProofs only [mkFn, sSeq, sSet, sSkip, sIf, sRet, sRetV, sExpr, sFz, fzs, fz, sPr, sAsg, sAsgs, evs, tAll, tN, tT, sFor, sWhile, sApp, sDput, eIxR, sIxR, fr, eC, eVar, pk, ev, dv, vv, evd, evv, EV.sl, EV.val, EV.data, Ob.d, eTup, eLst, eBin, eUn, eChain, eAnd, eOr, eNot, eIte, bAnd, bOr, bNot, eFn, eCall, eIs, eJoin, eKd, eDict0, eSl, eSl3, pN, pI, iSeq, iRange, iZip, iEnu, iArgs, eComp, wipeS, sNo, yes, List.length_cons, List.length_nil, List.map_cons, List.map_nil, List.replicate, List.cons_append, List.nil_append, Option.bind_some, Option.bind_none, Option.map_some, Option.map_none, List.set_cons_succ, List.set_cons_zero, List.getElem?_cons_succ, List.getElem?_cons_zero, Nat.reduceSub, Nat.reduceAdd, Nat.zero_add, if_pos, ite_true, ite_false, reduceIte, eq_self, Bool.false_eq_true, and_self, and_true, true_and, decide_true, decide_false, Bool.not_true, Bool.not_false, bNe_ss, d1, hr, e]
  obtain ⟨s5', s6', h2, e8, hc2⟩ := cre (.val (.d (.int (most : Nat)))) (.val (.d pile)) .un .un .un .un .un .un .un
  obtain ⟨r, h3, e9, r0, r1, hc3⟩ := roll_ok hc2 (many := (w.length : Int) + 1) (by omega) (by omega)
  obtain ⟨k, rfl⟩ : ∃ k : Nat, r = k := ⟨r.toNat, by omega⟩
  have hk : k ≤ w.length := by omega
  have ed : (w.length : Int) / 2 = ((w.length / 2 : Nat) : Int) := by omega
  have ek : (k : Int) + 1 = ((k + 1 : Nat) : Int) := by omega
  have eh : ((w.length / 2 : Nat) : Int) + 1 = ((w.length / 2 + 1 : Nat) : Int) := by omega
  have e1' : (1 : Int) = ((1 : Nat) : Int) := rfl
  have slk := wsl_to (w := w) (by omega) k
  have slk1 := wsl_from (w := w) (by omega) (k + 1)
  have slkf := wsl_from (w := w) (by omega) k
  have slh := wsl_to (w := w) (by omega) (w.length / 2)
  have slh1 := wsl_from (w := w) (by omega) (w.length / 2 + 1)
  have sl1 := wsl_to (w := w) (by omega) 1
  have slf1 := wsl_from (w := w) (by omega) 1
  rw [show ((1 : Nat) : Int) = 1 from rfl] at sl1 slf1
  have slr := wsl_rev (w := w) (by omega)
  have slb : slD (some (k : Int)) (some ((k + 1 : Nat) : Int)) (.str (wt w)) = some (.v (.d (.str (wt ((w.take (k + 1)).drop k))))) := by
    rw [wt, sl_both (by rw [List.length_map]; omega), wt, List.map_drop, List.map_take]
  have hn : uNeg (.int 1) = some (.v (.d (.int (-1)))) := (rfl)
  have lt1 : (w.take k).length ≤ w.length := by rw [List.length_take]; omega
  have lt2 : (w.drop (k + 1)).length ≤ w.length := by rw [List.length_drop]; omega
  have lt3 : (w.take (w.length / 2)).length ≤ w.length := by rw [List.length_take]; omega
  have lt4 : (w.drop (w.length / 2 + 1)).length ≤ w.length := by rw [List.length_drop]; omega
  have lt5 : (w.take 1).length ≤ w.length := by rw [List.length_take]; omega
  have lt6 : (w.drop k).length ≤ w.length := by rw [List.length_drop]; omega
  have lt7 : (w.drop 1).length ≤ w.length := by rw [List.length_drop]; omega
  have a1 : ∀ o : Bool, bAdd (.str (wt (w.take k))) (.str (wt [o])) = some (.v (.d (.str (wt (w.take k ++ [o]))))) := fun o => bAdd_w (by simp; omega)
  have a2 : ∀ o : Bool, bAdd (.str (wt (w.take k ++ [o]))) (.str (wt (w.drop (k + 1)))) = some (.v (.d (.str (wt (w.take k ++ [o] ++ w.drop (k + 1)))))) := fun o => bAdd_w (by simp; omega)
  have a3 : bAdd (.str (wt (w.take k))) (.str (wt (w.drop (k + 1)))) = some (.v (.d (.str (wt (w.take k ++ w.drop (k + 1)))))) := bAdd_w (by omega)
  have a4 : bAdd (.str (wt (w.take (w.length / 2)))) (.str (wt w)) = some (.v (.d (.str (wt (w.take (w.length / 2) ++ w))))) := bAdd_w (by omega)
  have a5 : bAdd (.str (wt w)) (.str (wt (w.take 1))) = some (.v (.d (.str (wt (w ++ w.take 1))))) := bAdd_w (by omega)
  have a6 : ∀ o : Bool, bAdd (.str (wt (w.take (w.length / 2)))) (.str (wt [o])) = some (.v (.d (.str (wt (w.take (w.length / 2) ++ [o]))))) := fun o => bAdd_w (by simp; omega)
  have a7 : ∀ o : Bool, bAdd (.str (wt (w.take (w.length / 2) ++ [o]))) (.str (wt (w.drop (w.length / 2 + 1)))) = some (.v (.d (.str (wt (w.take (w.length / 2) ++ [o] ++ w.drop (w.length / 2 + 1)))))) := fun o => bAdd_w (by simp; omega)
  have q1 : ("?" : Str) = tx [63] := by decide
  have q2 : ("V" : Str) = tx [86] := by decide
  have a8 : bAdd (.str (wt (w.take k))) (.str "?") = some (.v (.d (.str (tx ((w.take k).map vc ++ [63]))))) := by
    rw [q1]
    exact bAdd_t (by simp; omega)
  have a9 : bAdd (.str (tx ((w.take k).map vc ++ [63]))) (.str (wt (w.drop k))) = some (.v (.d (.str (tx ((w.take k).map vc ++ [63] ++ (w.drop k).map vc))))) := bAdd_t (by simp; omega)
  have a10 : bAdd (.str "V") (.str (wt (w.drop 1))) = some (.v (.d (.str (tx (86 :: (w.drop 1).map vc))))) := by
    rw [q2]
    exact bAdd_t (by simp; omega)
  have hfl : fList [.str (wt w)] = some (.o (.lst (signsD (wt w)))) := by
    have hf : fits (wt w).length = true := fits_le (m := 1000000) (by rw [wt_len]; omega) (by decide)
    simp only [fList, hf, if_true]
  have aL : ∀ xs ys : List D, xs.length = 8 → ys.length = 5 → bAdd (.list xs) (.list ys) = some (.o (.lst (xs ++ ys))) := fun xs ys h1 h2 => by
    have hf : fits (xs.length + ys.length) = true := by rw [h1, h2]; rfl
    simp only [bAdd, hf, if_true]
  have hel : ∀ L : List D, elems (.list L) = some L := fun _ => rfl
  have main : ∀ o : Bool, decide (wt ((w.take (k + 1)).drop k) = "v") = !o → ∃ hh', F__law_right [.ref n, .d (.int (most : Nat))] hh = some (.v (.d (.bool true)), hh') ∧ CupAt hh' n := by
    intro o ho
    have aLL := aL [.str (wt (w.take k ++ [o] ++ w.drop (k + 1))), .str (wt (w.take k ++ w.drop (k + 1))), .str (wt (w.take (w.length / 2) ++ w)), .str (wt w.reverse), .str (wt (w ++ w.take 1)), .str (wt (w.drop (w.length / 2 + 1))), .list (signsD (wt w)), .none]
      [.str (wt (w.take (w.length / 2) ++ [o] ++ w.drop (w.length / 2 + 1))), .str (tx ((w.take k).map vc ++ [63] ++ (w.drop k).map vc)), .tuple [.str (wt w)], .int 0, .str (tx (86 :: (w.drop 1).map vc))] rfl rfl
    generalize hV : ([.str (wt (w.take k ++ [o] ++ w.drop (k + 1))), .str (wt (w.take k ++ w.drop (k + 1))), .str (wt (w.take (w.length / 2) ++ w)), .str (wt w.reverse), .str (wt (w ++ w.take 1)), .str (wt (w.drop (w.length / 2 + 1))), .list (signsD (wt w)), .none] : List D) ++
      [.str (wt (w.take (w.length / 2) ++ [o] ++ w.drop (w.length / 2 + 1))), .str (tx ((w.take k).map vc ++ [63] ++ (w.drop k).map vc)), .tuple [.str (wt w)], .int 0, .str (tx (86 :: (w.drop 1).map vc))] = V at aLL
    have hs : ∀ d, d ∈ V → short d := by
      intro d hd
      rw [← hV] at hd
      have nn : ∀ e : D, (∀ x, e ≠ .str x) → short e := fun e h x q => absurd q (h x)
      simp only [List.cons_append, List.nil_append, List.mem_cons, List.not_mem_nil, or_false] at hd
      rcases hd with h | h | h | h | h | h | h | h | h | h | h | h | h <;> subst h
      · exact short_wt (by simp only [List.length_append, List.length_cons, List.length_nil]; omega)
      · exact short_wt (by simp only [List.length_append]; omega)
      · exact short_wt (by simp only [List.length_append]; omega)
      · exact short_wt (by rw [List.length_reverse]; omega)
      · exact short_wt (by simp only [List.length_append]; omega)
      · exact short_wt (by omega)
      · exact nn _ fun _ => PyData.noConfusion
      · exact nn _ fun _ => PyData.noConfusion
      · exact short_wt (by simp only [List.length_append, List.length_cons, List.length_nil]; omega)
      · exact short_tx (by simp only [List.length_append, List.length_map, List.length_cons, List.length_nil]; omega)
      · exact nn _ fun _ => PyData.noConfusion
      · exact nn _ fun _ => PyData.noConfusion
      · exact short_tx (by simp only [List.length_append, List.length_map, List.length_cons, List.length_nil]; omega)
    have hvl := fun s0 s1 s2 s3 s4 s5 s6 s7 s8 s9 s10 s11 => value_loop s0 s1 s2 s3 s4 s5 s6 s7 s8 s9 s10 h3 V s11 hs
    obtain ⟨st', e10⟩ := hvl (.val (.ref n)) (.val (.d (.int (most : Nat)))) (.val (.d (.str (ft f)))) (.val (.d (.str (wt w)))) (.val (.d pile)) s5' s6' (.val (.d (.int (k : Nat)))) (.val (.d (.int ((w.length / 2 : Nat) : Int)))) (.val (.d (.str (wt [o])))) (.val (.d (.list V))) .un
    refine ⟨h3, ?_, hc3⟩
    cases o with
    | false =>
      have ho : decide (wt ((w.take (k + 1)).drop k) = "v") = true := ho
      simp -implicitDefEqProofs only [mkFn, sSeq, sSet, sSkip, sIf, sRet, sRetV, sExpr, sFz, fzs, fz, sPr, sAsg, sAsgs, evs, tAll, tN, tT, sWhile, sApp, sDput, eIxR, sIxR, fr, eC, eVar, pk, ev, dv, vv, evd, evv, EV.sl, EV.val, EV.data, Ob.d, eTup, eLst, eBin, eUn, eChain, eAnd, eOr, eNot, eIte, bAnd, bOr, bNot, eFn, eCall, eIs, eJoin, eKd, eDict0, eSl, eSl3, pN, pI, iSeq, iZip, iEnu, iArgs, eComp, wipeS, sNo, yes, List.length_cons, List.length_nil, List.map_cons, List.map_nil, List.replicate, List.cons_append, List.nil_append, Option.bind_some, Option.bind_none, Option.map_some, Option.map_none, List.set_cons_succ, List.set_cons_zero, List.getElem?_cons_succ, List.getElem?_cons_zero, Nat.reduceSub, Nat.reduceAdd, Nat.zero_add, if_pos, ite_true, ite_false, reduceIte, eq_self, Bool.false_eq_true, and_self, and_true, true_and, decide_true, decide_false, Bool.not_true, Bool.not_false, F__law_right, c__law_right, e1, e2, e3, e4, e5, e6, e7, e8]
      simp -implicitDefEqProofs only [mkFn, sSeq, sSet, sSkip, sIf, sRet, sRetV, sExpr, sFz, fzs, fz, sPr, sAsg, sAsgs, evs, tAll, tN, tT, sFor, sWhile, sApp, sDput, eIxR, sIxR, fr, eC, eVar, pk, ev, dv, vv, evd, evv, EV.sl, EV.val, EV.data, Ob.d, eTup, eLst, eBin, eUn, eChain, eAnd, eOr, eNot, eIte, bAnd, bOr, bNot, eFn, eCall, eIs, eJoin, eKd, eDict0, eSl, eSl3, pN, pI, iSeq, iRange, iZip, iEnu, iArgs, eComp, wipeS, sNo, yes, List.length_cons, List.length_nil, List.map_cons, List.map_nil, List.replicate, List.cons_append, List.nil_append, Option.bind_some, Option.bind_none, Option.map_some, Option.map_none, List.set_cons_succ, List.set_cons_zero, List.getElem?_cons_succ, List.getElem?_cons_zero, Nat.reduceSub, Nat.reduceAdd, Nat.zero_add, if_pos, ite_true, ite_false, reduceIte, eq_self, Bool.false_eq_true, and_self, and_true, true_and, decide_true, decide_false, Bool.not_true, Bool.not_false, hlen, bAdd_ii, e9, bDiv_ii _ 2 (by decide) (by decide), ed, fInt, ek, eh, slb, bEq_ss, ho, lit_m, slk, slk1, slkf, slh, slh1, sl1, slf1, slr, hn, a1, a2, a3, a4, a5, a6, a7, a8, a9, a10, hfl, aLL, hel, e10]
    | true =>
      have ho : decide (wt ((w.take (k + 1)).drop k) = wt [true]) = false := by rw [← lit_v]; exact ho
      simp -implicitDefEqProofs only [mkFn, sSeq, sSet, sSkip, sIf, sRet, sRetV, sExpr, sFz, fzs, fz, sPr, sAsg, sAsgs, evs, tAll, tN, tT, sWhile, sApp, sDput, eIxR, sIxR, fr, eC, eVar, pk, ev, dv, vv, evd, evv, EV.sl, EV.val, EV.data, Ob.d, eTup, eLst, eBin, eUn, eChain, eAnd, eOr, eNot, eIte, bAnd, bOr, bNot, eFn, eCall, eIs, eJoin, eKd, eDict0, eSl, eSl3, pN, pI, iSeq, iZip, iEnu, iArgs, eComp, wipeS, sNo, yes, List.length_cons, List.length_nil, List.map_cons, List.map_nil, List.replicate, List.cons_append, List.nil_append, Option.bind_some, Option.bind_none, Option.map_some, Option.map_none, List.set_cons_succ, List.set_cons_zero, List.getElem?_cons_succ, List.getElem?_cons_zero, Nat.reduceSub, Nat.reduceAdd, Nat.zero_add, if_pos, ite_true, ite_false, reduceIte, eq_self, Bool.false_eq_true, and_self, and_true, true_and, decide_true, decide_false, Bool.not_true, Bool.not_false, F__law_right, c__law_right, e1, e2, e3, e4, e5, e6, e7, e8]
      simp -implicitDefEqProofs only [mkFn, sSeq, sSet, sSkip, sIf, sRet, sRetV, sExpr, sFz, fzs, fz, sPr, sAsg, sAsgs, evs, tAll, tN, tT, sFor, sWhile, sApp, sDput, eIxR, sIxR, fr, eC, eVar, pk, ev, dv, vv, evd, evv, EV.sl, EV.val, EV.data, Ob.d, eTup, eLst, eBin, eUn, eChain, eAnd, eOr, eNot, eIte, bAnd, bOr, bNot, eFn, eCall, eIs, eJoin, eKd, eDict0, eSl, eSl3, pN, pI, iSeq, iRange, iZip, iEnu, iArgs, eComp, wipeS, sNo, yes, List.length_cons, List.length_nil, List.map_cons, List.map_nil, List.replicate, List.cons_append, List.nil_append, Option.bind_some, Option.bind_none, Option.map_some, Option.map_none, List.set_cons_succ, List.set_cons_zero, List.getElem?_cons_succ, List.getElem?_cons_zero, Nat.reduceSub, Nat.reduceAdd, Nat.zero_add, if_pos, ite_true, ite_false, reduceIte, eq_self, Bool.false_eq_true, and_self, and_true, true_and, decide_true, decide_false, Bool.not_true, Bool.not_false, hlen, bAdd_ii, e9, bDiv_ii _ 2 (by decide) (by decide), ed, fInt, ek, eh, slb, bEq_ss, ho, lit_v, slk, slk1, slkf, slh, slh1, sl1, slf1, slr, hn, a1, a2, a3, a4, a5, a6, a7, a8, a9, a10, hfl, aLL, hel, e10]
  cases hd : decide (wt ((w.take (k + 1)).drop k) = "v") with
  | true => exact main false hd
  | false => exact main true hd
end FF.K41

set_option Elab.async false
set_option linter.all false
set_option maxRecDepth 100000
set_option maxHeartbeats 1000000
set_option autoImplicit false
/-! K41All: the law answers True. -/
namespace FF.K41
open PySem PySem.Spec PyProof.Rows L2 FF.W FF.L
theorem written_right_ok (hh : Hh) : F__law_written_right [] hh = some (.v (.d (.bool true)), hh) := by
  kernel_rfl
theorem law_true (ns : List Int) (hl : ns.length ≤ 63) : ∃ hh', F_law [.d (.list (ns.map fun i => .int i))] [] = some (.v (.d (.bool true)), hh') := by
  obtain ⟨a, b, e0, b0, b1⟩ := cup_ok ns hl []
  have hc0 : CupAt [.lst [.int a, .int b]] 0 := by
    exact ⟨a, b, rfl, b0, b1⟩
  obtain ⟨h1, e1, hc1⟩ := right_ok hc0 (most := 3) (by decide)
  obtain ⟨h2, e2, hc2⟩ := right_ok hc1 (most := 5) (by decide)
  obtain ⟨h3, e3, hc3⟩ := right_ok hc2 (most := 7) (by decide)
  rw [show (((3 : Nat) : Int)) = 3 from rfl] at e1
  rw [show (((5 : Nat) : Int)) = 5 from rfl] at e2
  rw [show (((7 : Nat) : Int)) = 7 from rfl] at e3
  have hel : ∀ L : List D, elems (.tuple L) = some L := fun _ => rfl
  refine ⟨h3, ?_⟩
  simp -implicitDefEqProofs only [mkFn, sSeq, sSet, sSkip, sIf, sRet, sRetV, sExpr, sFz, fzs, fz, sPr, sAsg, sAsgs, evs, tAll, tN, tT, sFor, sWhile, sApp, sDput, eIxR, sIxR, fr, eC, eVar, pk, ev, dv, vv, evd, evv, EV.sl, EV.val, EV.data, Ob.d, eTup, eLst, eBin, eUn, eChain, eAnd, eOr, eNot, eIte, bAnd, bOr, bNot, eFn, eCall, eIs, eJoin, eKd, eDict0, eSl, eSl3, pN, pI, iSeq, iRange, iZip, iEnu, iArgs, eComp, wipeS, sNo, yes, List.length_cons, List.length_nil, List.map_cons, List.map_nil, List.replicate, List.cons_append, List.nil_append, Option.bind_some, Option.bind_none, Option.map_some, Option.map_none, List.set_cons_succ, List.set_cons_zero, List.getElem?_cons_succ, List.getElem?_cons_zero, Nat.reduceSub, Nat.reduceAdd, Nat.zero_add, if_pos, ite_true, ite_false, reduceIte, eq_self, Bool.false_eq_true, and_self, and_true, true_and, decide_true, decide_false, Bool.not_true, Bool.not_false, F_law, c_law, e0, hel, forL, c_law_b0, e1, e2, e3, written_right_ok]
end FF.K41

set_option Elab.async false
set_option linter.all false
set_option maxRecDepth 100000
set_option maxHeartbeats 4000000
set_option autoImplicit false
namespace FF.K41
open PySem PySem.Spec PyProof.Rows L2
def topS (i : Nat) : Stmt := PySem.Challenge.pw_foldsflat_k41_whole_words_of_folds.main.body.getD i (.Pass ⟨0, 0, 0, 0⟩)
abbrev s__law_cup : Stmt := topS 27
theorem sc__law_cup : FnScope ["script", "cell"] ["script"] (defScope s__law_cup) := ⟨rfl, rfl, rfl, by decide +kernel, rfl, by decide +kernel, by decide +kernel⟩
theorem ok__law_cup {P : Program} {w : World} {K : PySem.W.Frag} {mg : Str → Option Value} {base : Heap}  (m_list : mg "list" = none) (m_abs : mg "abs" = none) (m_int : mg "int" = none) (F : ∃ f fd, FunD K "_law_cup" "_law_cup" (defArgs s__law_cup) (defBody s__law_cup) (defScope s__law_cup) [] [] f fd ∧ mg "_law_cup" = some (.ref f)) : FC P w K mg base 1 "_law_cup" 1 F__law_cup := by
  obtain ⟨f, fd, F, hm⟩ := F
  refine fc_of F hm (F.bindsN (ps := ["script"]) fun _ _ _ _ _ _ us hl => match us, hl with | [_], _ => rfl) sc__law_cup rfl fun cdv A outer s H E g O hr => ?_
  exact (ss_cons (s_set 1 sc__law_cup.nd rfl (.inl rfl) (x_fr (x_abs O rfl m_abs (a_consC (pe_c (x_ix O (pe_c (x_bin (o_add O) (pe_c (x_flist O rfl m_list (a_consC (x_pk 0 rfl (.inl rfl) rfl rfl) a_nilC))) (pe_c (x_lst (a_consD (pe_d x_int) a_nilD))))) (pe_c x_int))) a_nilC))) (.inl rfl)) (ss_one (s_ret (x_lst (a_consD (pe_d (x_ite (x_tcmp (o_ge O) (x_pk 1 rfl (.inl rfl) rfl rfl) (pe_c (x_bin o_pow (pe_c x_int) (pe_c x_int))) rfl) (x_bin o_div (x_pk 1 rfl (.inl rfl) rfl rfl) (pe_c x_int)) x_int)) (a_consD (pe_d (x_bin (o_add O) (pe_c (x_bin o_mod (pe_c (x_fint O rfl m_int (a_consC (pe_c (x_bin (o_add O) (pe_c (x_bin (o_mul O) (x_pk 1 rfl (.inl rfl) rfl rfl) (pe_c x_int))) (pe_c x_int))) a_nilC))) (pe_c x_int))) (pe_c x_int))) a_nilD))))))
abbrev s__law_sort : Stmt := topS 30
theorem sc__law_sort : FnScope ["value"] ["value"] (defScope s__law_sort) := ⟨rfl, rfl, rfl, by decide +kernel, rfl, by decide +kernel, by decide +kernel⟩
theorem ok__law_sort {P : Program} {w : World} {K : PySem.W.Frag} {mg : Str → Option Value} {base : Heap}  (m_isinstance : mg "isinstance" = none) (m_bool : mg "bool" = none) (m_int : mg "int" = none) (m_str : mg "str" = none) (m_tuple : mg "tuple" = none) (m_list : mg "list" = none) (F : ∃ f fd, FunD K "_law_sort" "_law_sort" (defArgs s__law_sort) (defBody s__law_sort) (defScope s__law_sort) [] [] f fd ∧ mg "_law_sort" = some (.ref f)) : FC P w K mg base 1 "_law_sort" 1 F__law_sort := by
  obtain ⟨f, fd, F, hm⟩ := F
  refine fc_of F hm (F.bindsN (ps := ["value"]) fun _ _ _ _ _ _ us hl => match us, hl with | [_], _ => rfl) sc__law_sort rfl fun cdv A outer s H E g O hr => ?_
  exact (ss_cons (s_if (t_pw (w_or (x_tcmp o_is (x_pk 0 rfl (.inl rfl) rfl rfl) (pe_c x_non) rfl) (w_or1 (x_test (x_isinst "bool" O rfl m_isinstance rfl m_bool boot_bool_ (x_pk 0 rfl (.inl rfl) rfl rfl) kit_bool))))) (ss_one (s_ret (x_ite (x_tcmp o_is (x_pk 0 rfl (.inl rfl) rfl rfl) (pe_c x_non) rfl) x_int x_int))) ss_nil) (ss_cons (s_if (t_pw (w_or (x_test (x_isinst "int" O rfl m_isinstance rfl m_int boot_int (x_pk 0 rfl (.inl rfl) rfl rfl) kit_int)) (w_or1 (x_test (x_isinst "str" O rfl m_isinstance rfl m_str boot_str (x_pk 0 rfl (.inl rfl) rfl rfl) kit_str))))) (ss_one (s_ret (x_ite (x_test (x_isinst "int" O rfl m_isinstance rfl m_int boot_int (x_pk 0 rfl (.inl rfl) rfl rfl) kit_int)) x_int x_int))) ss_nil) (ss_one (s_ret (x_ite (x_test (x_isinst "tuple" O rfl m_isinstance rfl m_tuple boot_tuple (x_pk 0 rfl (.inl rfl) rfl rfl) kit_tuple)) x_int (x_ite (x_test (x_isinst "list" O rfl m_isinstance rfl m_list boot_list (x_pk 0 rfl (.inl rfl) rfl rfl) kit_list)) x_int x_int))))))
abbrev s__law_like : Stmt := topS 31
theorem sc__law_like : FnScope ["one", "other", "sort", "first", "second"] ["one", "other"] (defScope s__law_like) := ⟨rfl, rfl, rfl, by decide +kernel, rfl, by decide +kernel, by decide +kernel⟩
theorem ok__law_like {P : Program} {w : World} {K : PySem.W.Frag} {mg : Str → Option Value} {base : Heap}  (c__law_sort : FC P w K mg base 1 "_law_sort" 1 F__law_sort) (m_len : mg "len" = none) (m_zip : mg "zip" = none) (F : ∃ f fd, FunD K "_law_like" "_law_like" (defArgs s__law_like) (defBody s__law_like) (defScope s__law_like) [] [] f fd ∧ mg "_law_like" = some (.ref f)) : ∀ j : Nat, FC P w K mg base (j + 1) "_law_like" 2 (F__law_like j)
  | 0 => by
    obtain ⟨f, fd, F, hm⟩ := F
    exact fc_none F hm (F.bindsN (ps := ["one", "other"]) fun _ _ _ _ _ _ us hl => match us, hl with | [_, _], _ => rfl) rfl
  | j + 1 => by
    have c_self := ok__law_like c__law_sort m_len m_zip F j
    obtain ⟨f, fd, F, hm⟩ := F
    refine fc_of F hm (F.bindsN (ps := ["one", "other"]) fun _ _ _ _ _ _ us hl => match us, hl with | [_, _], _ => rfl) sc__law_like rfl fun cdv A outer s H E g O hr => ?_
    exact (ss_cons (s_set 2 sc__law_like.nd rfl (.inl rfl) (x_fr (x_call O c__law_sort (hr.mono (by omega)) rfl (a_consV (pe_v (x_var 1 rfl (.inl rfl) rfl rfl)) a_nilV))) (.inl rfl)) (ss_cons (s_if (t_pw (w_or (x_tcmp (o_ne O) (pe_c (x_call O c__law_sort (hr.mono (by omega)) rfl (a_consV (pe_v (x_var 0 rfl (.inl rfl) rfl rfl)) a_nilV))) (x_pk 2 rfl (.inl rfl) rfl rfl) rfl) (w_or1 (x_tcmp (o_eq O) (x_pk 2 rfl (.inl rfl) rfl rfl) (pe_c x_int) rfl)))) (ss_one (s_ret x_bl)) ss_nil) (ss_cons (s_if (x_tcmp (o_in O) (x_pk 2 rfl (.inl rfl) rfl rfl) (pe_c (x_tup (a_consD (pe_d x_int) (a_consD (pe_d x_int) a_nilD)))) rfl) (ss_one (s_ret (x_and (x_cmp (o_eq O) (pe_c (x_len O rfl m_len (a_consC (x_pk 0 rfl (.inl rfl) rfl rfl) a_nilC))) (pe_c (x_len O rfl m_len (a_consC (x_pk 1 rfl (.inl rfl) rfl rfl) a_nilC))) rfl) (x_one (x_cmp (o_eq O) (pe_c (x_lc (own := [("first", 3), ("second", 4)]) O sc__law_like.nd (x_zip2 O rfl m_zip (a_consD (pe_d (x_var 0 rfl (.inl rfl) rfl rfl)) (a_consD (pe_d (x_var 1 rfl (.inl rfl) rfl rfl)) a_nilD))) (blkOk_by (by kernel_rfl)) (fun _ _ _ _ _ O => (g_tup O (gs_cons (g_name 3 sc__law_like.nd rfl (.inl rfl) (.inr rfl)) (gs_cons (g_name 4 sc__law_like.nd rfl (.inl rfl) (.inr rfl)) gs_nil)))) (fun _ _ _ _ _ O => (ts_one (t_not (x_test (x_call O c_self hr rfl (a_consV (pe_v (x_var 3 rfl (.inl rfl) rfl rfl)) (a_consV (pe_v (x_var 4 rfl (.inl rfl) rfl rfl)) a_nilV))))))) (fun _ _ _ _ _ O => (pe_d x_int)))) (pe_c (x_lst a_nilD)) rfl))))) ss_nil) (ss_one (s_ret (x_cmp (o_eq O) (x_pk 0 rfl (.inl rfl) rfl rfl) (x_pk 1 rfl (.inl rfl) rfl rfl) rfl))))))
abbrev s_levels_in : Stmt := topS 19
theorem sc_levels_in : FnScope ["word", "found", "left", "own", "at", "sign"] ["word"] (defScope s_levels_in) := ⟨rfl, rfl, rfl, by decide +kernel, rfl, by decide +kernel, by decide +kernel⟩
theorem ok_levels_in {P : Program} {w : World} {K : PySem.W.Frag} {mg : Str → Option Value} {base : Heap} {a_OTHER : Addr} (m_enumerate : mg "enumerate" = none) (m_OTHER : mg "OTHER" = some (.ref a_OTHER) ∧ KTab K w a_OTHER t_OTHER) (F : ∃ f fd, FunD K "levels_in" "levels_in" (defArgs s_levels_in) (defBody s_levels_in) (defScope s_levels_in) [] [] f fd ∧ mg "levels_in" = some (.ref f)) : FC P w K mg base 1 "levels_in" 1 F_levels_in := by
  obtain ⟨f, fd, F, hm⟩ := F
  refine fc_of F hm (F.bindsN (ps := ["word"]) fun _ _ _ _ _ _ us hl => match us, hl with | [_], _ => rfl) sc_levels_in rfl fun cdv A outer s H E g O hr => ?_
  exact (ss_cons (s_asg2 1 2 O sc_levels_in.nd rfl rfl (by decide) rfl rfl (a_consE (x_lst a_nilD) (a_consE (x_fr (x_var 0 rfl (.inl rfl) rfl rfl)) a_nilE)) rfl) (ss_cons (s_while 100000 PassesOwn.never (x_tcmp (o_ne O) (x_pk 2 rfl (.inl rfl) rfl rfl) (pe_c x_str) rfl) (ss_cons (s_set 3 sc_levels_in.nd rfl (.inl rfl) (x_fr (x_sl3 O (x_pk 2 rfl (.inl rfl) rfl rfl) part_none part_none x_int)) (.inl rfl)) (ss_cons (s_app 1 O rfl (.inl rfl) rfl rfl (x_join O (pe_c x_str) (pe_c (x_lc (own := [("at", 4), ("sign", 5)]) O sc_levels_in.nd (x_enum O rfl m_enumerate (a_consD (pe_d (x_var 3 rfl (.inl rfl) rfl rfl)) a_nilD)) (blkOk_by (by kernel_rfl)) (fun _ _ _ _ _ O => (g_tup O (gs_cons (g_name 4 sc_levels_in.nd rfl (.inl rfl) (.inr rfl)) (gs_cons (g_name 5 sc_levels_in.nd rfl (.inl rfl) (.inr rfl)) gs_nil)))) (fun _ _ _ _ _ O => ts_nil) (fun _ _ _ _ _ O => (pe_d (x_ite (x_tcmp (o_eq O) (pe_c (x_bin o_mod (x_pk 4 rfl (.inl rfl) rfl rfl) (pe_c x_int))) (pe_c x_int) rfl) (x_var 5 rfl (.inl rfl) rfl rfl) (x_kd rfl m_OTHER.1 m_OTHER.2 (x_pk 5 rfl (.inl rfl) rfl rfl))))))))) (ss_one (s_set 2 sc_levels_in.nd rfl (.inl rfl) (x_fr (x_sl3 O (x_pk 2 rfl (.inl rfl) rfl rfl) (part_some x_int) part_none x_int)) (.inl rfl)))))) (ss_one (s_ret (x_sl3 O (x_pk 1 rfl (.inl rfl) rfl rfl) part_none part_none (x_un o_neg (pe_c x_int)))))))
abbrev s_folds_in : Stmt := topS 20
theorem sc_folds_in : FnScope ["word", "found", "signs"] ["word"] (defScope s_folds_in) := ⟨rfl, rfl, rfl, by decide +kernel, rfl, by decide +kernel, by decide +kernel⟩
theorem ok_folds_in {P : Program} {w : World} {K : PySem.W.Frag} {mg : Str → Option Value} {base : Heap} {a_FOLD : Addr} (c_levels_in : FC P w K mg base 1 "levels_in" 1 F_levels_in) (m_len : mg "len" = none) (m_FOLD : mg "FOLD" = some (.ref a_FOLD) ∧ KTab K w a_FOLD t_FOLD) (F : ∃ f fd, FunD K "folds_in" "folds_in" (defArgs s_folds_in) (defBody s_folds_in) (defScope s_folds_in) [] [] f fd ∧ mg "folds_in" = some (.ref f)) : FC P w K mg base 2 "folds_in" 1 F_folds_in := by
  obtain ⟨f, fd, F, hm⟩ := F
  refine fc_of F hm (F.bindsN (ps := ["word"]) fun _ _ _ _ _ _ us hl => match us, hl with | [_], _ => rfl) sc_folds_in rfl fun cdv A outer s H E g O hr => ?_
  exact (ss_cons (s_set 1 sc_folds_in.nd rfl (.inl rfl) (x_fr x_str) (.inl rfl)) (ss_cons (s_for O PassesOwn.never (x_seq O (x_call O c_levels_in (hr.mono (by decide)) rfl (a_consV (pe_v (x_var 0 rfl (.inl rfl) rfl rfl)) a_nilV))) (g_name 2 sc_folds_in.nd rfl (.inl rfl) (.inl rfl)) (ss_cons (s_if (x_tcmp (o_ne O) (x_pk 2 rfl (.inl rfl) rfl rfl) (pe_c (x_bin (o_mul O) (pe_c (x_ix O (x_pk 2 rfl (.inl rfl) rfl rfl) (pe_c x_int))) (pe_c (x_len O rfl m_len (a_consC (x_pk 2 rfl (.inl rfl) rfl rfl) a_nilC))))) rfl) (ss_one (s_ret x_non)) ss_nil) (ss_one (s_set 1 sc_folds_in.nd rfl (.inl rfl) (x_fr (x_bin (o_add O) (x_pk 1 rfl (.inl rfl) rfl rfl) (pe_c (x_kd rfl m_FOLD.1 m_FOLD.2 (pe_c (x_ix O (x_pk 2 rfl (.inl rfl) rfl rfl) (pe_c x_int))))))) (.inl rfl))))) (ss_one (s_retV 1 rfl (.inl rfl) rfl rfl))))
abbrev s_leaves_in : Stmt := topS 13
theorem sc_leaves_in : FnScope ["many", "found", "turn"] ["many"] (defScope s_leaves_in) := ⟨rfl, rfl, rfl, by decide +kernel, rfl, by decide +kernel, by decide +kernel⟩
theorem ok_leaves_in {P : Program} {w : World} {K : PySem.W.Frag} {mg : Str → Option Value} {base : Heap}  (m_range : mg "range" = none) (F : ∃ f fd, FunD K "leaves_in" "leaves_in" (defArgs s_leaves_in) (defBody s_leaves_in) (defScope s_leaves_in) [] [] f fd ∧ mg "leaves_in" = some (.ref f)) : FC P w K mg base 1 "leaves_in" 1 F_leaves_in := by
  obtain ⟨f, fd, F, hm⟩ := F
  refine fc_of F hm (F.bindsN (ps := ["many"]) fun _ _ _ _ _ _ us hl => match us, hl with | [_], _ => rfl) sc_leaves_in rfl fun cdv A outer s H E g O hr => ?_
  exact (ss_cons (s_set 1 sc_leaves_in.nd rfl (.inl rfl) (x_fr x_int) (.inl rfl)) (ss_cons (s_for O PassesOwn.never (x_range1 rfl m_range (a_consD (pe_d (x_var 0 rfl (.inl rfl) rfl rfl)) a_nilD)) (g_name 2 sc_leaves_in.nd rfl (.inl rfl) (.inl rfl)) (ss_one (s_set 1 sc_leaves_in.nd rfl (.inl rfl) (x_fr (x_bin (o_mul O) (pe_c x_int) (x_pk 1 rfl (.inl rfl) rfl rfl))) (.inl rfl)))) (ss_one (s_retV 1 rfl (.inl rfl) rfl rfl))))
abbrev s_is_size : Stmt := topS 16
theorem sc_is_size : FnScope ["number", "at"] ["number"] (defScope s_is_size) := ⟨rfl, rfl, rfl, by decide +kernel, rfl, by decide +kernel, by decide +kernel⟩
theorem ok_is_size {P : Program} {w : World} {K : PySem.W.Frag} {mg : Str → Option Value} {base : Heap}  (m_FOLDS : ∃ t, mg "FOLDS" = some (.int 12 t)) (m_range : mg "range" = none) (c_leaves_in : FC P w K mg base 1 "leaves_in" 1 F_leaves_in) (F : ∃ f fd, FunD K "is_size" "is_size" (defArgs s_is_size) (defBody s_is_size) (defScope s_is_size) [] [] f fd ∧ mg "is_size" = some (.ref f)) : FC P w K mg base 2 "is_size" 1 F_is_size := by
  obtain ⟨f, fd, F, hm⟩ := F
  refine fc_of F hm (F.bindsN (ps := ["number"]) fun _ _ _ _ _ _ us hl => match us, hl with | [_], _ => rfl) sc_is_size rfl fun cdv A outer s H E g O hr => ?_
  exact (ss_one (s_ret (x_cmp (o_in O) (pe_c (x_bin (o_add O) (x_pk 0 rfl (.inl rfl) rfl rfl) (pe_c x_int))) (pe_c (x_lc (own := [("at", 1)]) O sc_is_size.nd (x_range1 rfl m_range (a_consD (pe_d (x_bin (o_add O) (pe_c (x_gint rfl m_FOLDS)) (pe_c x_int))) a_nilD)) (blkOk_by (by kernel_rfl)) (fun _ _ _ _ _ O => (g_name 1 sc_is_size.nd rfl (.inl rfl) (.inr rfl))) (fun _ _ _ _ _ O => ts_nil) (fun _ _ _ _ _ O => (pe_d (x_call O c_leaves_in (hr.mono (by decide)) rfl (a_consV (pe_v (x_var 1 rfl (.inl rfl) rfl rfl)) a_nilV)))))) rfl)))
abbrev s_is_word_of : Stmt := topS 6
theorem sc_is_word_of : FnScope ["value", "signs", "many", "sign"] ["value", "signs", "many"] (defScope s_is_word_of) := ⟨rfl, rfl, rfl, by decide +kernel, rfl, by decide +kernel, by decide +kernel⟩
theorem ok_is_word_of {P : Program} {w : World} {K : PySem.W.Frag} {mg : Str → Option Value} {base : Heap}  (m_isinstance : mg "isinstance" = none) (m_str : mg "str" = none) (m_len : mg "len" = none) (m_all : mg "all" = none) (F : ∃ f fd, FunD K "is_word_of" "is_word_of" (defArgs s_is_word_of) (defBody s_is_word_of) (defScope s_is_word_of) [] [] f fd ∧ mg "is_word_of" = some (.ref f)) : FC P w K mg base 1 "is_word_of" 3 F_is_word_of := by
  obtain ⟨f, fd, F, hm⟩ := F
  refine fc_of F hm (F.bindsN (ps := ["value", "signs", "many"]) fun _ _ _ _ _ _ us hl => match us, hl with | [_, _, _], _ => rfl) sc_is_word_of rfl fun cdv A outer s H E g O hr => ?_
  exact (ss_one (s_ret (x_and (x_isinst "str" O rfl m_isinstance rfl m_str boot_str (x_pk 0 rfl (.inl rfl) rfl rfl) kit_str) (x_and (x_cmp (o_eq O) (pe_c (x_len O rfl m_len (a_consC (x_pk 0 rfl (.inl rfl) rfl rfl) a_nilC))) (x_pk 2 rfl (.inl rfl) rfl rfl) rfl) (x_one (x_all O rfl m_all (a_consC (pe_c (x_lc (own := [("sign", 3)]) O sc_is_word_of.nd (x_seq O (x_var 0 rfl (.inl rfl) rfl rfl)) (blkOk_by (by kernel_rfl)) (fun _ _ _ _ _ O => (g_name 3 sc_is_word_of.nd rfl (.inl rfl) (.inr rfl))) (fun _ _ _ _ _ O => ts_nil) (fun _ _ _ _ _ O => (pe_d (x_cmp (o_in O) (x_pk 3 rfl (.inl rfl) rfl rfl) (x_pk 1 rfl (.inr (.inl rfl)) rfl rfl) rfl))))) a_nilC)))))))
abbrev s_is_word : Stmt := topS 24
theorem sc_is_word : FnScope ["value"] ["value"] (defScope s_is_word) := ⟨rfl, rfl, rfl, by decide +kernel, rfl, by decide +kernel, by decide +kernel⟩
theorem ok_is_word {P : Program} {w : World} {K : PySem.W.Frag} {mg : Str → Option Value} {base : Heap}  (m_isinstance : mg "isinstance" = none) (m_str : mg "str" = none) (c_is_size : FC P w K mg base 2 "is_size" 1 F_is_size) (m_len : mg "len" = none) (c_is_word_of : FC P w K mg base 1 "is_word_of" 3 F_is_word_of) (c_folds_in : FC P w K mg base 2 "folds_in" 1 F_folds_in) (F : ∃ f fd, FunD K "is_word" "is_word" (defArgs s_is_word) (defBody s_is_word) (defScope s_is_word) [] [] f fd ∧ mg "is_word" = some (.ref f)) : FC P w K mg base 3 "is_word" 1 F_is_word := by
  obtain ⟨f, fd, F, hm⟩ := F
  refine fc_of F hm (F.bindsN (ps := ["value"]) fun _ _ _ _ _ _ us hl => match us, hl with | [_], _ => rfl) sc_is_word rfl fun cdv A outer s H E g O hr => ?_
  exact (ss_cons (s_if (t_pw (w_or (t_not (x_test (x_isinst "str" O rfl m_isinstance rfl m_str boot_str (x_pk 0 rfl (.inl rfl) rfl rfl) kit_str))) (w_or (t_not (x_test (x_call O c_is_size (hr.mono (by decide)) rfl (a_consV (pe_v (x_len O rfl m_len (a_consC (x_pk 0 rfl (.inl rfl) rfl rfl) a_nilC))) a_nilV)))) (w_or1 (t_not (x_test (x_call O c_is_word_of (hr.mono (by decide)) rfl (a_consV (pe_v (x_var 0 rfl (.inl rfl) rfl rfl)) (a_consV (pe_v x_str) (a_consV (pe_v (x_len O rfl m_len (a_consC (x_pk 0 rfl (.inl rfl) rfl rfl) a_nilC))) a_nilV)))))))))) (ss_one (s_ret x_bl)) ss_nil) (ss_one (s_ret (x_cmp o_isNot (pe_c (x_call O c_folds_in (hr.mono (by decide)) rfl (a_consV (pe_v (x_var 0 rfl (.inl rfl) rfl rfl)) a_nilV))) (pe_c x_non) rfl))))
abbrev s_fits_folds : Stmt := topS 14
theorem sc_fits_folds : FnScope ["value"] ["value"] (defScope s_fits_folds) := ⟨rfl, rfl, rfl, by decide +kernel, rfl, by decide +kernel, by decide +kernel⟩
theorem ok_fits_folds {P : Program} {w : World} {K : PySem.W.Frag} {mg : Str → Option Value} {base : Heap}  (m_isinstance : mg "isinstance" = none) (m_str : mg "str" = none) (m_len : mg "len" = none) (m_FOLDS : ∃ t, mg "FOLDS" = some (.int 12 t)) (c_is_word_of : FC P w K mg base 1 "is_word_of" 3 F_is_word_of) (m_SIGNS : ∃ t, mg "SIGNS" = some (.str "ou" t)) (F : ∃ f fd, FunD K "fits_folds" "fits_folds" (defArgs s_fits_folds) (defBody s_fits_folds) (defScope s_fits_folds) [] [] f fd ∧ mg "fits_folds" = some (.ref f)) : FC P w K mg base 2 "fits_folds" 1 F_fits_folds := by
  obtain ⟨f, fd, F, hm⟩ := F
  refine fc_of F hm (F.bindsN (ps := ["value"]) fun _ _ _ _ _ _ us hl => match us, hl with | [_], _ => rfl) sc_fits_folds rfl fun cdv A outer s H E g O hr => ?_
  exact (ss_one (s_ret (x_and (x_isinst "str" O rfl m_isinstance rfl m_str boot_str (x_pk 0 rfl (.inl rfl) rfl rfl) kit_str) (x_and (x_cmp (o_le O) (pe_c (x_len O rfl m_len (a_consC (x_pk 0 rfl (.inl rfl) rfl rfl) a_nilC))) (pe_c (x_gint rfl m_FOLDS)) rfl) (x_one (x_call O c_is_word_of (hr.mono (by decide)) rfl (a_consV (pe_v (x_var 0 rfl (.inl rfl) rfl rfl)) (a_consV (pe_v (x_gstr rfl m_SIGNS)) (a_consV (pe_v (x_len O rfl m_len (a_consC (x_pk 0 rfl (.inl rfl) rfl rfl) a_nilC))) a_nilV)))))))))
abbrev s_need_folds : Stmt := topS 15
theorem sc_need_folds : FnScope ["value"] ["value"] (defScope s_need_folds) := ⟨rfl, rfl, rfl, by decide +kernel, rfl, by decide +kernel, by decide +kernel⟩
theorem ok_need_folds {P : Program} {w : World} {K : PySem.W.Frag} {mg : Str → Option Value} {base : Heap}  (c_fits_folds : FC P w K mg base 2 "fits_folds" 1 F_fits_folds) (F : ∃ f fd, FunD K "need_folds" "need_folds" (defArgs s_need_folds) (defBody s_need_folds) (defScope s_need_folds) [] [] f fd ∧ mg "need_folds" = some (.ref f)) : FC P w K mg base 3 "need_folds" 1 F_need_folds := by
  obtain ⟨f, fd, F, hm⟩ := F
  refine fc_of F hm (F.bindsN (ps := ["value"]) fun _ _ _ _ _ _ us hl => match us, hl with | [_], _ => rfl) sc_need_folds rfl fun cdv A outer s H E g O hr => ?_
  exact (ss_one (s_if (t_not (x_test (x_call O c_fits_folds (hr.mono (by decide)) rfl (a_consV (pe_v (x_var 0 rfl (.inl rfl) rfl rfl)) a_nilV)))) (ss_one s_no) ss_nil))
abbrev s_sign_in : Stmt := topS 17
theorem sc_sign_in : FnScope ["folds", "crease", "fold", "half", "mark"] ["folds", "crease"] (defScope s_sign_in) := ⟨rfl, rfl, rfl, by decide +kernel, rfl, by decide +kernel, by decide +kernel⟩
theorem ok_sign_in {P : Program} {w : World} {K : PySem.W.Frag} {mg : Str → Option Value} {base : Heap} {a_MARK : Addr} {a_OTHER : Addr} (m_len : mg "len" = none) (m_MARK : mg "MARK" = some (.ref a_MARK) ∧ KTab K w a_MARK t_MARK) (m_OTHER : mg "OTHER" = some (.ref a_OTHER) ∧ KTab K w a_OTHER t_OTHER) (F : ∃ f fd, FunD K "sign_in" "sign_in" (defArgs s_sign_in) (defBody s_sign_in) (defScope s_sign_in) [] [] f fd ∧ mg "sign_in" = some (.ref f)) : FC P w K mg base 1 "sign_in" 2 F_sign_in := by
  obtain ⟨f, fd, F, hm⟩ := F
  refine fc_of F hm (F.bindsN (ps := ["folds", "crease"]) fun _ _ _ _ _ _ us hl => match us, hl with | [_, _], _ => rfl) sc_sign_in rfl fun cdv A outer s H E g O hr => ?_
  exact (ss_cons (s_asg2 2 3 O sc_sign_in.nd rfl rfl (by decide) rfl rfl (a_consE (x_fr (x_bin o_sub (pe_c (x_len O rfl m_len (a_consC (x_pk 0 rfl (.inl rfl) rfl rfl) a_nilC))) (pe_c x_int))) (a_consE (x_fr (x_var 1 rfl (.inl rfl) rfl rfl)) a_nilE)) rfl) (ss_cons (s_while 100000 PassesOwn.never (x_tcmp (o_eq O) (pe_c (x_bin o_mod (x_pk 3 rfl (.inl rfl) rfl rfl) (pe_c x_int))) (pe_c x_int) rfl) (ss_one (s_asg2 2 3 O sc_sign_in.nd rfl rfl (by decide) rfl rfl (a_consE (x_fr (x_bin o_sub (x_pk 2 rfl (.inl rfl) rfl rfl) (pe_c x_int))) (a_consE (x_fr (x_bin o_div (x_pk 3 rfl (.inl rfl) rfl rfl) (pe_c x_int))) a_nilE)) rfl))) (ss_cons (s_set 4 sc_sign_in.nd rfl (.inl rfl) (x_fr (x_kd rfl m_MARK.1 m_MARK.2 (pe_c (x_ix O (x_pk 0 rfl (.inl rfl) rfl rfl) (x_pk 2 rfl (.inl rfl) rfl rfl))))) (.inl rfl)) (ss_one (s_ret (x_ite (x_tcmp (o_eq O) (pe_c (x_bin o_mod (x_pk 3 rfl (.inl rfl) rfl rfl) (pe_c x_int))) (pe_c x_int) rfl) (x_var 4 rfl (.inl rfl) rfl rfl) (x_kd rfl m_OTHER.1 m_OTHER.2 (x_pk 4 rfl (.inl rfl) rfl rfl))))))))
abbrev s_word_in : Stmt := topS 18
theorem sc_word_in : FnScope ["folds", "crease"] ["folds"] (defScope s_word_in) := ⟨rfl, rfl, rfl, by decide +kernel, rfl, by decide +kernel, by decide +kernel⟩
theorem ok_word_in {P : Program} {w : World} {K : PySem.W.Frag} {mg : Str → Option Value} {base : Heap}  (c_leaves_in : FC P w K mg base 1 "leaves_in" 1 F_leaves_in) (m_len : mg "len" = none) (m_range : mg "range" = none) (c_sign_in : FC P w K mg base 1 "sign_in" 2 F_sign_in) (F : ∃ f fd, FunD K "word_in" "word_in" (defArgs s_word_in) (defBody s_word_in) (defScope s_word_in) [] [] f fd ∧ mg "word_in" = some (.ref f)) : FC P w K mg base 2 "word_in" 1 F_word_in := by
  obtain ⟨f, fd, F, hm⟩ := F
  refine fc_of F hm (F.bindsN (ps := ["folds"]) fun _ _ _ _ _ _ us hl => match us, hl with | [_], _ => rfl) sc_word_in rfl fun cdv A outer s H E g O hr => ?_
  exact (ss_one (s_ret (x_join O (pe_c x_str) (pe_c (x_lc (own := [("crease", 1)]) O sc_word_in.nd (x_range2 rfl m_range (a_consD (pe_d x_int) (a_consD (pe_d (x_call O c_leaves_in (hr.mono (by decide)) rfl (a_consV (pe_v (x_len O rfl m_len (a_consC (x_pk 0 rfl (.inr (.inl rfl)) rfl rfl) a_nilC))) a_nilV))) a_nilD))) (blkOk_by (by kernel_rfl)) (fun _ _ _ _ _ O => (g_name 1 sc_word_in.nd rfl (.inl rfl) (.inr rfl))) (fun _ _ _ _ _ O => ts_nil) (fun _ _ _ _ _ O => (pe_d (x_call O c_sign_in (hr.mono (by decide)) rfl (a_consV (pe_v (x_var 0 rfl (.inr (.inl rfl)) rfl rfl)) (a_consV (pe_v (x_var 1 rfl (.inl rfl) rfl rfl)) a_nilV))))))))))
abbrev s_word_of : Stmt := topS 22
theorem sc_word_of : FnScope ["folds"] ["folds"] (defScope s_word_of) := ⟨rfl, rfl, rfl, by decide +kernel, rfl, by decide +kernel, by decide +kernel⟩
theorem ok_word_of {P : Program} {w : World} {K : PySem.W.Frag} {mg : Str → Option Value} {base : Heap}  (c_need_folds : FC P w K mg base 3 "need_folds" 1 F_need_folds) (c_word_in : FC P w K mg base 2 "word_in" 1 F_word_in) (F : ∃ f fd, FunD K "word_of" "word_of" (defArgs s_word_of) (defBody s_word_of) (defScope s_word_of) [] [] f fd ∧ mg "word_of" = some (.ref f)) : FC P w K mg base 4 "word_of" 1 F_word_of := by
  obtain ⟨f, fd, F, hm⟩ := F
  refine fc_of F hm (F.bindsN (ps := ["folds"]) fun _ _ _ _ _ _ us hl => match us, hl with | [_], _ => rfl) sc_word_of rfl fun cdv A outer s H E g O hr => ?_
  exact (ss_cons (s_expr (x_call O c_need_folds (hr.mono (by decide)) rfl (a_consV (pe_v (x_var 0 rfl (.inl rfl) rfl rfl)) a_nilV))) (ss_one (s_ret (x_call O c_word_in (hr.mono (by decide)) rfl (a_consV (pe_v (x_var 0 rfl (.inl rfl) rfl rfl)) a_nilV)))))
abbrev s_folds_of : Stmt := topS 25
theorem sc_folds_of : FnScope ["word"] ["word"] (defScope s_folds_of) := ⟨rfl, rfl, rfl, by decide +kernel, rfl, by decide +kernel, by decide +kernel⟩
theorem ok_folds_of {P : Program} {w : World} {K : PySem.W.Frag} {mg : Str → Option Value} {base : Heap}  (c_is_word : FC P w K mg base 3 "is_word" 1 F_is_word) (c_folds_in : FC P w K mg base 2 "folds_in" 1 F_folds_in) (F : ∃ f fd, FunD K "folds_of" "folds_of" (defArgs s_folds_of) (defBody s_folds_of) (defScope s_folds_of) [] [] f fd ∧ mg "folds_of" = some (.ref f)) : FC P w K mg base 4 "folds_of" 1 F_folds_of := by
  obtain ⟨f, fd, F, hm⟩ := F
  refine fc_of F hm (F.bindsN (ps := ["word"]) fun _ _ _ _ _ _ us hl => match us, hl with | [_], _ => rfl) sc_folds_of rfl fun cdv A outer s H E g O hr => ?_
  exact (ss_cons (s_if (t_not (x_test (x_call O c_is_word (hr.mono (by decide)) rfl (a_consV (pe_v (x_var 0 rfl (.inl rfl) rfl rfl)) a_nilV)))) (ss_one s_no) ss_nil) (ss_one (s_ret (x_call O c_folds_in (hr.mono (by decide)) rfl (a_consV (pe_v (x_var 0 rfl (.inl rfl) rfl rfl)) a_nilV)))))
abbrev s_is_folds : Stmt := topS 21
theorem sc_is_folds : FnScope ["value"] ["value"] (defScope s_is_folds) := ⟨rfl, rfl, rfl, by decide +kernel, rfl, by decide +kernel, by decide +kernel⟩
theorem ok_is_folds {P : Program} {w : World} {K : PySem.W.Frag} {mg : Str → Option Value} {base : Heap}  (c_fits_folds : FC P w K mg base 2 "fits_folds" 1 F_fits_folds) (F : ∃ f fd, FunD K "is_folds" "is_folds" (defArgs s_is_folds) (defBody s_is_folds) (defScope s_is_folds) [] [] f fd ∧ mg "is_folds" = some (.ref f)) : FC P w K mg base 3 "is_folds" 1 F_is_folds := by
  obtain ⟨f, fd, F, hm⟩ := F
  refine fc_of F hm (F.bindsN (ps := ["value"]) fun _ _ _ _ _ _ us hl => match us, hl with | [_], _ => rfl) sc_is_folds rfl fun cdv A outer s H E g O hr => ?_
  exact (ss_one (s_ret (x_call O c_fits_folds (hr.mono (by decide)) rfl (a_consV (pe_v (x_var 0 rfl (.inl rfl) rfl rfl)) a_nilV))))
abbrev s__law_written_right : Stmt := topS 36
theorem sc__law_written_right : FnScope ["rows", "values", "folds", "word", "value"] [] (defScope s__law_written_right) := ⟨rfl, rfl, rfl, by decide +kernel, rfl, by decide +kernel, by decide +kernel⟩
theorem ok__law_written_right {P : Program} {w : World} {K : PySem.W.Frag} {mg : Str → Option Value} {base : Heap}  (c__law_like : FC P w K mg base 14 "_law_like" 2 (F__law_like 12)) (c_word_of : FC P w K mg base 4 "word_of" 1 F_word_of) (c_folds_of : FC P w K mg base 4 "folds_of" 1 F_folds_of) (c_is_folds : FC P w K mg base 3 "is_folds" 1 F_is_folds) (c_is_word : FC P w K mg base 3 "is_word" 1 F_is_word) (F : ∃ f fd, FunD K "_law_written_right" "_law_written_right" (defArgs s__law_written_right) (defBody s__law_written_right) (defScope s__law_written_right) [] [] f fd ∧ mg "_law_written_right" = some (.ref f)) : FC P w K mg base 15 "_law_written_right" 0 F__law_written_right := by
  obtain ⟨f, fd, F, hm⟩ := F
  refine fc_of F hm (F.bindsN (ps := []) fun _ _ _ _ _ _ us hl => match us, hl with | [], _ => rfl) sc__law_written_right rfl fun cdv A outer s H E g O hr => ?_
  exact (ss_cons (s_set 0 sc__law_written_right.nd rfl (.inl rfl) (x_fr (x_lst (a_consD (pe_d (x_tup (a_consD (pe_d x_str) (a_consD (pe_d x_str) a_nilD)))) (a_consD (pe_d (x_tup (a_consD (pe_d x_str) (a_consD (pe_d x_str) a_nilD)))) (a_consD (pe_d (x_tup (a_consD (pe_d x_str) (a_consD (pe_d x_str) a_nilD)))) (a_consD (pe_d (x_tup (a_consD (pe_d x_str) (a_consD (pe_d x_str) a_nilD)))) (a_consD (pe_d (x_tup (a_consD (pe_d x_str) (a_consD (pe_d x_str) a_nilD)))) (a_consD (pe_d (x_tup (a_consD (pe_d x_str) (a_consD (pe_d x_str) a_nilD)))) (a_consD (pe_d (x_tup (a_consD (pe_d x_str) (a_consD (pe_d x_str) a_nilD)))) (a_consD (pe_d (x_tup (a_consD (pe_d x_str) (a_consD (pe_d x_str) a_nilD)))) (a_consD (pe_d (x_tup (a_consD (pe_d x_str) (a_consD (pe_d x_str) a_nilD)))) (a_consD (pe_d (x_tup (a_consD (pe_d x_str) (a_consD (pe_d x_str) a_nilD)))) a_nilD)))))))))))) (.inl rfl)) (ss_cons (s_if (t_not (x_test (x_call O c__law_like (hr.mono (by decide)) rfl (a_consV (pe_v (x_lc (own := [("folds", 2), ("word", 3)]) O sc__law_written_right.nd (x_seq O (x_var 0 rfl (.inl rfl) rfl rfl)) (blkOk_by (by kernel_rfl)) (fun _ _ _ _ _ O => (g_tup O (gs_cons (g_name 2 sc__law_written_right.nd rfl (.inl rfl) (.inr rfl)) (gs_cons (g_name 3 sc__law_written_right.nd rfl (.inl rfl) (.inr rfl)) gs_nil)))) (fun _ _ _ _ _ O => ts_nil) (fun _ _ _ _ _ O => (pe_d (x_call O c_word_of (hr.mono (by decide)) rfl (a_consV (pe_v (x_var 2 rfl (.inl rfl) rfl rfl)) a_nilV)))))) (a_consV (pe_v (x_lc (own := [("folds", 2), ("word", 3)]) O sc__law_written_right.nd (x_seq O (x_var 0 rfl (.inl rfl) rfl rfl)) (blkOk_by (by kernel_rfl)) (fun _ _ _ _ _ O => (g_tup O (gs_cons (g_name 2 sc__law_written_right.nd rfl (.inl rfl) (.inr rfl)) (gs_cons (g_name 3 sc__law_written_right.nd rfl (.inl rfl) (.inr rfl)) gs_nil)))) (fun _ _ _ _ _ O => ts_nil) (fun _ _ _ _ _ O => (pe_d (x_var 3 rfl (.inl rfl) rfl rfl))))) a_nilV))))) (ss_one (s_ret x_bl)) ss_nil) (ss_cons (s_if (t_not (x_test (x_call O c__law_like (hr.mono (by decide)) rfl (a_consV (pe_v (x_lc (own := [("folds", 2), ("word", 3)]) O sc__law_written_right.nd (x_seq O (x_var 0 rfl (.inl rfl) rfl rfl)) (blkOk_by (by kernel_rfl)) (fun _ _ _ _ _ O => (g_tup O (gs_cons (g_name 2 sc__law_written_right.nd rfl (.inl rfl) (.inr rfl)) (gs_cons (g_name 3 sc__law_written_right.nd rfl (.inl rfl) (.inr rfl)) gs_nil)))) (fun _ _ _ _ _ O => ts_nil) (fun _ _ _ _ _ O => (pe_d (x_call O c_folds_of (hr.mono (by decide)) rfl (a_consV (pe_v (x_var 3 rfl (.inl rfl) rfl rfl)) a_nilV)))))) (a_consV (pe_v (x_lc (own := [("folds", 2), ("word", 3)]) O sc__law_written_right.nd (x_seq O (x_var 0 rfl (.inl rfl) rfl rfl)) (blkOk_by (by kernel_rfl)) (fun _ _ _ _ _ O => (g_tup O (gs_cons (g_name 2 sc__law_written_right.nd rfl (.inl rfl) (.inr rfl)) (gs_cons (g_name 3 sc__law_written_right.nd rfl (.inl rfl) (.inr rfl)) gs_nil)))) (fun _ _ _ _ _ O => ts_nil) (fun _ _ _ _ _ O => (pe_d (x_var 2 rfl (.inl rfl) rfl rfl))))) a_nilV))))) (ss_one (s_ret x_bl)) ss_nil) (ss_cons (s_set 1 sc__law_written_right.nd rfl (.inl rfl) (x_fr (x_lst (a_consD (pe_d (x_bin (o_mul O) (pe_c x_str) (pe_c x_int))) (a_consD (pe_d (x_bin (o_add O) (pe_c (x_bin (o_mul O) (pe_c x_str) (pe_c x_int))) (pe_c x_str))) (a_consD (pe_d x_str) (a_consD (pe_d x_str) (a_consD (pe_d x_str) (a_consD (pe_d x_non) (a_consD (pe_d x_int) (a_consD (pe_d (x_tup (a_consD (pe_d x_str) a_nilD))) (a_consD (pe_d (x_lst (a_consD (pe_d x_str) a_nilD))) (a_consD (pe_d x_str) a_nilD)))))))))))) (.inl rfl)) (ss_cons (s_if (t_not (x_test (x_call O c__law_like (hr.mono (by decide)) rfl (a_consV (pe_v (x_lc (own := [("value", 4)]) O sc__law_written_right.nd (x_seq O (x_var 1 rfl (.inl rfl) rfl rfl)) (blkOk_by (by kernel_rfl)) (fun _ _ _ _ _ O => (g_name 4 sc__law_written_right.nd rfl (.inl rfl) (.inr rfl))) (fun _ _ _ _ _ O => ts_nil) (fun _ _ _ _ _ O => (pe_d (x_call O c_is_folds (hr.mono (by decide)) rfl (a_consV (pe_v (x_var 4 rfl (.inl rfl) rfl rfl)) a_nilV)))))) (a_consV (pe_v (x_bin (o_add O) (pe_c (x_bin (o_add O) (pe_c (x_lst (a_consD (pe_d x_bl) a_nilD))) (pe_c (x_bin (o_mul O) (pe_c (x_lst (a_consD (pe_d x_bl) a_nilD))) (pe_c x_int))))) (pe_c (x_lst (a_consD (pe_d x_bl) a_nilD))))) a_nilV))))) (ss_one (s_ret x_bl)) ss_nil) (ss_cons (s_set 1 sc__law_written_right.nd rfl (.inl rfl) (x_fr (x_lst (a_consD (pe_d x_str) (a_consD (pe_d x_str) (a_consD (pe_d x_str) (a_consD (pe_d x_str) (a_consD (pe_d x_str) (a_consD (pe_d x_str) (a_consD (pe_d x_str) (a_consD (pe_d x_str) (a_consD (pe_d x_str) (a_consD (pe_d x_str) (a_consD (pe_d x_str) a_nilD))))))))))))) (.inl rfl)) (ss_one (s_ret (x_call O c__law_like (hr.mono (by decide)) rfl (a_consV (pe_v (x_lc (own := [("value", 4)]) O sc__law_written_right.nd (x_seq O (x_var 1 rfl (.inl rfl) rfl rfl)) (blkOk_by (by kernel_rfl)) (fun _ _ _ _ _ O => (g_name 4 sc__law_written_right.nd rfl (.inl rfl) (.inr rfl))) (fun _ _ _ _ _ O => ts_nil) (fun _ _ _ _ _ O => (pe_d (x_call O c_is_word (hr.mono (by decide)) rfl (a_consV (pe_v (x_var 4 rfl (.inl rfl) rfl rfl)) a_nilV)))))) (a_consV (pe_v (x_lst (a_consD (pe_d x_bl) (a_consD (pe_d x_bl) (a_consD (pe_d x_bl) (a_consD (pe_d x_bl) (a_consD (pe_d x_bl) (a_consD (pe_d x_bl) (a_consD (pe_d x_bl) (a_consD (pe_d x_bl) (a_consD (pe_d x_bl) (a_consD (pe_d x_bl) (a_consD (pe_d x_bl) a_nilD))))))))))))) a_nilV)))))))))))
abbrev s__law_roll : Stmt := topS 28
theorem sc__law_roll : FnScope ["cup", "many", "found", "deep"] ["cup", "many"] (defScope s__law_roll) := ⟨rfl, rfl, rfl, by decide +kernel, rfl, by decide +kernel, by decide +kernel⟩
theorem ok__law_roll {P : Program} {w : World} {K : PySem.W.Frag} {mg : Str → Option Value} {base : Heap}  (m_int : mg "int" = none) (F : ∃ f fd, FunD K "_law_roll" "_law_roll" (defArgs s__law_roll) (defBody s__law_roll) (defScope s__law_roll) [] [] f fd ∧ mg "_law_roll" = some (.ref f)) : FC P w K mg base 1 "_law_roll" 2 F__law_roll := by
  obtain ⟨f, fd, F, hm⟩ := F
  refine fc_of F hm (F.bindsN (ps := ["cup", "many"]) fun _ _ _ _ _ _ us hl => match us, hl with | [_, _], _ => rfl) sc__law_roll rfl fun cdv A outer s H E g O hr => ?_
  exact (ss_cons (s_if (x_tcmp (o_gt O) (pe_c (x_ixR 0 O rfl (.inl rfl) rfl rfl x_int)) (pe_c x_int) rfl) (ss_cons (s_set 2 sc__law_roll.nd rfl (.inl rfl) (x_fr (x_bin o_mod (pe_c (x_fint O rfl m_int (a_consC (pe_c (x_ixR 0 O rfl (.inl rfl) rfl rfl x_int)) a_nilC))) (x_pk 1 rfl (.inl rfl) rfl rfl))) (.inl rfl)) (ss_cons (s_ixR 0 O rfl (.inl rfl) rfl rfl x_int (x_bin o_div (pe_c (x_ixR 0 O rfl (.inl rfl) rfl rfl x_int)) (x_pk 1 rfl (.inl rfl) rfl rfl))) (ss_one (s_retV 2 rfl (.inl rfl) rfl rfl)))) ss_nil) (ss_cons (s_ixR 0 O rfl (.inl rfl) rfl rfl x_int (x_bin o_mod (pe_c (x_fint O rfl m_int (a_consC (pe_c (x_bin (o_add O) (pe_c (x_bin (o_mul O) (pe_c (x_ixR 0 O rfl (.inl rfl) rfl rfl x_int)) (pe_c x_int))) (pe_c x_int))) a_nilC))) (pe_c x_int))) (ss_cons (s_set 3 sc__law_roll.nd rfl (.inl rfl) (x_fr (x_bin o_mod (pe_c (x_fint O rfl m_int (a_consC (pe_c (x_bin (o_mul O) (pe_c (x_ixR 0 O rfl (.inl rfl) rfl rfl x_int)) (pe_c (x_bin (o_add O) (pe_c (x_ixR 0 O rfl (.inl rfl) rfl rfl x_int)) (pe_c x_int))))) a_nilC))) (pe_c x_int))) (.inl rfl)) (ss_one (s_ret (x_bin o_mod (pe_c (x_fint O rfl m_int (a_consC (pe_c (x_bin o_div (x_pk 3 rfl (.inl rfl) rfl rfl) (pe_c x_int))) a_nilC))) (x_pk 1 rfl (.inl rfl) rfl rfl)))))))
abbrev s__law_some : Stmt := topS 29
theorem sc__law_some : FnScope ["cup", "things"] ["cup", "things"] (defScope s__law_some) := ⟨rfl, rfl, rfl, by decide +kernel, rfl, by decide +kernel, by decide +kernel⟩
theorem ok__law_some {P : Program} {w : World} {K : PySem.W.Frag} {mg : Str → Option Value} {base : Heap}  (c__law_roll : FC P w K mg base 1 "_law_roll" 2 F__law_roll) (m_len : mg "len" = none) (F : ∃ f fd, FunD K "_law_some" "_law_some" (defArgs s__law_some) (defBody s__law_some) (defScope s__law_some) [] [] f fd ∧ mg "_law_some" = some (.ref f)) : FC P w K mg base 2 "_law_some" 2 F__law_some := by
  obtain ⟨f, fd, F, hm⟩ := F
  refine fc_of F hm (F.bindsN (ps := ["cup", "things"]) fun _ _ _ _ _ _ us hl => match us, hl with | [_, _], _ => rfl) sc__law_some rfl fun cdv A outer s H E g O hr => ?_
  exact (ss_one (s_ret (x_ix O (x_pk 1 rfl (.inl rfl) rfl rfl) (pe_c (x_call O c__law_roll (hr.mono (by decide)) rfl (a_consV (pe_v (x_var 0 rfl (.inl rfl) rfl rfl)) (a_consV (pe_v (x_len O rfl m_len (a_consC (x_pk 1 rfl (.inl rfl) rfl rfl) a_nilC))) a_nilV)))))))
abbrev s__law_folds : Stmt := topS 32
theorem sc__law_folds : FnScope ["cup", "most", "found", "turn"] ["cup", "most"] (defScope s__law_folds) := ⟨rfl, rfl, rfl, by decide +kernel, rfl, by decide +kernel, by decide +kernel⟩
theorem ok__law_folds {P : Program} {w : World} {K : PySem.W.Frag} {mg : Str → Option Value} {base : Heap}  (c__law_roll : FC P w K mg base 1 "_law_roll" 2 F__law_roll) (m_range : mg "range" = none) (c__law_some : FC P w K mg base 2 "_law_some" 2 F__law_some) (F : ∃ f fd, FunD K "_law_folds" "_law_folds" (defArgs s__law_folds) (defBody s__law_folds) (defScope s__law_folds) [] [] f fd ∧ mg "_law_folds" = some (.ref f)) : FC P w K mg base 3 "_law_folds" 2 F__law_folds := by
  obtain ⟨f, fd, F, hm⟩ := F
  refine fc_of F hm (F.bindsN (ps := ["cup", "most"]) fun _ _ _ _ _ _ us hl => match us, hl with | [_, _], _ => rfl) sc__law_folds rfl fun cdv A outer s H E g O hr => ?_
  exact (ss_cons (s_set 2 sc__law_folds.nd rfl (.inl rfl) (x_fr x_str) (.inl rfl)) (ss_cons (s_for O PassesOwn.never (x_range1 rfl m_range (a_consD (pe_d (x_call O c__law_roll (hr.mono (by decide)) rfl (a_consV (pe_v (x_var 0 rfl (.inl rfl) rfl rfl)) (a_consV (pe_v (x_bin (o_add O) (x_pk 1 rfl (.inl rfl) rfl rfl) (pe_c x_int))) a_nilV)))) a_nilD)) (g_name 3 sc__law_folds.nd rfl (.inl rfl) (.inl rfl)) (ss_one (s_set 2 sc__law_folds.nd rfl (.inl rfl) (x_fr (x_bin (o_add O) (x_pk 2 rfl (.inl rfl) rfl rfl) (pe_c (x_call O c__law_some (hr.mono (by decide)) rfl (a_consV (pe_v (x_var 0 rfl (.inl rfl) rfl rfl)) (a_consV (pe_v (x_lst (a_consD (pe_d x_str) (a_consD (pe_d x_str) a_nilD)))) a_nilV)))))) (.inl rfl)))) (ss_one (s_retV 2 rfl (.inl rfl) rfl rfl))))
abbrev s__law_paper : Stmt := topS 33
theorem sc__law_paper : FnScope ["folds", "many", "fold", "columns", "signs", "half", "one", "other", "laid", "at", "over", "leaf", "up", "crease"] ["folds"] (defScope s__law_paper) := ⟨rfl, rfl, rfl, by decide +kernel, rfl, by decide +kernel, by decide +kernel⟩
theorem ok__law_paper {P : Program} {w : World} {K : PySem.W.Frag} {mg : Str → Option Value} {base : Heap}  (m_range : mg "range" = none) (m_len : mg "len" = none) (m_int : mg "int" = none) (m_zip : mg "zip" = none) (m_abs : mg "abs" = none) (m_min : mg "min" = none) (m_tuple : mg "tuple" = none) (F : ∃ f fd, FunD K "_law_paper" "_law_paper" (defArgs s__law_paper) (defBody s__law_paper) (defScope s__law_paper) [] [] f fd ∧ mg "_law_paper" = some (.ref f)) : FC P w K mg base 1 "_law_paper" 1 F__law_paper := by
  obtain ⟨f, fd, F, hm⟩ := F
  refine fc_of F hm (F.bindsN (ps := ["folds"]) fun _ _ _ _ _ _ us hl => match us, hl with | [_], _ => rfl) sc__law_paper rfl fun cdv A outer s H E g O hr => ?_
  exact (ss_cons (s_set 1 sc__law_paper.nd rfl (.inl rfl) (x_fr x_int) (.inl rfl)) (ss_cons (s_for O PassesOwn.never (x_seq O (x_var 0 rfl (.inl rfl) rfl rfl)) (g_name 2 sc__law_paper.nd rfl (.inl rfl) (.inl rfl)) (ss_one (s_set 1 sc__law_paper.nd rfl (.inl rfl) (x_fr (x_bin (o_mul O) (pe_c x_int) (x_pk 1 rfl (.inl rfl) rfl rfl))) (.inl rfl)))) (ss_cons (s_asgT O (a_consE (x_fr (x_lc (own := [("leaf", 11)]) O sc__law_paper.nd (x_range1 rfl m_range (a_consD (pe_d (x_var 1 rfl (.inl rfl) rfl rfl)) a_nilD)) (blkOk_by (by kernel_rfl)) (fun _ _ _ _ _ O => (g_name 11 sc__law_paper.nd rfl (.inl rfl) (.inr rfl))) (fun _ _ _ _ _ O => ts_nil) (fun _ _ _ _ _ O => (pe_d (x_lst (a_consD (pe_d (x_tup (a_consD (pe_d (x_var 11 rfl (.inl rfl) rfl rfl)) (a_consD (pe_d x_bl) a_nilD)))) a_nilD)))))) (a_consE x_dict0 a_nilE)) (gs_cons (g_name 3 sc__law_paper.nd rfl (.inl rfl) (.inl rfl)) (gs_cons (g_name 4 sc__law_paper.nd rfl (.inr rfl) (.inl rfl)) gs_nil))) (ss_cons (s_for O PassesOwn.never (x_seq O (x_var 0 rfl (.inl rfl) rfl rfl)) (g_name 2 sc__law_paper.nd rfl (.inl rfl) (.inl rfl)) (ss_cons (s_set 5 sc__law_paper.nd rfl (.inl rfl) (x_fr (x_fint O rfl m_int (a_consC (pe_c (x_bin o_div (pe_c (x_len O rfl m_len (a_consC (x_pk 3 rfl (.inl rfl) rfl rfl) a_nilC))) (pe_c x_int))) a_nilC))) (.inl rfl)) (ss_cons (s_for O PassesOwn.never (x_zip2 O rfl m_zip (a_consD (pe_d (x_ix O (x_pk 3 rfl (.inl rfl) rfl rfl) (pe_c (x_bin o_sub (x_pk 5 rfl (.inl rfl) rfl rfl) (pe_c x_int))))) (a_consD (pe_d (x_ix O (x_pk 3 rfl (.inl rfl) rfl rfl) (x_pk 5 rfl (.inl rfl) rfl rfl))) a_nilD))) (g_tup O (gs_cons (g_name 6 sc__law_paper.nd rfl (.inl rfl) (.inl rfl)) (gs_cons (g_name 7 sc__law_paper.nd rfl (.inl rfl) (.inl rfl)) gs_nil))) (ss_one (s_if (x_tcmp (o_eq O) (pe_c (x_abs O rfl m_abs (a_consC (pe_c (x_bin o_sub (pe_c (x_ix O (x_pk 6 rfl (.inl rfl) rfl rfl) (pe_c x_int))) (pe_c (x_ix O (x_pk 7 rfl (.inl rfl) rfl rfl) (pe_c x_int))))) a_nilC))) (pe_c x_int) rfl) (ss_one (s_dput 4 O rfl (.inr (.inl rfl)) rfl rfl (x_min2 O rfl m_min (a_consC (pe_c (x_ix O (x_pk 6 rfl (.inl rfl) rfl rfl) (pe_c x_int))) (a_consC (pe_c (x_ix O (x_pk 7 rfl (.inl rfl) rfl rfl) (pe_c x_int))) a_nilC))) (x_ite (x_tcmp (o_eq O) (pe_c (x_cmp (o_eq O) (x_pk 2 rfl (.inl rfl) rfl rfl) (pe_c x_str) rfl)) (pe_c (x_ix O (x_pk 6 rfl (.inl rfl) rfl rfl) (pe_c x_int))) rfl) x_str x_str))) ss_nil))) (ss_cons (s_set 8 sc__law_paper.nd rfl (.inl rfl) (x_lst a_nilD) (.inl rfl)) (ss_cons (s_for O PassesOwn.never (x_range1 rfl m_range (a_consD (pe_d (x_var 5 rfl (.inl rfl) rfl rfl)) a_nilD)) (g_name 9 sc__law_paper.nd rfl (.inl rfl) (.inl rfl)) (ss_cons (s_setLc 10 (own := [("leaf", 11), ("up", 12)]) O sc__law_paper.nd rfl rfl (sw_true rfl rfl rfl rfl) (x_seq O (x_sl3 O (pe_c (x_ix O (x_pk 3 rfl (.inl rfl) rfl rfl) (pe_c (x_bin o_sub (pe_c (x_bin o_sub (pe_c (x_len O rfl m_len (a_consC (x_pk 3 rfl (.inl rfl) rfl rfl) a_nilC))) (pe_c x_int))) (x_pk 9 rfl (.inl rfl) rfl rfl))))) part_none part_none (x_un o_neg (pe_c x_int)))) (blkOk_by (by kernel_rfl)) (fun _ _ _ _ _ O => (g_tup O (gs_cons (g_name 11 sc__law_paper.nd rfl (.inl rfl) (.inr rfl)) (gs_cons (g_name 12 sc__law_paper.nd rfl (.inl rfl) (.inr rfl)) gs_nil)))) (fun _ _ _ _ _ O => ts_nil) (fun _ _ _ _ _ O => (pe_d (x_tup (a_consD (pe_d (x_var 11 rfl (.inl rfl) rfl rfl)) (a_consD (pe_d (x_not (x_var 12 rfl (.inl rfl) rfl rfl))) a_nilD)))))) (ss_one (s_fz [10] (s_app 8 O rfl (.inl rfl) rfl rfl (x_ite (x_tcmp (o_eq O) (x_pk 2 rfl (.inl rfl) rfl rfl) (pe_c x_str) rfl) (x_bin (o_add O) (pe_c (x_ix O (x_pk 3 rfl (.inl rfl) rfl rfl) (x_pk 9 rfl (.inl rfl) rfl rfl))) (x_pk 10 rfl (.inl rfl) rfl rfl)) (x_bin (o_add O) (x_pk 10 rfl (.inl rfl) rfl rfl) (pe_c (x_ix O (x_pk 3 rfl (.inl rfl) rfl rfl) (x_pk 9 rfl (.inl rfl) rfl rfl)))))))))) (ss_one (s_fz [8] (s_set 3 sc__law_paper.nd rfl (.inl rfl) (x_fr (x_var 8 rfl (.inl rfl) rfl rfl)) (.inl rfl))))))))) (ss_one (s_ret (x_tup (a_consD (pe_d (x_join O (pe_c x_str) (pe_c (x_lc (own := [("crease", 13)]) O sc__law_paper.nd (x_range1 rfl m_range (a_consD (pe_d (x_bin o_sub (x_pk 1 rfl (.inl rfl) rfl rfl) (pe_c x_int))) a_nilD)) (blkOk_by (by kernel_rfl)) (fun _ _ _ _ _ O => (g_name 13 sc__law_paper.nd rfl (.inl rfl) (.inr rfl))) (fun _ _ _ _ _ O => ts_nil) (fun _ _ _ _ _ O => (pe_d (x_ix O (x_pk 4 rfl (.inr (.inl rfl)) rfl rfl) (x_pk 13 rfl (.inl rfl) rfl rfl)))))))) (a_consD (pe_d (x_ftuple O rfl m_tuple (a_consC (pe_c (x_lc (own := [("leaf", 11), ("up", 12)]) O sc__law_paper.nd (x_seq O (x_ix O (x_pk 3 rfl (.inl rfl) rfl rfl) (pe_c x_int))) (blkOk_by (by kernel_rfl)) (fun _ _ _ _ _ O => (g_tup O (gs_cons (g_name 11 sc__law_paper.nd rfl (.inl rfl) (.inr rfl)) (gs_cons (g_name 12 sc__law_paper.nd rfl (.inl rfl) (.inr rfl)) gs_nil)))) (fun _ _ _ _ _ O => ts_nil) (fun _ _ _ _ _ O => (pe_d (x_var 11 rfl (.inl rfl) rfl rfl))))) a_nilC))) a_nilD)))))))))
abbrev s__law_is_word : Stmt := topS 34
theorem sc__law_is_word : FnScope ["value", "left", "half", "sign"] ["value"] (defScope s__law_is_word) := ⟨rfl, rfl, rfl, by decide +kernel, rfl, by decide +kernel, by decide +kernel⟩
theorem ok__law_is_word {P : Program} {w : World} {K : PySem.W.Frag} {mg : Str → Option Value} {base : Heap}  (m_isinstance : mg "isinstance" = none) (m_str : mg "str" = none) (m_len : mg "len" = none) (m_int : mg "int" = none) (F : ∃ f fd, FunD K "_law_is_word" "_law_is_word" (defArgs s__law_is_word) (defBody s__law_is_word) (defScope s__law_is_word) [] [] f fd ∧ mg "_law_is_word" = some (.ref f)) : FC P w K mg base 1 "_law_is_word" 1 F__law_is_word := by
  obtain ⟨f, fd, F, hm⟩ := F
  refine fc_of F hm (F.bindsN (ps := ["value"]) fun _ _ _ _ _ _ us hl => match us, hl with | [_], _ => rfl) sc__law_is_word rfl fun cdv A outer s H E g O hr => ?_
  exact (ss_cons (s_if (t_pw (w_or (t_not (x_test (x_isinst "str" O rfl m_isinstance rfl m_str boot_str (x_pk 0 rfl (.inl rfl) rfl rfl) kit_str))) (w_or (x_tcmp (o_ne O) (pe_c (x_lc (own := [("sign", 3)]) O sc__law_is_word.nd (x_seq O (x_var 0 rfl (.inl rfl) rfl rfl)) (blkOk_by (by kernel_rfl)) (fun _ _ _ _ _ O => (g_name 3 sc__law_is_word.nd rfl (.inl rfl) (.inr rfl))) (fun _ _ _ _ _ O => (ts_one (x_tcmp (o_notIn O) (x_pk 3 rfl (.inl rfl) rfl rfl) (pe_c (x_tup (a_consD (pe_d x_str) (a_consD (pe_d x_str) a_nilD)))) rfl))) (fun _ _ _ _ _ O => (pe_d (x_var 3 rfl (.inl rfl) rfl rfl))))) (pe_c (x_lst a_nilD)) rfl) (w_or1 (x_tcmp (o_gt O) (pe_c (x_len O rfl m_len (a_consC (x_pk 0 rfl (.inl rfl) rfl rfl) a_nilC))) (pe_c x_int) rfl))))) (ss_one (s_ret x_bl)) ss_nil) (ss_cons (s_set 1 sc__law_is_word.nd rfl (.inl rfl) (x_fr (x_var 0 rfl (.inl rfl) rfl rfl)) (.inl rfl)) (ss_cons (s_while 100000 PassesOwn.never (x_tcmp (o_gt O) (pe_c (x_len O rfl m_len (a_consC (x_pk 1 rfl (.inl rfl) rfl rfl) a_nilC))) (pe_c x_int) rfl) (ss_cons (s_set 2 sc__law_is_word.nd rfl (.inl rfl) (x_fr (x_fint O rfl m_int (a_consC (pe_c (x_bin o_div (pe_c (x_len O rfl m_len (a_consC (x_pk 1 rfl (.inl rfl) rfl rfl) a_nilC))) (pe_c x_int))) a_nilC))) (.inl rfl)) (ss_cons (s_if (t_pw (w_or (x_tcmp (o_eq O) (pe_c (x_bin (o_mul O) (pe_c x_int) (x_pk 2 rfl (.inl rfl) rfl rfl))) (pe_c (x_len O rfl m_len (a_consC (x_pk 1 rfl (.inl rfl) rfl rfl) a_nilC))) rfl) (w_or1 (x_tcmp (o_ne O) (pe_c (x_sl O (x_pk 1 rfl (.inl rfl) rfl rfl) (part_some (x_bin (o_add O) (x_pk 2 rfl (.inl rfl) rfl rfl) (pe_c x_int))) part_none)) (pe_c (x_join O (pe_c x_str) (pe_c (x_lc (own := [("sign", 3)]) O sc__law_is_word.nd (x_seq O (x_sl3 O (pe_c (x_sl O (x_pk 1 rfl (.inl rfl) rfl rfl) part_none (part_some (x_var 2 rfl (.inl rfl) rfl rfl)))) part_none part_none (x_un o_neg (pe_c x_int)))) (blkOk_by (by kernel_rfl)) (fun _ _ _ _ _ O => (g_name 3 sc__law_is_word.nd rfl (.inl rfl) (.inr rfl))) (fun _ _ _ _ _ O => ts_nil) (fun _ _ _ _ _ O => (pe_d (x_ite (x_tcmp (o_eq O) (x_pk 3 rfl (.inl rfl) rfl rfl) (pe_c x_str) rfl) x_str x_str))))))) rfl)))) (ss_one (s_ret x_bl)) ss_nil) (ss_one (s_set 1 sc__law_is_word.nd rfl (.inl rfl) (x_fr (x_sl O (x_pk 1 rfl (.inl rfl) rfl rfl) part_none (part_some (x_var 2 rfl (.inl rfl) rfl rfl)))) (.inl rfl)))))) (ss_one (s_ret x_bl)))))
abbrev s_is_whole : Stmt := topS 5
theorem sc_is_whole : FnScope ["value", "low", "high"] ["value", "low", "high"] (defScope s_is_whole) := ⟨rfl, rfl, rfl, by decide +kernel, rfl, by decide +kernel, by decide +kernel⟩
theorem ok_is_whole {P : Program} {w : World} {K : PySem.W.Frag} {mg : Str → Option Value} {base : Heap}  (m_isinstance : mg "isinstance" = none) (m_int : mg "int" = none) (m_bool : mg "bool" = none) (F : ∃ f fd, FunD K "is_whole" "is_whole" (defArgs s_is_whole) (defBody s_is_whole) (defScope s_is_whole) [] [] f fd ∧ mg "is_whole" = some (.ref f)) : FC P w K mg base 1 "is_whole" 3 F_is_whole := by
  obtain ⟨f, fd, F, hm⟩ := F
  refine fc_of F hm (F.bindsN (ps := ["value", "low", "high"]) fun _ _ _ _ _ _ us hl => match us, hl with | [_, _, _], _ => rfl) sc_is_whole rfl fun cdv A outer s H E g O hr => ?_
  exact (ss_one (s_ret (x_and (x_isinst "int" O rfl m_isinstance rfl m_int boot_int (x_pk 0 rfl (.inl rfl) rfl rfl) kit_int) (x_and (x_not (x_isinst "bool" O rfl m_isinstance rfl m_bool boot_bool_ (x_pk 0 rfl (.inl rfl) rfl rfl) kit_bool)) (x_one (x_chain (o_le O) (o_le O) (x_pk 1 rfl (.inl rfl) rfl rfl) (x_pk 0 rfl (.inl rfl) rfl rfl) (x_pk 2 rfl (.inl rfl) rfl rfl)))))))
abbrev s_sign_at : Stmt := topS 23
theorem sc_sign_at : FnScope ["folds", "crease"] ["folds", "crease"] (defScope s_sign_at) := ⟨rfl, rfl, rfl, by decide +kernel, rfl, by decide +kernel, by decide +kernel⟩
theorem ok_sign_at {P : Program} {w : World} {K : PySem.W.Frag} {mg : Str → Option Value} {base : Heap}  (c_need_folds : FC P w K mg base 3 "need_folds" 1 F_need_folds) (c_is_whole : FC P w K mg base 1 "is_whole" 3 F_is_whole) (c_leaves_in : FC P w K mg base 1 "leaves_in" 1 F_leaves_in) (m_len : mg "len" = none) (c_sign_in : FC P w K mg base 1 "sign_in" 2 F_sign_in) (F : ∃ f fd, FunD K "sign_at" "sign_at" (defArgs s_sign_at) (defBody s_sign_at) (defScope s_sign_at) [] [] f fd ∧ mg "sign_at" = some (.ref f)) : FC P w K mg base 4 "sign_at" 2 F_sign_at := by
  obtain ⟨f, fd, F, hm⟩ := F
  refine fc_of F hm (F.bindsN (ps := ["folds", "crease"]) fun _ _ _ _ _ _ us hl => match us, hl with | [_, _], _ => rfl) sc_sign_at rfl fun cdv A outer s H E g O hr => ?_
  exact (ss_cons (s_expr (x_call O c_need_folds (hr.mono (by decide)) rfl (a_consV (pe_v (x_var 0 rfl (.inl rfl) rfl rfl)) a_nilV))) (ss_cons (s_if (t_not (x_test (x_call O c_is_whole (hr.mono (by decide)) rfl (a_consV (pe_v (x_var 1 rfl (.inl rfl) rfl rfl)) (a_consV (pe_v x_int) (a_consV (pe_v (x_bin o_sub (pe_c (x_call O c_leaves_in (hr.mono (by decide)) rfl (a_consV (pe_v (x_len O rfl m_len (a_consC (x_pk 0 rfl (.inl rfl) rfl rfl) a_nilC))) a_nilV))) (pe_c x_int))) a_nilV)))))) (ss_one s_no) ss_nil) (ss_one (s_ret (x_call O c_sign_in (hr.mono (by decide)) rfl (a_consV (pe_v (x_var 0 rfl (.inl rfl) rfl rfl)) (a_consV (pe_v (x_bin (o_add O) (x_pk 1 rfl (.inl rfl) rfl rfl) (pe_c x_int))) a_nilV)))))))
abbrev s__law_right : Stmt := topS 35
theorem sc__law_right : FnScope ["cup", "most", "folds", "word", "pile", "turn", "crease", "at", "half", "other", "values", "value"] ["cup", "most"] (defScope s__law_right) := ⟨rfl, rfl, rfl, by decide +kernel, rfl, by decide +kernel, by decide +kernel⟩
theorem ok__law_right {P : Program} {w : World} {K : PySem.W.Frag} {mg : Str → Option Value} {base : Heap}  (c__law_folds : FC P w K mg base 3 "_law_folds" 2 F__law_folds) (c__law_paper : FC P w K mg base 1 "_law_paper" 1 F__law_paper) (c__law_like : FC P w K mg base 14 "_law_like" 2 (F__law_like 12)) (c_word_of : FC P w K mg base 4 "word_of" 1 F_word_of) (c_is_word : FC P w K mg base 3 "is_word" 1 F_is_word) (c_folds_of : FC P w K mg base 4 "folds_of" 1 F_folds_of) (c_is_folds : FC P w K mg base 3 "is_folds" 1 F_is_folds) (m_range : mg "range" = none) (c__law_roll : FC P w K mg base 1 "_law_roll" 2 F__law_roll) (m_len : mg "len" = none) (c_sign_at : FC P w K mg base 4 "sign_at" 2 F_sign_at) (m_int : mg "int" = none) (m_list : mg "list" = none) (c__law_is_word : FC P w K mg base 1 "_law_is_word" 1 F__law_is_word) (m_isinstance : mg "isinstance" = none) (m_str : mg "str" = none) (F : ∃ f fd, FunD K "_law_right" "_law_right" (defArgs s__law_right) (defBody s__law_right) (defScope s__law_right) [] [] f fd ∧ mg "_law_right" = some (.ref f)) : FC P w K mg base 15 "_law_right" 2 F__law_right := by
  obtain ⟨f, fd, F, hm⟩ := F
  refine fc_of F hm (F.bindsN (ps := ["cup", "most"]) fun _ _ _ _ _ _ us hl => match us, hl with | [_, _], _ => rfl) sc__law_right rfl fun cdv A outer s H E g O hr => ?_
  exact (ss_cons (s_set 2 sc__law_right.nd rfl (.inl rfl) (x_fr (x_call O c__law_folds (hr.mono (by decide)) rfl (a_consV (pe_v (x_var 0 rfl (.inl rfl) rfl rfl)) (a_consV (pe_v (x_var 1 rfl (.inl rfl) rfl rfl)) a_nilV)))) (.inl rfl)) (ss_cons (s_asg (x_call O c__law_paper (hr.mono (by decide)) rfl (a_consV (pe_v (x_var 2 rfl (.inl rfl) rfl rfl)) a_nilV)) (g_tup O (gs_cons (g_name 3 sc__law_right.nd rfl (.inl rfl) (.inl rfl)) (gs_cons (g_name 4 sc__law_right.nd rfl (.inl rfl) (.inl rfl)) gs_nil)))) (ss_cons (s_if (t_not (x_test (x_call O c__law_like (hr.mono (by decide)) rfl (a_consV (pe_v (x_lst (a_consD (pe_d (x_call O c_word_of (hr.mono (by decide)) rfl (a_consV (pe_v (x_var 2 rfl (.inl rfl) rfl rfl)) a_nilV))) (a_consD (pe_d (x_call O c_is_word (hr.mono (by decide)) rfl (a_consV (pe_v (x_var 3 rfl (.inl rfl) rfl rfl)) a_nilV))) (a_consD (pe_d (x_call O c_folds_of (hr.mono (by decide)) rfl (a_consV (pe_v (x_var 3 rfl (.inl rfl) rfl rfl)) a_nilV))) (a_consD (pe_d (x_call O c_is_folds (hr.mono (by decide)) rfl (a_consV (pe_v (x_var 2 rfl (.inl rfl) rfl rfl)) a_nilV))) a_nilD)))))) (a_consV (pe_v (x_lst (a_consD (pe_d (x_var 3 rfl (.inl rfl) rfl rfl)) (a_consD (pe_d x_bl) (a_consD (pe_d (x_var 2 rfl (.inl rfl) rfl rfl)) (a_consD (pe_d x_bl) a_nilD)))))) a_nilV))))) (ss_one (s_ret x_bl)) ss_nil) (ss_cons (s_for O PassesOwn.never (x_range1 rfl m_range (a_consD (pe_d (x_ite (x_tcmp (o_ne O) (x_pk 3 rfl (.inl rfl) rfl rfl) (pe_c x_str) rfl) x_int x_int)) a_nilD)) (g_name 5 sc__law_right.nd rfl (.inl rfl) (.inl rfl)) (ss_cons (s_set 6 sc__law_right.nd rfl (.inl rfl) (x_fr (x_call O c__law_roll (hr.mono (by decide)) rfl (a_consV (pe_v (x_var 0 rfl (.inl rfl) rfl rfl)) (a_consV (pe_v (x_len O rfl m_len (a_consC (x_pk 3 rfl (.inl rfl) rfl rfl) a_nilC))) a_nilV)))) (.inl rfl)) (ss_one (s_if (t_not (x_test (x_call O c__law_like (hr.mono (by decide)) rfl (a_consV (pe_v (x_call O c_sign_at (hr.mono (by decide)) rfl (a_consV (pe_v (x_var 2 rfl (.inl rfl) rfl rfl)) (a_consV (pe_v (x_var 6 rfl (.inl rfl) rfl rfl)) a_nilV)))) (a_consV (pe_v (x_ix O (x_pk 3 rfl (.inl rfl) rfl rfl) (x_pk 6 rfl (.inl rfl) rfl rfl))) a_nilV))))) (ss_one (s_ret x_bl)) ss_nil)))) (ss_cons (s_asg2 7 8 O sc__law_right.nd rfl rfl (by decide) rfl rfl (a_consE (x_fr (x_call O c__law_roll (hr.mono (by decide)) rfl (a_consV (pe_v (x_var 0 rfl (.inl rfl) rfl rfl)) (a_consV (pe_v (x_bin (o_add O) (pe_c (x_len O rfl m_len (a_consC (x_pk 3 rfl (.inl rfl) rfl rfl) a_nilC))) (pe_c x_int))) a_nilV)))) (a_consE (x_fr (x_fint O rfl m_int (a_consC (pe_c (x_bin o_div (pe_c (x_len O rfl m_len (a_consC (x_pk 3 rfl (.inl rfl) rfl rfl) a_nilC))) (pe_c x_int))) a_nilC))) a_nilE)) rfl) (ss_cons (s_set 9 sc__law_right.nd rfl (.inl rfl) (x_fr (x_ite (x_tcmp (o_eq O) (pe_c (x_sl O (x_pk 3 rfl (.inl rfl) rfl rfl) (part_some (x_var 7 rfl (.inl rfl) rfl rfl)) (part_some (x_bin (o_add O) (x_pk 7 rfl (.inl rfl) rfl rfl) (pe_c x_int))))) (pe_c x_str) rfl) x_str x_str)) (.inl rfl)) (ss_cons (s_set 10 sc__law_right.nd rfl (.inl rfl) (x_fr (x_lst (a_consD (pe_d (x_bin (o_add O) (pe_c (x_bin (o_add O) (pe_c (x_sl O (x_pk 3 rfl (.inl rfl) rfl rfl) part_none (part_some (x_var 7 rfl (.inl rfl) rfl rfl)))) (x_pk 9 rfl (.inl rfl) rfl rfl))) (pe_c (x_sl O (x_pk 3 rfl (.inl rfl) rfl rfl) (part_some (x_bin (o_add O) (x_pk 7 rfl (.inl rfl) rfl rfl) (pe_c x_int))) part_none)))) (a_consD (pe_d (x_bin (o_add O) (pe_c (x_sl O (x_pk 3 rfl (.inl rfl) rfl rfl) part_none (part_some (x_var 7 rfl (.inl rfl) rfl rfl)))) (pe_c (x_sl O (x_pk 3 rfl (.inl rfl) rfl rfl) (part_some (x_bin (o_add O) (x_pk 7 rfl (.inl rfl) rfl rfl) (pe_c x_int))) part_none)))) (a_consD (pe_d (x_bin (o_add O) (pe_c (x_sl O (x_pk 3 rfl (.inl rfl) rfl rfl) part_none (part_some (x_var 8 rfl (.inl rfl) rfl rfl)))) (x_pk 3 rfl (.inl rfl) rfl rfl))) (a_consD (pe_d (x_sl3 O (x_pk 3 rfl (.inl rfl) rfl rfl) part_none part_none (x_un o_neg (pe_c x_int)))) (a_consD (pe_d (x_bin (o_add O) (x_pk 3 rfl (.inl rfl) rfl rfl) (pe_c (x_sl O (x_pk 3 rfl (.inl rfl) rfl rfl) part_none (part_some x_int))))) (a_consD (pe_d (x_sl O (x_pk 3 rfl (.inl rfl) rfl rfl) (part_some (x_bin (o_add O) (x_pk 8 rfl (.inl rfl) rfl rfl) (pe_c x_int))) part_none)) (a_consD (pe_d (x_flist O rfl m_list (a_consC (x_pk 3 rfl (.inl rfl) rfl rfl) a_nilC))) (a_consD (pe_d x_non) a_nilD)))))))))) (.inl rfl)) (ss_cons (s_set 10 sc__law_right.nd rfl (.inl rfl) (x_fr (x_bin (o_add O) (x_pk 10 rfl (.inl rfl) rfl rfl) (pe_c (x_lst (a_consD (pe_d (x_bin (o_add O) (pe_c (x_bin (o_add O) (pe_c (x_sl O (x_pk 3 rfl (.inl rfl) rfl rfl) part_none (part_some (x_var 8 rfl (.inl rfl) rfl rfl)))) (x_pk 9 rfl (.inl rfl) rfl rfl))) (pe_c (x_sl O (x_pk 3 rfl (.inl rfl) rfl rfl) (part_some (x_bin (o_add O) (x_pk 8 rfl (.inl rfl) rfl rfl) (pe_c x_int))) part_none)))) (a_consD (pe_d (x_bin (o_add O) (pe_c (x_bin (o_add O) (pe_c (x_sl O (x_pk 3 rfl (.inl rfl) rfl rfl) part_none (part_some (x_var 7 rfl (.inl rfl) rfl rfl)))) (pe_c x_str))) (pe_c (x_sl O (x_pk 3 rfl (.inl rfl) rfl rfl) (part_some (x_var 7 rfl (.inl rfl) rfl rfl)) part_none)))) (a_consD (pe_d (x_tup (a_consD (pe_d (x_var 3 rfl (.inl rfl) rfl rfl)) a_nilD))) (a_consD (pe_d x_int) (a_consD (pe_d (x_bin (o_add O) (pe_c x_str) (pe_c (x_sl O (x_pk 3 rfl (.inl rfl) rfl rfl) (part_some x_int) part_none)))) a_nilD))))))))) (.inl rfl)) (ss_cons (s_for O PassesOwn.never (x_seq O (x_var 10 rfl (.inl rfl) rfl rfl)) (g_name 11 sc__law_right.nd rfl (.inl rfl) (.inl rfl)) (ss_cons (s_if (t_not (x_test (x_call O c__law_like (hr.mono (by decide)) rfl (a_consV (pe_v (x_call O c_is_word (hr.mono (by decide)) rfl (a_consV (pe_v (x_var 11 rfl (.inl rfl) rfl rfl)) a_nilV))) (a_consV (pe_v (x_call O c__law_is_word (hr.mono (by decide)) rfl (a_consV (pe_v (x_var 11 rfl (.inl rfl) rfl rfl)) a_nilV))) a_nilV))))) (ss_one (s_ret x_bl)) ss_nil) (ss_one (s_if (t_pw (w_and (x_test (x_isinst "str" O rfl m_isinstance rfl m_str boot_str (x_pk 11 rfl (.inl rfl) rfl rfl) kit_str)) (w_and (x_test (x_call O c__law_is_word (hr.mono (by decide)) rfl (a_consV (pe_v (x_var 11 rfl (.inl rfl) rfl rfl)) a_nilV))) (w_and1 (x_tcmp (o_ne O) (pe_c (x_ix O (pe_c (x_call O c__law_paper (hr.mono (by decide)) rfl (a_consV (pe_v (x_call O c_folds_of (hr.mono (by decide)) rfl (a_consV (pe_v (x_var 11 rfl (.inl rfl) rfl rfl)) a_nilV))) a_nilV))) (pe_c x_int))) (x_pk 11 rfl (.inl rfl) rfl rfl) rfl))))) (ss_one (s_ret x_bl)) ss_nil)))) (ss_one (s_ret x_bl)))))))))))
abbrev s_law : Stmt := topS 37
theorem sc_law : FnScope ["script", "cup", "most"] ["script"] (defScope s_law) := ⟨rfl, rfl, rfl, by decide +kernel, rfl, by decide +kernel, by decide +kernel⟩
theorem okL {f : Addr} {fd : FuncData} {P : Program} {w : World} {K : PySem.W.Frag} {mg : Str → Option Value} {base : Heap}  (c__law_cup : FC P w K mg base 1 "_law_cup" 1 F__law_cup) (c__law_right : FC P w K mg base 15 "_law_right" 2 F__law_right) (c__law_written_right : FC P w K mg base 15 "_law_written_right" 0 F__law_written_right) (F : FunD K "law" "law" (defArgs s_law) (defBody s_law) (defScope s_law) [] [] f fd) : FnOk P w K mg base CX0 16 f fd ["script"] (spF K 1 F_law) := by
  refine fnok_of F sc_law rfl fun cdv A outer s H E g O hr => ?_
  exact (ss_cons (s_set 1 sc_law.nd rfl (.inl rfl) (x_call O c__law_cup (hr.mono (by decide)) rfl (a_consV (pe_v (x_var 0 rfl (.inl rfl) rfl rfl)) a_nilV)) (.inl rfl)) (ss_cons (s_pr 1 (s_for O PassesOwn.never (x_seq O (x_tup (a_consD (pe_d x_int) (a_consD (pe_d x_int) (a_consD (pe_d x_int) a_nilD))))) (g_name 2 sc_law.nd rfl (.inl rfl) (.inl rfl)) (ss_one (s_if (t_not (x_test (x_call O c__law_right (hr.mono (by decide)) rfl (a_consV (pe_v (x_var 1 rfl (.inl rfl) rfl rfl)) (a_consV (pe_v (x_var 2 rfl (.inl rfl) rfl rfl)) a_nilV))))) (ss_one (s_ret x_bl)) ss_nil)))) (ss_one (s_ret (x_call0 O c__law_written_right (hr.mono (by decide)) rfl)))))
end FF.K41

set_option Elab.async false
set_option linter.all false
set_option maxRecDepth 100000
set_option maxHeartbeats 1000000
set_option autoImplicit false
/-! FFEnd: from the evaluator's answer to the law's promise. -/
namespace FF
open PySem PySem.Spec PyProof.Rows L2
def noList (K : PySem.W.Frag) : Bool := K.all fun q => match q.2.cls with
  | .type n => decide (n ≠ "list")
  | _ => true
theorem dz_ints {K : PySem.W.Frag} {Z : Addr → Prop} {H : Hp} : ∀ ns : List Int, DZs K Z H (ns.map V.int) (ns.map fun i => (.int i : D))
  | [] => .nil
  | n :: r => .cons (.int n) (dz_ints r)
theorem law_sp {K : PySem.W.Frag} (hK : noList K = true) {F : Fn} (h : ∀ ns : List Int, ns.length ≤ 63 → ∃ hh', F [.d (.list (ns.map fun i => .int i))] [] = some (.v (.d (.bool true)), hh')) {H : Hp} {a : Addr} {ns : List Int} (hl : ns.length ≤ 63) (hS : SqL K H a (ns.map V.int)) :
    spF K 1 F [.ref a] H (fun v _ => v = .bl true) fun _ _ _ => False := by
  obtain ⟨hh', e⟩ := h ns hl
  have rd : Rd H a (.lst (ns.map V.int)) := by
    rcases hS with r | ⟨o, its, n, hk, hc, _⟩
    · exact r
    · exfalso
      have q := List.all_eq_true.mp hK (a, o) (He.lookup_mem hk)
      rw [hc] at q
      simp at q
  refine ⟨rfl, fun b => b = a, [], [], _, _, hh', ⟨rfl, fun n b o e => by simp at e, List.nodup_nil, fun b hb => ?_⟩, .cons (a := .d (.list (ns.map fun i => .int i))) (DZ.lst ⟨rfl, rd⟩ (dz_ints ns)) .nil, e, fun Z' ρ' x H' _ _ E => ?_⟩
  · subst hb
    rcases rd with r | ⟨o, r⟩
    · rw [r]; simp
    · rw [r]; simp
  · have E : DZ K Z' H' x (.bool true) := E
    cases E
    rfl
/-- a written table of texts -/
theorem ktab_of {K : PySem.W.Frag} {w : World} {a : Addr} {es : Array DictEntry} {n : Nat} {kvs : List (Str × Str)} (D : KDict K w a es n) (h : He.valsB K a (kvs.map fun q => (q.1, .str q.2)) = true) : KTab K w a kvs := fun q hq => by
  obtain ⟨u, h1, h2⟩ := He.valsB_ok h (q := (q.1, .str q.2)) (List.mem_map.mpr ⟨q, hq, rfl⟩)
  exact ⟨es, n, u, D.at_, D.lit, h1, h2⟩
end FF

set_option Elab.async false
set_option linter.all false
set_option maxRecDepth 100000
set_option maxHeartbeats 4000000
set_option autoImplicit false
namespace FF.K41
open PySem PySem.Spec PyProof.Rows L2
def d__law_cup : He.DefD := ⟨("_law_cup", none), "_law_cup", "_law_cup", defArgs s__law_cup, defBody s__law_cup, defScope s__law_cup, [], []⟩
def d__law_sort : He.DefD := ⟨("_law_sort", none), "_law_sort", "_law_sort", defArgs s__law_sort, defBody s__law_sort, defScope s__law_sort, [], []⟩
def d__law_like : He.DefD := ⟨("_law_like", none), "_law_like", "_law_like", defArgs s__law_like, defBody s__law_like, defScope s__law_like, [], []⟩
def d_levels_in : He.DefD := ⟨("levels_in", none), "levels_in", "levels_in", defArgs s_levels_in, defBody s_levels_in, defScope s_levels_in, [], []⟩
def d_folds_in : He.DefD := ⟨("folds_in", none), "folds_in", "folds_in", defArgs s_folds_in, defBody s_folds_in, defScope s_folds_in, [], []⟩
def d_leaves_in : He.DefD := ⟨("leaves_in", none), "leaves_in", "leaves_in", defArgs s_leaves_in, defBody s_leaves_in, defScope s_leaves_in, [], []⟩
def d_is_size : He.DefD := ⟨("is_size", none), "is_size", "is_size", defArgs s_is_size, defBody s_is_size, defScope s_is_size, [], []⟩
def d_is_word_of : He.DefD := ⟨("is_word_of", none), "is_word_of", "is_word_of", defArgs s_is_word_of, defBody s_is_word_of, defScope s_is_word_of, [], []⟩
def d_is_word : He.DefD := ⟨("is_word", none), "is_word", "is_word", defArgs s_is_word, defBody s_is_word, defScope s_is_word, [], []⟩
def d_fits_folds : He.DefD := ⟨("fits_folds", none), "fits_folds", "fits_folds", defArgs s_fits_folds, defBody s_fits_folds, defScope s_fits_folds, [], []⟩
def d_need_folds : He.DefD := ⟨("need_folds", none), "need_folds", "need_folds", defArgs s_need_folds, defBody s_need_folds, defScope s_need_folds, [], []⟩
def d_sign_in : He.DefD := ⟨("sign_in", none), "sign_in", "sign_in", defArgs s_sign_in, defBody s_sign_in, defScope s_sign_in, [], []⟩
def d_word_in : He.DefD := ⟨("word_in", none), "word_in", "word_in", defArgs s_word_in, defBody s_word_in, defScope s_word_in, [], []⟩
def d_word_of : He.DefD := ⟨("word_of", none), "word_of", "word_of", defArgs s_word_of, defBody s_word_of, defScope s_word_of, [], []⟩
def d_folds_of : He.DefD := ⟨("folds_of", none), "folds_of", "folds_of", defArgs s_folds_of, defBody s_folds_of, defScope s_folds_of, [], []⟩
def d_is_folds : He.DefD := ⟨("is_folds", none), "is_folds", "is_folds", defArgs s_is_folds, defBody s_is_folds, defScope s_is_folds, [], []⟩
def d__law_written_right : He.DefD := ⟨("_law_written_right", none), "_law_written_right", "_law_written_right", defArgs s__law_written_right, defBody s__law_written_right, defScope s__law_written_right, [], []⟩
def d__law_roll : He.DefD := ⟨("_law_roll", none), "_law_roll", "_law_roll", defArgs s__law_roll, defBody s__law_roll, defScope s__law_roll, [], []⟩
def d__law_some : He.DefD := ⟨("_law_some", none), "_law_some", "_law_some", defArgs s__law_some, defBody s__law_some, defScope s__law_some, [], []⟩
def d__law_folds : He.DefD := ⟨("_law_folds", none), "_law_folds", "_law_folds", defArgs s__law_folds, defBody s__law_folds, defScope s__law_folds, [], []⟩
def d__law_paper : He.DefD := ⟨("_law_paper", none), "_law_paper", "_law_paper", defArgs s__law_paper, defBody s__law_paper, defScope s__law_paper, [], []⟩
def d__law_is_word : He.DefD := ⟨("_law_is_word", none), "_law_is_word", "_law_is_word", defArgs s__law_is_word, defBody s__law_is_word, defScope s__law_is_word, [], []⟩
def d_is_whole : He.DefD := ⟨("is_whole", none), "is_whole", "is_whole", defArgs s_is_whole, defBody s_is_whole, defScope s_is_whole, [], []⟩
def d_sign_at : He.DefD := ⟨("sign_at", none), "sign_at", "sign_at", defArgs s_sign_at, defBody s_sign_at, defScope s_sign_at, [], []⟩
def d__law_right : He.DefD := ⟨("_law_right", none), "_law_right", "_law_right", defArgs s__law_right, defBody s__law_right, defScope s__law_right, [], []⟩
def d_law : He.DefD := ⟨("law", none), "law", "law", defArgs s_law, defBody s_law, defScope s_law, [], []⟩
def fn : List He.DefD := ([d__law_cup, d__law_sort, d__law_like, d_levels_in, d_folds_in, d_leaves_in, d_is_size, d_is_word_of, d_is_word, d_fits_folds, d_need_folds, d_sign_in, d_word_in, d_word_of, d_folds_of, d_is_folds, d__law_written_right, d__law_roll, d__law_some, d__law_folds] : List He.DefD) ++ ([d__law_paper, d__law_is_word, d_is_whole, d_sign_at, d__law_right, d_law] : List He.DefD)
def fa : List He.Fa := ([.glo "_law_cup", .glo "_law_sort", .glo "_law_like", .glo "levels_in", .glo "folds_in", .glo "leaves_in", .glo "is_size", .glo "is_word_of", .glo "is_word", .glo "fits_folds", .glo "need_folds", .glo "sign_in", .glo "word_in", .glo "word_of", .glo "folds_of", .glo "is_folds", .glo "_law_written_right", .glo "_law_roll", .glo "_law_some", .glo "_law_folds"] : List He.Fa) ++ ([.glo "_law_paper", .glo "_law_is_word", .glo "is_whole", .glo "sign_at", .glo "_law_right", .glo "law", .free "list", .free "abs", .free "int", .free "isinstance", .free "bool", .free "str", .free "tuple", .free "len", .free "zip", .free "enumerate", .glo "OTHER", .glo "FOLD", .free "range", .int "FOLDS" 12] : List He.Fa) ++ ([.free "all", .str "SIGNS" "ou", .glo "MARK", .free "min"] : List He.Fa)
def ts : List He.Tab := [((fun K => He.ga K "FOLD"), ["v", "m"]), ((fun K => He.ga K "MARK"), ["o", "u"]), ((fun K => He.ga K "OTHER"), ["o", "u", "m", "v"])]
def ex (K : PySem.W.Frag) : Bool := noList K && He.valsB K (He.ga K "FOLD") (t_FOLD.map fun q => (q.1, .str q.2)) && He.valsB K (He.ga K "MARK") (t_MARK.map fun q => (q.1, .str q.2)) && He.valsB K (He.ga K "OTHER") (t_OTHER.map fun q => (q.1, .str q.2))
abbrev R : PySem.W.OpenRow := PySem.W.OpenLaw.row PySem.Challenge.rw_foldsflat_k41_whole_words_of_folds
abbrev hk : PySem.W.Hook := He.hookX 4 fa fn ts [] ex
def ob (s : PySem.W.SharedT) : He.AlX := He.obsX 4 fa fn ts [] ex (HandSHeadRun.getT s)
theorem ob_eq (s : PySem.W.SharedT) : ob s = hk.obs s.abs := He.obsX_eq (HandSHeadRun.getT_eq s)
def loose : List Str := (["FoldError", "InvalidFolds", "InvalidNumber", "is_whole", "is_word_of", "FOLDS", "SIGNS", "OTHER", "MARK", "FOLD", "leaves_in", "fits_folds", "need_folds", "is_size", "sign_in", "word_in", "levels_in", "folds_in", "is_folds", "word_of"] : List Str) ++ (["sign_at", "is_word", "folds_of", "_law_cup", "_law_roll", "_law_some", "_law_sort", "_law_like", "_law_folds", "_law_paper", "_law_is_word", "_law_right", "_law_written_right"] : List Str)
theorem run (w : World) : HandSHeadRun.RunEq R (PySem.W.view R.prog [37]) hk ob 4000 loose w :=
  PySem.W.byRow2 "special-get-raises" (P := fun w => HandSHeadRun.RunEq R (PySem.W.view R.prog [37]) hk ob 4000 loose w) (fun w => by intro os; kernel_rfl) (fun w => by intro os; kernel_rfl) w
theorem facts {P : Program} {w : World} {K : PySem.W.Frag} {h : Heap} {mg : Str → Option Value} {f : Addr} (X : K.In h) (G : h.Ns mainGlobals mg) (hfa : mg ("law" : Str) = some (.ref f)) (c : He.SaysX fa fn ts [] ex w h K) :
    noList K = true ∧ ∃ fd : FuncData, (∀ (s : Shared) (v : Value), BindsTo s fd ⟨[v], []⟩ [("script", v)]) ∧ ∀ base : Heap, K.In base → base.Ns mainGlobals mg → FnOk P w K mg base CX0 16 f fd ["script"] (spF K 1 F_law) := by
  have cd := c.t.d
  have cm := c.more
  unfold ex at cm
  obtain ⟨cm, v_OTHER⟩ := He.ba cm
  obtain ⟨cm, v_MARK⟩ := He.ba cm
  obtain ⟨cm, v_FOLD⟩ := He.ba cm
  refine ⟨cm, ?_⟩
  obtain ⟨fd, F⟩ := cd.def_ 25 (d := d_law) rfl
  have e := hfa.symm.trans (He.glo_ok X G (cd.fact 25 (f := .glo "law") rfl))
  cases e
  have b := FunD.bindsA (ps := ["script"]) F fun _ _ _ _ _ _ us hl => match us, hl with | [_], _ => rfl
  refine ⟨fd, fun s v => b s [v] rfl, fun base _ _ => ?_⟩
  have m_list := He.free_ok X G (cd.fact 26 (f := .free "list") rfl)
  have m_abs := He.free_ok X G (cd.fact 27 (f := .free "abs") rfl)
  have m_int := He.free_ok X G (cd.fact 28 (f := .free "int") rfl)
  have m_isinstance := He.free_ok X G (cd.fact 29 (f := .free "isinstance") rfl)
  have m_bool := He.free_ok X G (cd.fact 30 (f := .free "bool") rfl)
  have m_str := He.free_ok X G (cd.fact 31 (f := .free "str") rfl)
  have m_tuple := He.free_ok X G (cd.fact 32 (f := .free "tuple") rfl)
  have m_len := He.free_ok X G (cd.fact 33 (f := .free "len") rfl)
  have m_zip := He.free_ok X G (cd.fact 34 (f := .free "zip") rfl)
  have m_enumerate := He.free_ok X G (cd.fact 35 (f := .free "enumerate") rfl)
  obtain ⟨es_OTHER, n_OTHER, D_OTHER⟩ := c.t.tab 2 (t := ((fun K => He.ga K "OTHER"), ["o", "u", "m", "v"])) rfl
  have m_OTHER : mg "OTHER" = some (.ref (He.ga K "OTHER")) ∧ KTab K w (He.ga K "OTHER") t_OTHER := ⟨He.glo_ok X G (cd.fact 36 (f := .glo "OTHER") rfl), ktab_of D_OTHER v_OTHER⟩
  obtain ⟨es_FOLD, n_FOLD, D_FOLD⟩ := c.t.tab 0 (t := ((fun K => He.ga K "FOLD"), ["v", "m"])) rfl
  have m_FOLD : mg "FOLD" = some (.ref (He.ga K "FOLD")) ∧ KTab K w (He.ga K "FOLD") t_FOLD := ⟨He.glo_ok X G (cd.fact 37 (f := .glo "FOLD") rfl), ktab_of D_FOLD v_FOLD⟩
  have m_range := He.free_ok X G (cd.fact 38 (f := .free "range") rfl)
  have m_FOLDS := He.int_ok X G (cd.fact 39 (f := .int "FOLDS" 12) rfl)
  have m_all := He.free_ok X G (cd.fact 40 (f := .free "all") rfl)
  have m_SIGNS := He.str_ok X G (cd.fact 41 (f := .str "SIGNS" "ou") rfl)
  obtain ⟨es_MARK, n_MARK, D_MARK⟩ := c.t.tab 1 (t := ((fun K => He.ga K "MARK"), ["o", "u"])) rfl
  have m_MARK : mg "MARK" = some (.ref (He.ga K "MARK")) ∧ KTab K w (He.ga K "MARK") t_MARK := ⟨He.glo_ok X G (cd.fact 42 (f := .glo "MARK") rfl), ktab_of D_MARK v_MARK⟩
  have m_min := He.free_ok X G (cd.fact 43 (f := .free "min") rfl)
  have F__law_cup_ : ∃ f fd, FunD K "_law_cup" "_law_cup" (defArgs s__law_cup) (defBody s__law_cup) (defScope s__law_cup) [] [] f fd ∧ mg "_law_cup" = some (.ref f) := by
    obtain ⟨fd, F⟩ := cd.def_ 0 (d := d__law_cup) rfl
    exact ⟨_, fd, F, He.glo_ok X G (cd.fact 0 (f := .glo "_law_cup") rfl)⟩
  have c__law_cup := ok__law_cup (P := P) (w := w) (base := base) m_list m_abs m_int F__law_cup_
  have F__law_sort_ : ∃ f fd, FunD K "_law_sort" "_law_sort" (defArgs s__law_sort) (defBody s__law_sort) (defScope s__law_sort) [] [] f fd ∧ mg "_law_sort" = some (.ref f) := by
    obtain ⟨fd, F⟩ := cd.def_ 1 (d := d__law_sort) rfl
    exact ⟨_, fd, F, He.glo_ok X G (cd.fact 1 (f := .glo "_law_sort") rfl)⟩
  have c__law_sort := ok__law_sort (P := P) (w := w) (base := base) m_isinstance m_bool m_int m_str m_tuple m_list F__law_sort_
  have F__law_like_ : ∃ f fd, FunD K "_law_like" "_law_like" (defArgs s__law_like) (defBody s__law_like) (defScope s__law_like) [] [] f fd ∧ mg "_law_like" = some (.ref f) := by
    obtain ⟨fd, F⟩ := cd.def_ 2 (d := d__law_like) rfl
    exact ⟨_, fd, F, He.glo_ok X G (cd.fact 2 (f := .glo "_law_like") rfl)⟩
  have c__law_like := (ok__law_like (P := P) (w := w) (base := base) c__law_sort m_len m_zip F__law_like_ 12).mono (k := 14) (by omega)
  have F_levels_in_ : ∃ f fd, FunD K "levels_in" "levels_in" (defArgs s_levels_in) (defBody s_levels_in) (defScope s_levels_in) [] [] f fd ∧ mg "levels_in" = some (.ref f) := by
    obtain ⟨fd, F⟩ := cd.def_ 3 (d := d_levels_in) rfl
    exact ⟨_, fd, F, He.glo_ok X G (cd.fact 3 (f := .glo "levels_in") rfl)⟩
  have c_levels_in := ok_levels_in (P := P) (w := w) (base := base) m_enumerate m_OTHER F_levels_in_
  have F_folds_in_ : ∃ f fd, FunD K "folds_in" "folds_in" (defArgs s_folds_in) (defBody s_folds_in) (defScope s_folds_in) [] [] f fd ∧ mg "folds_in" = some (.ref f) := by
    obtain ⟨fd, F⟩ := cd.def_ 4 (d := d_folds_in) rfl
    exact ⟨_, fd, F, He.glo_ok X G (cd.fact 4 (f := .glo "folds_in") rfl)⟩
  have c_folds_in := ok_folds_in (P := P) (w := w) (base := base) c_levels_in m_len m_FOLD F_folds_in_
  have F_leaves_in_ : ∃ f fd, FunD K "leaves_in" "leaves_in" (defArgs s_leaves_in) (defBody s_leaves_in) (defScope s_leaves_in) [] [] f fd ∧ mg "leaves_in" = some (.ref f) := by
    obtain ⟨fd, F⟩ := cd.def_ 5 (d := d_leaves_in) rfl
    exact ⟨_, fd, F, He.glo_ok X G (cd.fact 5 (f := .glo "leaves_in") rfl)⟩
  have c_leaves_in := ok_leaves_in (P := P) (w := w) (base := base) m_range F_leaves_in_
  have F_is_size_ : ∃ f fd, FunD K "is_size" "is_size" (defArgs s_is_size) (defBody s_is_size) (defScope s_is_size) [] [] f fd ∧ mg "is_size" = some (.ref f) := by
    obtain ⟨fd, F⟩ := cd.def_ 6 (d := d_is_size) rfl
    exact ⟨_, fd, F, He.glo_ok X G (cd.fact 6 (f := .glo "is_size") rfl)⟩
  have c_is_size := ok_is_size (P := P) (w := w) (base := base) m_FOLDS m_range c_leaves_in F_is_size_
  have F_is_word_of_ : ∃ f fd, FunD K "is_word_of" "is_word_of" (defArgs s_is_word_of) (defBody s_is_word_of) (defScope s_is_word_of) [] [] f fd ∧ mg "is_word_of" = some (.ref f) := by
    obtain ⟨fd, F⟩ := cd.def_ 7 (d := d_is_word_of) rfl
    exact ⟨_, fd, F, He.glo_ok X G (cd.fact 7 (f := .glo "is_word_of") rfl)⟩
  have c_is_word_of := ok_is_word_of (P := P) (w := w) (base := base) m_isinstance m_str m_len m_all F_is_word_of_
  have F_is_word_ : ∃ f fd, FunD K "is_word" "is_word" (defArgs s_is_word) (defBody s_is_word) (defScope s_is_word) [] [] f fd ∧ mg "is_word" = some (.ref f) := by
    obtain ⟨fd, F⟩ := cd.def_ 8 (d := d_is_word) rfl
    exact ⟨_, fd, F, He.glo_ok X G (cd.fact 8 (f := .glo "is_word") rfl)⟩
  have c_is_word := ok_is_word (P := P) (w := w) (base := base) m_isinstance m_str c_is_size m_len c_is_word_of c_folds_in F_is_word_
  have F_fits_folds_ : ∃ f fd, FunD K "fits_folds" "fits_folds" (defArgs s_fits_folds) (defBody s_fits_folds) (defScope s_fits_folds) [] [] f fd ∧ mg "fits_folds" = some (.ref f) := by
    obtain ⟨fd, F⟩ := cd.def_ 9 (d := d_fits_folds) rfl
    exact ⟨_, fd, F, He.glo_ok X G (cd.fact 9 (f := .glo "fits_folds") rfl)⟩
  have c_fits_folds := ok_fits_folds (P := P) (w := w) (base := base) m_isinstance m_str m_len m_FOLDS c_is_word_of m_SIGNS F_fits_folds_
  have F_need_folds_ : ∃ f fd, FunD K "need_folds" "need_folds" (defArgs s_need_folds) (defBody s_need_folds) (defScope s_need_folds) [] [] f fd ∧ mg "need_folds" = some (.ref f) := by
    obtain ⟨fd, F⟩ := cd.def_ 10 (d := d_need_folds) rfl
    exact ⟨_, fd, F, He.glo_ok X G (cd.fact 10 (f := .glo "need_folds") rfl)⟩
  have c_need_folds := ok_need_folds (P := P) (w := w) (base := base) c_fits_folds F_need_folds_
  have F_sign_in_ : ∃ f fd, FunD K "sign_in" "sign_in" (defArgs s_sign_in) (defBody s_sign_in) (defScope s_sign_in) [] [] f fd ∧ mg "sign_in" = some (.ref f) := by
    obtain ⟨fd, F⟩ := cd.def_ 11 (d := d_sign_in) rfl
    exact ⟨_, fd, F, He.glo_ok X G (cd.fact 11 (f := .glo "sign_in") rfl)⟩
  have c_sign_in := ok_sign_in (P := P) (w := w) (base := base) m_len m_MARK m_OTHER F_sign_in_
  have F_word_in_ : ∃ f fd, FunD K "word_in" "word_in" (defArgs s_word_in) (defBody s_word_in) (defScope s_word_in) [] [] f fd ∧ mg "word_in" = some (.ref f) := by
    obtain ⟨fd, F⟩ := cd.def_ 12 (d := d_word_in) rfl
    exact ⟨_, fd, F, He.glo_ok X G (cd.fact 12 (f := .glo "word_in") rfl)⟩
  have c_word_in := ok_word_in (P := P) (w := w) (base := base) c_leaves_in m_len m_range c_sign_in F_word_in_
  have F_word_of_ : ∃ f fd, FunD K "word_of" "word_of" (defArgs s_word_of) (defBody s_word_of) (defScope s_word_of) [] [] f fd ∧ mg "word_of" = some (.ref f) := by
    obtain ⟨fd, F⟩ := cd.def_ 13 (d := d_word_of) rfl
    exact ⟨_, fd, F, He.glo_ok X G (cd.fact 13 (f := .glo "word_of") rfl)⟩
  have c_word_of := ok_word_of (P := P) (w := w) (base := base) c_need_folds c_word_in F_word_of_
  have F_folds_of_ : ∃ f fd, FunD K "folds_of" "folds_of" (defArgs s_folds_of) (defBody s_folds_of) (defScope s_folds_of) [] [] f fd ∧ mg "folds_of" = some (.ref f) := by
    obtain ⟨fd, F⟩ := cd.def_ 14 (d := d_folds_of) rfl
    exact ⟨_, fd, F, He.glo_ok X G (cd.fact 14 (f := .glo "folds_of") rfl)⟩
  have c_folds_of := ok_folds_of (P := P) (w := w) (base := base) c_is_word c_folds_in F_folds_of_
  have F_is_folds_ : ∃ f fd, FunD K "is_folds" "is_folds" (defArgs s_is_folds) (defBody s_is_folds) (defScope s_is_folds) [] [] f fd ∧ mg "is_folds" = some (.ref f) := by
    obtain ⟨fd, F⟩ := cd.def_ 15 (d := d_is_folds) rfl
    exact ⟨_, fd, F, He.glo_ok X G (cd.fact 15 (f := .glo "is_folds") rfl)⟩
  have c_is_folds := ok_is_folds (P := P) (w := w) (base := base) c_fits_folds F_is_folds_
  have F__law_written_right_ : ∃ f fd, FunD K "_law_written_right" "_law_written_right" (defArgs s__law_written_right) (defBody s__law_written_right) (defScope s__law_written_right) [] [] f fd ∧ mg "_law_written_right" = some (.ref f) := by
    obtain ⟨fd, F⟩ := cd.def_ 16 (d := d__law_written_right) rfl
    exact ⟨_, fd, F, He.glo_ok X G (cd.fact 16 (f := .glo "_law_written_right") rfl)⟩
  have c__law_written_right := ok__law_written_right (P := P) (w := w) (base := base) c__law_like c_word_of c_folds_of c_is_folds c_is_word F__law_written_right_
  have F__law_roll_ : ∃ f fd, FunD K "_law_roll" "_law_roll" (defArgs s__law_roll) (defBody s__law_roll) (defScope s__law_roll) [] [] f fd ∧ mg "_law_roll" = some (.ref f) := by
    obtain ⟨fd, F⟩ := cd.def_ 17 (d := d__law_roll) rfl
    exact ⟨_, fd, F, He.glo_ok X G (cd.fact 17 (f := .glo "_law_roll") rfl)⟩
  have c__law_roll := ok__law_roll (P := P) (w := w) (base := base) m_int F__law_roll_
  have F__law_some_ : ∃ f fd, FunD K "_law_some" "_law_some" (defArgs s__law_some) (defBody s__law_some) (defScope s__law_some) [] [] f fd ∧ mg "_law_some" = some (.ref f) := by
    obtain ⟨fd, F⟩ := cd.def_ 18 (d := d__law_some) rfl
    exact ⟨_, fd, F, He.glo_ok X G (cd.fact 18 (f := .glo "_law_some") rfl)⟩
  have c__law_some := ok__law_some (P := P) (w := w) (base := base) c__law_roll m_len F__law_some_
  have F__law_folds_ : ∃ f fd, FunD K "_law_folds" "_law_folds" (defArgs s__law_folds) (defBody s__law_folds) (defScope s__law_folds) [] [] f fd ∧ mg "_law_folds" = some (.ref f) := by
    obtain ⟨fd, F⟩ := cd.def_ 19 (d := d__law_folds) rfl
    exact ⟨_, fd, F, He.glo_ok X G (cd.fact 19 (f := .glo "_law_folds") rfl)⟩
  have c__law_folds := ok__law_folds (P := P) (w := w) (base := base) c__law_roll m_range c__law_some F__law_folds_
  have F__law_paper_ : ∃ f fd, FunD K "_law_paper" "_law_paper" (defArgs s__law_paper) (defBody s__law_paper) (defScope s__law_paper) [] [] f fd ∧ mg "_law_paper" = some (.ref f) := by
    obtain ⟨fd, F⟩ := cd.def_ 20 (d := d__law_paper) rfl
    exact ⟨_, fd, F, He.glo_ok X G (cd.fact 20 (f := .glo "_law_paper") rfl)⟩
  have c__law_paper := ok__law_paper (P := P) (w := w) (base := base) m_range m_len m_int m_zip m_abs m_min m_tuple F__law_paper_
  have F__law_is_word_ : ∃ f fd, FunD K "_law_is_word" "_law_is_word" (defArgs s__law_is_word) (defBody s__law_is_word) (defScope s__law_is_word) [] [] f fd ∧ mg "_law_is_word" = some (.ref f) := by
    obtain ⟨fd, F⟩ := cd.def_ 21 (d := d__law_is_word) rfl
    exact ⟨_, fd, F, He.glo_ok X G (cd.fact 21 (f := .glo "_law_is_word") rfl)⟩
  have c__law_is_word := ok__law_is_word (P := P) (w := w) (base := base) m_isinstance m_str m_len m_int F__law_is_word_
  have F_is_whole_ : ∃ f fd, FunD K "is_whole" "is_whole" (defArgs s_is_whole) (defBody s_is_whole) (defScope s_is_whole) [] [] f fd ∧ mg "is_whole" = some (.ref f) := by
    obtain ⟨fd, F⟩ := cd.def_ 22 (d := d_is_whole) rfl
    exact ⟨_, fd, F, He.glo_ok X G (cd.fact 22 (f := .glo "is_whole") rfl)⟩
  have c_is_whole := ok_is_whole (P := P) (w := w) (base := base) m_isinstance m_int m_bool F_is_whole_
  have F_sign_at_ : ∃ f fd, FunD K "sign_at" "sign_at" (defArgs s_sign_at) (defBody s_sign_at) (defScope s_sign_at) [] [] f fd ∧ mg "sign_at" = some (.ref f) := by
    obtain ⟨fd, F⟩ := cd.def_ 23 (d := d_sign_at) rfl
    exact ⟨_, fd, F, He.glo_ok X G (cd.fact 23 (f := .glo "sign_at") rfl)⟩
  have c_sign_at := ok_sign_at (P := P) (w := w) (base := base) c_need_folds c_is_whole c_leaves_in m_len c_sign_in F_sign_at_
  have F__law_right_ : ∃ f fd, FunD K "_law_right" "_law_right" (defArgs s__law_right) (defBody s__law_right) (defScope s__law_right) [] [] f fd ∧ mg "_law_right" = some (.ref f) := by
    obtain ⟨fd, F⟩ := cd.def_ 24 (d := d__law_right) rfl
    exact ⟨_, fd, F, He.glo_ok X G (cd.fact 24 (f := .glo "_law_right") rfl)⟩
  have c__law_right := ok__law_right (P := P) (w := w) (base := base) c__law_folds c__law_paper c__law_like c_word_of c_is_word c_folds_of c_is_folds m_range c__law_roll m_len c_sign_at m_int m_list c__law_is_word m_isinstance m_str F__law_right_
  exact okL c__law_cup c__law_right c__law_written_right F
end FF.K41
open PySem PySem.W PySem.Calls PyProof.Rows
theorem PySem.Challenge.cw_foldsflat_k41_whole_words_of_folds_holds : PySem.Challenge.rw_foldsflat_k41_whole_words_of_folds.Holds := by
  w_on; o_law
  refine HandSHeadRun.head_any (r := OpenLaw.row PySem.Challenge.rw_foldsflat_k41_whole_words_of_folds) (q := view (OpenLaw.row PySem.Challenge.rw_foldsflat_k41_whole_words_of_folds).prog [37]) (H := FF.K41.hk) (ob := FF.K41.ob) (M := 4000) (loose := FF.K41.loose) (d := HandSHeadRun.topDef (OpenLaw.row PySem.Challenge.rw_foldsflat_k41_whole_words_of_folds).prog 37) (kwd := []) FF.K41.ob_eq
    (by kernel_rfl) (fun s => by kernel_rfl) FF.K41.run (by kernel_rfl) (by kernel_rfl) (by kernel_rfl) (by rfl) (by first | assumption | decide +kernel) (by decide +kernel) ⟨rfl, rfl, rfl, rfl, rfl, by decide +kernel⟩ ?hw ?hc
  case hw => w_witness2
  case hc =>
    refine L2.walk_ofE (l := PySem.Challenge.rw_foldsflat_k41_whole_words_of_folds) (n := 63) (k := 16) (x := "script") (CX := L2.CX0) rfl (by decide) (by kernel_rfl) ⟨rfl, by decide, by decide⟩ ?F (fun _ _ _ _ z => z)
    intro w mg fa h Y G hmg0
    obtain ⟨K, KX, c⟩ := Y
    have hmg : mg ("law" : PySem.Str) = some (.ref fa) := by
      have e : (HandSHeadRun.topDef (OpenLaw.row PySem.Challenge.rw_foldsflat_k41_whole_words_of_folds).prog 37).name = ("law" : PySem.Str) := by kernel_rfl
      rw [← e]
      exact hmg0
    obtain ⟨hL, fd, hb, hF⟩ := FF.K41.facts (P := (PySem.Challenge.rw_foldsflat_k41_whole_words_of_folds).prog) (w := w) KX G hmg c
    exact ⟨K, fd, FF.spF K 1 FF.K41.F_law, KX, hb, fun H a ns hl _ hS => FF.law_sp hL FF.K41.law_true hl hS, hF⟩


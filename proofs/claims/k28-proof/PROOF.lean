import PyProof.Rows.All
import Wide.All
import OpenK.AllK
import Wide.FinOn
import HandS.ForMost
import HandS.Flow
import HandS.IsInst
import HandS.Wide
import HandS.Style
import HandS.Zip
import HandS.TupAny
import HandS.Replace
import HandS.More
import PyProof.Rows.StrRev
import HandS.Exc
import HandS.ExcOwn
import HandS.ExcIs
import HandS.WordsExc
import HandS.TryMany
import HandS.ExcBuiltin
import HandS.WideBits
import KE.DataCmp
import KE.DataMinMax
import KE.DataEq
import KE.SortData
import PySem.Challenge.RW_arearoutes_k28_whole_deeds_in_order
set_option Elab.async false
set_option linter.all false
set_option maxRecDepth 100000
set_option maxHeartbeats 0
/-! Ar: data in the place of values; a walk over the text by data. -/
namespace Ar
open PySem PySem.Spec PyProof.Rows L2

/-! ### data -/
inductive D where
  | non | bl (b : Bool) | int (i : Int) | str (x : Str) | tup (l : List D) | lst (l : List D) | frz (l : List D) | cell (p : Addr) | dct (ks : List Str) (l : List D) | rng (lo hi : Int)
abbrev Sto := List (Addr × List D)
abbrev Ro := List (Option D)
def keys (S : Sto) : List Addr := S.map (·.1)
/-- a list of the written part -/
def KL (K : PySem.W.Frag) (a : Addr) (xs : List V) : Prop := ∃ (o : Obj) (its : Array Value) (n : Nat), K.lookup a = some o ∧ o.cls = .type "list" ∧ o.dict = none ∧ o.data = .seq its n ∧ its.size ≤ sizeLine ∧ Vals xs its.toList
mutual
def Rep (K : PySem.W.Frag) (Z : List Addr) (H : Hp) : D → V → Prop
  | .non, v => v = .non
  | .bl b, v => v = .bl b
  | .int i, v => v = .int i
  | .str x, v => v = .str x
  | .tup l, v => ∃ p vs, v = .ref p ∧ SqT K H p vs ∧ RepL K Z H l vs
  | .lst l, v => ∃ p vs, v = .ref p ∧ p ∉ Z ∧ H p = some (.lst vs) ∧ RepL K Z H l vs
  | .frz l, v => ∃ p vs, v = .ref p ∧ ((p ∉ Z ∧ Rd H p (.lst vs)) ∨ KL K p vs) ∧ RepL K Z H l vs
  | .cell p, v => v = .ref p
  | .dct ks l, v => ∃ p vs, v = .ref p ∧ p ∉ Z ∧ H p = some (.dK ((ks.map Sum.inr).zip vs)) ∧ RepL K Z H l vs
  | .rng lo hi, v => ∃ i, v = .int i ∧ lo ≤ i ∧ i ≤ hi
def RepL (K : PySem.W.Frag) (Z : List Addr) (H : Hp) : List D → List V → Prop
  | [], vs => vs = []
  | d :: l, vs => ∃ v r, vs = v :: r ∧ Rep K Z H d v ∧ RepL K Z H l r
end
def Grow (Z : List Addr) (H H' : Hp) : Prop := ∀ b x, b ∉ Z → H b = some x → H' b = some x
def Zl (Z : List Addr) (H : Hp) : Prop := ∀ p, p ∈ Z → ∃ vs, H p = some (.lst vs)
theorem Grow.refl {Z : List Addr} {H : Hp} : Grow Z H H := fun _ _ _ h => h
theorem Grow.trans {Z : List Addr} {H H1 H2 : Hp} (a : Grow Z H H1) (b : Grow Z H1 H2) : Grow Z H H2 := fun c x n h => b c x n (a c x n h)
theorem Grow.new {Z : List Addr} {H : Hp} {p : Addr} {o : HO} (h : H p = none) : Grow Z H (upd H p o) := fun b x _ e => by
  rw [upd_ne (ne_of_none e h)]
  exact e
theorem Zl.notup {Z : List Addr} {H : Hp} {p : Addr} {vs : List V} (z : Zl Z H) (r : Rd H p (.tup vs)) : p ∉ Z := fun m => by
  obtain ⟨us, e⟩ := z p m
  rcases r with r | ⟨o, r⟩
  · rw [e] at r
    cases r
  · rw [e] at r
    cases r
theorem SqT.grow {K : PySem.W.Frag} {Z : List Addr} {H H' : Hp} {p : Addr} {vs : List V} (z : Zl Z H) (g : Grow Z H H') (h : SqT K H p vs) : SqT K H' p vs := by
  rcases h with h | h
  · have n := z.notup h
    rcases h with h | ⟨o, h⟩
    · exact .inl (.inl (g _ _ n h))
    · exact .inl (.inr ⟨o, g _ _ n h⟩)
  · exact .inr h
theorem frz_sq {K : PySem.W.Frag} {Z : List Addr} {H : Hp} {p : Addr} {vs : List V} (h : (p ∉ Z ∧ Rd H p (.lst vs)) ∨ KL K p vs) : SqL K H p vs := by
  rcases h with ⟨_, h⟩ | h
  · exact .inl h
  · exact .inr h
theorem frz_grow {K : PySem.W.Frag} {Zg Z : List Addr} {H H' : Hp} {p : Addr} {vs : List V} (g : Grow Zg H H') (hs : ∀ p, p ∈ Zg → p ∈ Z) (h : (p ∉ Z ∧ Rd H p (.lst vs)) ∨ KL K p vs) : (p ∉ Z ∧ Rd H' p (.lst vs)) ∨ KL K p vs := by
  rcases h with ⟨n, h⟩ | h
  · refine .inl ⟨n, ?_⟩
    rcases h with h | ⟨o, h⟩
    · exact .inl (g _ _ (fun m => n (hs _ m)) h)
    · exact .inr ⟨o, g _ _ (fun m => n (hs _ m)) h⟩
  · exact .inr h
mutual
theorem Rep.grow {K : PySem.W.Frag} {Zg Z : List Addr} {H H' : Hp} (z : Zl Zg H) (g : Grow Zg H H') (hs : ∀ p, p ∈ Zg → p ∈ Z) : ∀ {d : D} {v : V}, Rep K Z H d v → Rep K Z H' d v
  | .non, _, h => by unfold Rep at h ⊢; exact h
  | .bl _, _, h => by unfold Rep at h ⊢; exact h
  | .int _, _, h => by unfold Rep at h ⊢; exact h
  | .rng _ _, _, h => by unfold Rep at h ⊢; exact h
  | .str _, _, h => by unfold Rep at h ⊢; exact h
  | .cell _, _, h => by unfold Rep at h ⊢; exact h
  | .dct ks l, v, h => by
    unfold Rep at h ⊢
    obtain ⟨p, vs, e, n, s, r⟩ := h
    exact ⟨p, vs, e, n, g _ _ (fun m => n (hs _ m)) s, RepL.grow z g hs r⟩
  | .tup l, v, h => by
    unfold Rep at h ⊢
    obtain ⟨p, vs, e, s, r⟩ := h
    exact ⟨p, vs, e, SqT.grow z g s, RepL.grow z g hs r⟩
  | .lst l, v, h => by
    unfold Rep at h ⊢
    obtain ⟨p, vs, e, n, s, r⟩ := h
    exact ⟨p, vs, e, n, g _ _ (fun m => n (hs _ m)) s, RepL.grow z g hs r⟩
  | .frz l, v, h => by
    unfold Rep at h ⊢
    obtain ⟨p, vs, e, s, r⟩ := h
    exact ⟨p, vs, e, frz_grow g hs s, RepL.grow z g hs r⟩
theorem RepL.grow {K : PySem.W.Frag} {Zg Z : List Addr} {H H' : Hp} (z : Zl Zg H) (g : Grow Zg H H') (hs : ∀ p, p ∈ Zg → p ∈ Z) : ∀ {l : List D} {vs : List V}, RepL K Z H l vs → RepL K Z H' l vs
  | [], _, h => by unfold RepL at h ⊢; exact h
  | d :: l, vs, h => by
    unfold RepL at h ⊢
    obtain ⟨v, r, e, h1, h2⟩ := h
    exact ⟨v, r, e, Rep.grow z g hs h1, RepL.grow z g hs h2⟩
end
theorem RepL.length {K : PySem.W.Frag} {Z : List Addr} {H : Hp} : ∀ {l : List D} {vs : List V}, RepL K Z H l vs → vs.length = l.length
  | [], vs, h => by
    unfold RepL at h
    rw [h] <;> rfl
  | d :: l, vs, h => by
    unfold RepL at h
    obtain ⟨v, r, e, _, h2⟩ := h
    rw [e, List.length_cons, List.length_cons, RepL.length h2]
theorem RepL.get {K : PySem.W.Frag} {Z : List Addr} {H : Hp} : ∀ {l : List D} {vs : List V} {i : Nat} {d : D}, RepL K Z H l vs → l[i]? = some d → ∃ v, vs[i]? = some v ∧ Rep K Z H d v
  | [], _, _, _, _, e => by simp at e
  | c :: l, vs, 0, d, h, e => by
    unfold RepL at h
    obtain ⟨v, r, e1, h1, _⟩ := h
    have e2 : c = d := Option.some.inj e
    subst e2
    exact ⟨v, by rw [e1] <;> rfl, h1⟩
  | c :: l, vs, i + 1, d, h, e => by
    unfold RepL at h
    obtain ⟨v, r, e1, _, h2⟩ := h
    obtain ⟨u, e3, h3⟩ := RepL.get (i := i) (d := d) h2 e
    exact ⟨u, by rw [e1] <;> exact e3, h3⟩
theorem RepL.get2 {K : PySem.W.Frag} {Z : List Addr} {H : Hp} : ∀ {l : List D} {vs : List V} {i : Nat} {v : V}, RepL K Z H l vs → vs[i]? = some v → ∃ d, l[i]? = some d ∧ Rep K Z H d v := fun {l vs i v} h e => by
  have hl := h.length
  have hi : i < vs.length := (List.getElem?_eq_some_iff.mp e).1
  have hi2 : i < l.length := by omega
  obtain ⟨u, e3, h3⟩ := h.get (List.getElem?_eq_getElem hi2)
  rw [e] at e3
  cases e3
  exact ⟨_, List.getElem?_eq_getElem hi2, h3⟩
theorem RepL.append {K : PySem.W.Frag} {Z : List Addr} {H : Hp} : ∀ {l l2 : List D} {vs ws : List V}, RepL K Z H l vs → RepL K Z H l2 ws → RepL K Z H (l ++ l2) (vs ++ ws)
  | [], _, vs, _, h, h2 => by
    unfold RepL at h
    rw [h]
    exact h2
  | d :: l, l2, vs, ws, h, h2 => by
    unfold RepL at h
    obtain ⟨v, r, e, h1, h3⟩ := h
    rw [e]
    show RepL K Z H (d :: (l ++ l2)) (v :: (r ++ ws))
    unfold RepL
    exact ⟨v, _, rfl, h1, RepL.append h3 h2⟩
theorem RepL.nil {K : PySem.W.Frag} {Z : List Addr} {H : Hp} : RepL K Z H [] [] := by
  unfold RepL
  rfl
theorem RepL.cons {K : PySem.W.Frag} {Z : List Addr} {H : Hp} {d : D} {v : V} {l : List D} {vs : List V} (h : Rep K Z H d v) (r : RepL K Z H l vs) : RepL K Z H (d :: l) (v :: vs) := by
  unfold RepL
  exact ⟨v, vs, rfl, h, r⟩
theorem RepL.one {K : PySem.W.Frag} {Z : List Addr} {H : Hp} {d : D} {v : V} (h : Rep K Z H d v) : RepL K Z H [d] [v] := .cons h .nil
theorem RepL.uncons {K : PySem.W.Frag} {Z : List Addr} {H : Hp} {d : D} {l : List D} {vs : List V} (h : RepL K Z H (d :: l) vs) : ∃ v r, vs = v :: r ∧ Rep K Z H d v ∧ RepL K Z H l r := by
  unfold RepL at h
  exact h
theorem RepL.un0 {K : PySem.W.Frag} {Z : List Addr} {H : Hp} {vs : List V} (h : RepL K Z H [] vs) : vs = [] := by
  unfold RepL at h
  exact h
theorem RepL.ints {K : PySem.W.Frag} {Z : List Addr} {H : Hp} : ∀ {ns : List Int} {vs : List V}, RepL K Z H (ns.map D.int) vs → vs = ns.map V.int
  | [], _, h => h.un0
  | n :: ns, vs, h => by
    obtain ⟨v, r, e, h1, h2⟩ := RepL.uncons h
    have e2 : v = .int n := h1
    rw [e, e2, RepL.ints h2] <;> rfl
theorem RepL.of_ints {K : PySem.W.Frag} {Z : List Addr} {H : Hp} : ∀ (ns : List Int), RepL K Z H (ns.map D.int) (ns.map V.int)
  | [] => .nil
  | n :: ns => .cons (show Rep K Z H (.int n) (.int n) by unfold Rep; rfl) (RepL.of_ints ns)
/-! ### the store, the names -/
structure Store (K : PySem.W.Frag) (Zh : List Addr) (H : Hp) (S : Sto) : Prop where
  nd : (keys S).Nodup
  st : ∀ p l, (p, l) ∈ S → ∃ vs, H p = some (.lst vs) ∧ RepL K (keys S ++ Zh) H l vs
  hid : ∀ p, p ∈ Zh → p ∉ keys S ∧ ∃ vs, H p = some (.lst vs)
theorem Store.zl {K : PySem.W.Frag} {Zh : List Addr} {H : Hp} {S : Sto} (s : Store K Zh H S) : Zl (keys S) H := fun p m => by
  obtain ⟨⟨q, l⟩, h, e⟩ := List.mem_map.mp m
  cases e
  obtain ⟨vs, h1, _⟩ := s.st _ _ h
  exact ⟨vs, h1⟩
theorem sub_l {A B : List Addr} : ∀ p, p ∈ A → p ∈ A ++ B := fun _ h => List.mem_append_left _ h
theorem Store.gr {K : PySem.W.Frag} {Zh : List Addr} {H H' : Hp} {S : Sto} (s : Store K Zh H S) (g : Grow (keys S) H H') {d : D} {v : V} (r : Rep K (keys S ++ Zh) H d v) : Rep K (keys S ++ Zh) H' d v := Rep.grow s.zl g sub_l r
theorem Store.grL {K : PySem.W.Frag} {Zh : List Addr} {H H' : Hp} {S : Sto} (s : Store K Zh H S) (g : Grow (keys S) H H') {d : List D} {v : List V} (r : RepL K (keys S ++ Zh) H d v) : RepL K (keys S ++ Zh) H' d v := RepL.grow s.zl g sub_l r
theorem Store.free {K : PySem.W.Frag} {Zh : List Addr} {H : Hp} {S : Sto} {p : Addr} (s : Store K Zh H S) (hp : H p = none) : p ∉ keys S ++ Zh := fun m => by
  rcases List.mem_append.mp m with m | m
  · obtain ⟨vs, e⟩ := s.zl p m
    rw [hp] at e
    cases e
  · obtain ⟨_, vs, e⟩ := s.hid p m
    rw [hp] at e
    cases e
/-- where all that was tracked is kept -/
theorem Store.keep {K : PySem.W.Frag} {Zh : List Addr} {H H' : Hp} {S : Sto} (s : Store K Zh H S) (g : ∀ b x, H b = some x → H' b = some x) : Store K Zh H' S := ⟨s.nd, fun q l m => by
  obtain ⟨vs, h1, h2⟩ := s.st q l m
  exact ⟨vs, g _ _ h1, s.grL (fun b x _ h => g b x h) h2⟩, fun p m => by
  obtain ⟨n, vs, e⟩ := s.hid p m
  exact ⟨n, vs, g _ _ e⟩⟩
theorem Store.new {K : PySem.W.Frag} {Zh : List Addr} {H : Hp} {S : Sto} {p : Addr} {o : HO} (s : Store K Zh H S) (hp : H p = none) : Store K Zh (upd H p o) S := s.keep fun b x e => by
  rw [upd_ne (ne_of_none e hp)]
  exact e
structure Ev (K : PySem.W.Frag) (Zh : List Addr) (H : Hp) (σ : L2.St) (ρ : Ro) (S : Sto) : Prop where
  st : Store K Zh H S
  len : σ.length = ρ.length
  var : ∀ (i : Nat) (d : D), ρ[i]? = some (some d) → ∃ v, σ[i]? = some (some v) ∧ Rep K (keys S ++ Zh) H d v
theorem Ev.next {K : PySem.W.Frag} {Zh : List Addr} {H H' : Hp} {σ : L2.St} {ρ : Ro} {S S' : Sto} (E : Ev K Zh H σ ρ S) (k : keys S' = keys S) (g : Grow (keys S) H H') (s : Store K Zh H' S') : Ev K Zh H' σ ρ S' :=
  ⟨s, E.len, fun i d h => by
    obtain ⟨v, e, r⟩ := E.var i d h
    exact ⟨v, e, by rw [k]; exact E.st.gr g r⟩⟩
theorem Ev.put {K : PySem.W.Frag} {Zh : List Addr} {H : Hp} {σ : L2.St} {ρ : Ro} {S : Sto} {i : Nat} {d : D} {v : V} (E : Ev K Zh H σ ρ S) (r : Rep K (keys S ++ Zh) H d v) : Ev K Zh H (σ.set i (some v)) (ρ.set i (some d)) S :=
  ⟨E.st, by rw [List.length_set, List.length_set]; exact E.len, fun j c h => by
    by_cases hj : i = j
    · subst hj
      by_cases hl : i < ρ.length
      · rw [List.getElem?_set_self hl] at h
        cases h
        exact ⟨v, by rw [List.getElem?_set_self (by rw [E.len]; exact hl)], r⟩
      · rw [List.getElem?_eq_none (by rw [List.length_set]; omega)] at h
        cases h
    · rw [List.getElem?_set_ne hj] at h
      rw [List.getElem?_set_ne hj]
      exact E.var j c h⟩
/-! ### what is wanted behind a piece -/
def Post (K : PySem.W.Frag) (Zh : List Addr) (H : Hp) (S : Sto) (Φ : D → Sto → Prop) (Q : VK) : Prop :=
  ∀ v H' d S', keys S' = keys S → Grow (keys S) H H' → Store K Zh H' S' → Rep K (keys S ++ Zh) H' d v → Φ d S' → Q v H'
def PostL (K : PySem.W.Frag) (Zh : List Addr) (H : Hp) (S : Sto) (n : Nat) (Φ : List D → Sto → Prop) (Q : List V → Hp → Prop) : Prop :=
  ∀ vs H' ds S', keys S' = keys S → Grow (keys S) H H' → Store K Zh H' S' → RepL K (keys S ++ Zh) H' ds vs → ds.length = n → Φ ds S' → Q vs H'
def PostT (K : PySem.W.Frag) (Zh : List Addr) (H : Hp) (S : Sto) (Φ : Bool → Sto → Prop) (Q : Bool → Hp → Prop) : Prop :=
  ∀ b H' S', keys S' = keys S → Grow (keys S) H H' → Store K Zh H' S' → Φ b S' → Q b H'
/-- go on from the state behind a part -/
theorem Post.next {K : PySem.W.Frag} {Zh : List Addr} {H H1 : Hp} {S S1 : Sto} {Φ : D → Sto → Prop} {Q : VK} (P : Post K Zh H S Φ Q) (k : keys S1 = keys S) (g : Grow (keys S) H H1) : Post K Zh H1 S1 Φ Q := fun v H' d S' k' g' s' r q =>
  P v H' d S' (k'.trans k) (g.trans (by rw [← k]; exact g')) s' (by rw [← k]; exact r) q
theorem PostL.next {K : PySem.W.Frag} {Zh : List Addr} {H H1 : Hp} {S S1 : Sto} {n : Nat} {Φ : List D → Sto → Prop} {Q : List V → Hp → Prop} (P : PostL K Zh H S n Φ Q) (k : keys S1 = keys S) (g : Grow (keys S) H H1) : PostL K Zh H1 S1 n Φ Q := fun v H' d S' k' g' s' r l q =>
  P v H' d S' (k'.trans k) (g.trans (by rw [← k]; exact g')) s' (by rw [← k]; exact r) l q
theorem PostT.next {K : PySem.W.Frag} {Zh : List Addr} {H H1 : Hp} {S S1 : Sto} {Φ : Bool → Sto → Prop} {Q : Bool → Hp → Prop} (P : PostT K Zh H S Φ Q) (k : keys S1 = keys S) (g : Grow (keys S) H H1) : PostT K Zh H1 S1 Φ Q := fun v H' S' k' g' s' q =>
  P v H' S' (k'.trans k) (g.trans (by rw [← k]; exact g')) s' q
theorem Post.here {K : PySem.W.Frag} {Zh : List Addr} {H : Hp} {S : Sto} {Φ : D → Sto → Prop} {Q : VK} {d : D} {v : V} (P : Post K Zh H S Φ Q) (s : Store K Zh H S) (r : Rep K (keys S ++ Zh) H d v) (q : Φ d S) : Q v H := P v H d S rfl Grow.refl s r q
theorem Post.tup {K : PySem.W.Frag} {Zh : List Addr} {H : Hp} {S : Sto} {Φ : D → Sto → Prop} {Q : VK} {l : List D} {vs : List V} {p : Addr} (P : Post K Zh H S Φ Q) (s : Store K Zh H S) (r : RepL K (keys S ++ Zh) H l vs) (q : Φ (.tup l) S) (hp : H p = none) : Q (.ref p) (upd H p (.tup vs)) :=
  P _ _ _ S rfl (Grow.new hp) (s.new hp) (show Rep K (keys S ++ Zh) (upd H p (.tup vs)) (.tup l) (.ref p) by
    unfold Rep
    exact ⟨p, vs, rfl, .inl (.inl upd_same), s.grL (Grow.new hp) r⟩) q
theorem Post.lst {K : PySem.W.Frag} {Zh : List Addr} {H : Hp} {S : Sto} {Φ : D → Sto → Prop} {Q : VK} {l : List D} {vs : List V} {p : Addr} (P : Post K Zh H S Φ Q) (s : Store K Zh H S) (r : RepL K (keys S ++ Zh) H l vs) (q : Φ (.lst l) S) (hp : H p = none) : Q (.ref p) (upd H p (.lst vs)) :=
  P _ _ _ S rfl (Grow.new hp) (s.new hp) (show Rep K (keys S ++ Zh) (upd H p (.lst vs)) (.lst l) (.ref p) by
    unfold Rep
    exact ⟨p, vs, rfl, s.free hp, upd_same, s.grL (Grow.new hp) r⟩) q

/-! ### the judgements -/
def DE (X : Cx) (e : Expr) (ρ : Ro) (S : Sto) (Φ : D → Sto → Prop) : Prop :=
  ∀ (Zh : List Addr) (pins : List (Addr × Obj)) (s : Shared) (σ : L2.St) (H : Hp) (Q : VK), Inv X pins σ H s → Ev X.K Zh H σ ρ S → Post X.K Zh H S Φ Q → wpAny (model X.prog X.w) X.A (eval e X.env) (EP X pins σ Q) X.xe s
def DT (X : Cx) (e : Expr) (ρ : Ro) (S : Sto) (Φ : Bool → Sto → Prop) : Prop :=
  ∀ (Zh : List Addr) (pins : List (Addr × Obj)) (s : Shared) (σ : L2.St) (H : Hp) (Q : Bool → Hp → Prop), Inv X pins σ H s → Ev X.K Zh H σ ρ S → PostT X.K Zh H S Φ Q → wpAny (model X.prog X.w) X.A (isTrue e X.env (eval e X.env)) (TP X pins σ Q) X.xe s
def DA (X : Cx) (es : List Expr) (ρ : Ro) (S : Sto) (Φ : List D → Sto → Prop) : Prop :=
  ∀ (Zh : List Addr) (pos : Pos) (pins : List (Addr × Obj)) (s : Shared) (σ : L2.St) (H : Hp) (Q : List V → Hp → Prop), Inv X pins σ H s → Ev X.K Zh H σ ρ S → PostL X.K Zh H S es.length Φ Q → wpAny (model X.prog X.w) X.A (spliced (backTo pos (starEach es X.env))) (AP X pins σ Q) X.xe s
/-- the widest readings -/
def tW (X : Cx) (e : Expr) : TE := fun σ H Q => ∀ (pins : List (Addr × Obj)) (s : Shared), Inv X pins σ H s → wpAny (model X.prog X.w) X.A (eval e X.env) (EP X pins σ Q) X.xe s
def ttW (X : Cx) (e : Expr) : TT := fun σ H Q => ∀ (pins : List (Addr × Obj)) (s : Shared), Inv X pins σ H s → wpAny (model X.prog X.w) X.A (isTrue e X.env (eval e X.env)) (TP X pins σ Q) X.xe s
def taW (X : Cx) (es : List Expr) : TA := fun σ H Q => ∀ (pos : Pos) (pins : List (Addr × Obj)) (s : Shared), Inv X pins σ H s → wpAny (model X.prog X.w) X.A (spliced (backTo pos (starEach es X.env))) (AP X pins σ Q) X.xe s
section
variable {X : Cx} {ρ : Ro} {S : Sto}
theorem pe_w {e : Expr} : PE X e (tW X e) := ⟨fun pins s _ _ _ I h => h pins s I⟩
theorem pt_w {e : Expr} : PT X e (ttW X e) := ⟨fun pins s _ _ _ I h => h pins s I⟩
theorem pa_w {es : List Expr} : PA X es (taW X es) := ⟨fun pos pins s _ _ _ I h => h pos pins s I⟩
theorem DE.tw {e : Expr} {Φ : D → Sto → Prop} {Zh : List Addr} {σ : L2.St} {H : Hp} {Q : VK} (h : DE X e ρ S Φ) (E : Ev X.K Zh H σ ρ S) (q : Post X.K Zh H S Φ Q) : tW X e σ H Q := fun pins s I => h Zh pins s σ H Q I E q
theorem DT.tw {e : Expr} {Φ : Bool → Sto → Prop} {Zh : List Addr} {σ : L2.St} {H : Hp} {Q : Bool → Hp → Prop} (h : DT X e ρ S Φ) (E : Ev X.K Zh H σ ρ S) (q : PostT X.K Zh H S Φ Q) : ttW X e σ H Q := fun pins s I => h Zh pins s σ H Q I E q
theorem DA.tw {es : List Expr} {Φ : List D → Sto → Prop} {Zh : List Addr} {σ : L2.St} {H : Hp} {Q : List V → Hp → Prop} (h : DA X es ρ S Φ) (E : Ev X.K Zh H σ ρ S) (q : PostL X.K Zh H S es.length Φ Q) : taW X es σ H Q := fun pos pins s I => h Zh pos pins s σ H Q I E q
theorem DE.of {e : Expr} {t : TE} {Φ : D → Sto → Prop} (p : PE X e t) (h : ∀ Zh σ H Q, Ev X.K Zh H σ ρ S → Post X.K Zh H S Φ Q → t σ H Q) : DE X e ρ S Φ := fun Zh pins s σ H Q I E q => p.run pins s σ H Q I (h Zh σ H Q E q)
theorem DT.of {e : Expr} {t : TT} {Φ : Bool → Sto → Prop} (p : PT X e t) (h : ∀ Zh σ H Q, Ev X.K Zh H σ ρ S → PostT X.K Zh H S Φ Q → t σ H Q) : DT X e ρ S Φ := fun Zh pins s σ H Q I E q => p.run pins s σ H Q I (h Zh σ H Q E q)
theorem DA.of {es : List Expr} {t : TA} {Φ : List D → Sto → Prop} (p : PA X es t) (h : ∀ Zh σ H Q, Ev X.K Zh H σ ρ S → PostL X.K Zh H S es.length Φ Q → t σ H Q) : DA X es ρ S Φ := fun Zh pos pins s σ H Q I E q => p.run pos pins s σ H Q I (h Zh σ H Q E q)
/-- a part, then the rest from its state -/
theorem DE.bind {e : Expr} {Ψ : D → Sto → Prop} {Zh : List Addr} {σ : L2.St} {H : Hp} {Q : VK} (h : DE X e ρ S Ψ) (E : Ev X.K Zh H σ ρ S)
    (k : ∀ v H1 d S1, keys S1 = keys S → Grow (keys S) H H1 → Ev X.K Zh H1 σ ρ S1 → Rep X.K (keys S1 ++ Zh) H1 d v → Ψ d S1 → Q v H1) : tW X e σ H Q :=
  h.tw E fun v H1 d S1 k1 g1 s1 r1 q1 => k v H1 d S1 k1 g1 (E.next k1 g1 s1) (by rw [k1]; exact r1) q1
end

/-! ### operations by values -/
def DO (X : Cx) (f : Value → Value → Sem Value) (a b : D) (S : Sto) (Φ : D → Sto → Prop) : Prop :=
  ∀ (Zh : List Addr) (pins : List (Addr × Obj)) (s : Shared) (σ : L2.St) (H : Hp) (x y : V) (v u : Value) (Q : VK), Inv X pins σ H s → Store X.K Zh H S → Rep X.K (keys S ++ Zh) H a x → Rep X.K (keys S ++ Zh) H b y → RelV x v → RelV y u → Post X.K Zh H S Φ Q →
    wpAny (model X.prog X.w) X.A (f v u) (EP X pins σ Q) X.xe s
def rW (X : Cx) (f : Value → Value → Sem Value) : R2 := fun x y H Q => ∀ (pins : List (Addr × Obj)) (s : Shared) (σ : L2.St) (v u : Value), Inv X pins σ H s → RelV x v → RelV y u → wpAny (model X.prog X.w) X.A (f v u) (EP X pins σ Q) X.xe s
section
variable {X : Cx} {ρ : Ro} {S : Sto} {f : Value → Value → Sem Value} {a b : D} {Φ : D → Sto → Prop}
theorem op_w : OpR X f (rW X f) := fun pins s σ _ _ _ v u _ I rx ry h => h pins s σ v u I rx ry
theorem DO.of {r : R2} (o : OpR X f r) (h : ∀ Zh H x y Q, Store X.K Zh H S → Rep X.K (keys S ++ Zh) H a x → Rep X.K (keys S ++ Zh) H b y → Post X.K Zh H S Φ Q → r x y H Q) : DO X f a b S Φ :=
  fun Zh pins s σ H x y v u Q I st ra rb rx ry q => o pins s σ H x y v u Q I rx ry (h Zh H x y Q st ra rb q)
theorem DO.rw {Zh : List Addr} {H : Hp} {x y : V} {Q : VK} (h : DO X f a b S Φ) (st : Store X.K Zh H S) (ra : Rep X.K (keys S ++ Zh) H a x) (rb : Rep X.K (keys S ++ Zh) H b y) (q : Post X.K Zh H S Φ Q) : rW X f x y H Q :=
  fun pins s σ v u I rx ry => h Zh pins s σ H x y v u Q I st ra rb rx ry q
theorem two {e1 e2 : Expr} {Zh : List Addr} {σ : L2.St} {H : Hp} {Q : VK} (h : DE X e1 ρ S fun da S1 => DE X e2 ρ S1 fun db S2 => DO X f da db S2 Φ) (E : Ev X.K Zh H σ ρ S) (P : Post X.K Zh H S Φ Q) : tOp (rW X f) (tW X e1) (tW X e2) σ H Q :=
  h.bind E fun x H1 da S1 k1 g1 E1 ra h1 => h1.bind E1 fun y H2 db S2 k2 g2 E2 rb h2 =>
    h2.rw E2.st (by rw [k2]; exact E1.st.gr g2 ra) rb ((P.next k1 g1).next k2 g2)
theorem de_bin {op : Operator} {e1 e2 : Expr} {pos : Pos} (h : DE X e1 ρ S fun da S1 => DE X e2 ρ S1 fun db S2 => DO X (binaryOp op) da db S2 Φ) : DE X (.BinOp e1 op e2 pos) ρ S Φ :=
  DE.of (pe_op op_w pe_w pe_w) fun _ _ _ _ E P => two h E P
theorem de_cmp {op : CmpOp} {e1 e2 : Expr} {pos : Pos} (hm : behindInMarks op e2 = false) (h : DE X e1 ρ S fun da S1 => DE X e2 ρ S1 fun db S2 => DO X (compareOp op) da db S2 Φ) : DE X (.Compare e1 [op] [e2] pos) ρ S Φ :=
  DE.of (pe_cmpR op_w pe_w pe_w hm) fun _ _ _ _ E P => two h E P
theorem dt_cmp {op : CmpOp} {e1 e2 : Expr} {pos : Pos} {Φ : Bool → Sto → Prop} (hm : behindInMarks op e2 = false) (h : DE X e1 ρ S fun da S1 => DE X e2 ρ S1 fun db S2 => DO X (compareOp op) da db S2 fun d S3 => ∃ k, d = .bl k ∧ Φ k S3) : DT X (.Compare e1 [op] [e2] pos) ρ S Φ :=
  DT.of (pt_cmpR op_w pe_w pe_w hm) fun Zh σ H Q E P => two h E fun v H' d S' k g s r q => by
    obtain ⟨c, rfl, q⟩ := q
    exact ⟨c, by unfold Rep at r; exact r, P c H' S' k g s q⟩
/-- ints -/
theorem rep_int {K : PySem.W.Frag} {Z : List Addr} {H : Hp} {i : Int} : Rep K Z H (.int i) (.int i) := by
  unfold Rep
  rfl
theorem rep_bl {K : PySem.W.Frag} {Z : List Addr} {H : Hp} {i : Bool} : Rep K Z H (.bl i) (.bl i) := by
  unfold Rep
  rfl
theorem rep_str {K : PySem.W.Frag} {Z : List Addr} {H : Hp} {i : Str} : Rep K Z H (.str i) (.str i) := by
  unfold Rep
  rfl
theorem rep_non {K : PySem.W.Frag} {Z : List Addr} {H : Hp} : Rep K Z H .non .non := by
  unfold Rep
  rfl
theorem Rep.int {K : PySem.W.Frag} {Z : List Addr} {H : Hp} {i : Int} {v : V} (h : Rep K Z H (.int i) v) : v = .int i := by
  unfold Rep at h
  exact h
theorem Rep.rng {K : PySem.W.Frag} {Z : List Addr} {H : Hp} {lo hi : Int} {v : V} (h : Rep K Z H (.rng lo hi) v) : ∃ i, v = .int i ∧ lo ≤ i ∧ i ≤ hi := by
  unfold Rep at h
  exact h
theorem rep_rng {K : PySem.W.Frag} {Z : List Addr} {H : Hp} {lo hi i : Int} (h1 : lo ≤ i) (h2 : i ≤ hi) : Rep K Z H (.rng lo hi) (.int i) := by
  unfold Rep
  exact ⟨i, rfl, h1, h2⟩
theorem Rep.bl {K : PySem.W.Frag} {Z : List Addr} {H : Hp} {i : Bool} {v : V} (h : Rep K Z H (.bl i) v) : v = .bl i := by
  unfold Rep at h
  exact h
theorem Rep.str {K : PySem.W.Frag} {Z : List Addr} {H : Hp} {i : Str} {v : V} (h : Rep K Z H (.str i) v) : v = .str i := by
  unfold Rep at h
  exact h
theorem Rep.non {K : PySem.W.Frag} {Z : List Addr} {H : Hp} {v : V} (h : Rep K Z H .non v) : v = .non := by
  unfold Rep at h
  exact h
theorem Rep.tup {K : PySem.W.Frag} {Z : List Addr} {H : Hp} {l : List D} {v : V} (h : Rep K Z H (.tup l) v) : ∃ p vs, v = .ref p ∧ SqT K H p vs ∧ RepL K Z H l vs := by
  unfold Rep at h
  exact h
theorem Rep.lst {K : PySem.W.Frag} {Z : List Addr} {H : Hp} {l : List D} {v : V} (h : Rep K Z H (.lst l) v) : ∃ p vs, v = .ref p ∧ p ∉ Z ∧ H p = some (.lst vs) ∧ RepL K Z H l vs := by
  unfold Rep at h
  exact h
theorem Rep.frz {K : PySem.W.Frag} {Z : List Addr} {H : Hp} {l : List D} {v : V} (h : Rep K Z H (.frz l) v) : ∃ p vs, v = .ref p ∧ ((p ∉ Z ∧ Rd H p (.lst vs)) ∨ KL K p vs) ∧ RepL K Z H l vs := by
  unfold Rep at h
  exact h
theorem Rep.cell {K : PySem.W.Frag} {Z : List Addr} {H : Hp} {p : Addr} {v : V} (h : Rep K Z H (.cell p) v) : v = .ref p := by
  unfold Rep at h
  exact h
theorem Rep.dct {K : PySem.W.Frag} {Z : List Addr} {H : Hp} {ks : List Str} {l : List D} {v : V} (h : Rep K Z H (.dct ks l) v) : ∃ p vs, v = .ref p ∧ p ∉ Z ∧ H p = some (.dK ((ks.map Sum.inr).zip vs)) ∧ RepL K Z H l vs := by
  unfold Rep at h
  exact h
variable {i j : Int}
theorem do_i0 {g : Int → Int → Int} (o : OpR X f (rI0 fun i j => .int (g i j))) (q : Φ (.int (g i j)) S) : DO X f (.int i) (.int j) S Φ := DO.of o fun Zh H x y Q st ra rb P => ⟨i, j, ra.int, rb.int, P.here st rep_int q⟩
theorem do_b0 {g : Int → Int → Bool} (o : OpR X f (rI0 fun i j => .bl (g i j))) (q : Φ (.bl (g i j)) S) : DO X f (.int i) (.int j) S Φ := DO.of o fun Zh H x y Q st ra rb P => ⟨i, j, ra.int, rb.int, P.here st rep_bl q⟩
theorem do_iC {C : Int → Int → Prop} {g : Int → Int → Int} (o : OpR X f (rI C fun i j => .int (g i j))) (c : C i j) (q : Φ (.int (g i j)) S) : DO X f (.int i) (.int j) S Φ := DO.of o fun Zh H x y Q st ra rb P => ⟨i, j, ra.int, rb.int, c, P.here st rep_int q⟩
theorem do_add (q : Φ (.int (i + j)) S) : DO X (binaryOp .Add) (.int i) (.int j) S Φ := do_i0 op_add q
theorem do_sub (q : Φ (.int (i - j)) S) : DO X (binaryOp .Sub) (.int i) (.int j) S Φ := do_i0 op_sub q
theorem do_mul (c : CMulW i j) (q : Φ (.int (i * j)) S) : DO X (binaryOp .Mult) (.int i) (.int j) S Φ := do_iC op_mulW c q
theorem do_fdiv (c : CDivW i j) (q : Φ (.int (i / j)) S) : DO X (binaryOp .FloorDiv) (.int i) (.int j) S Φ := do_iC op_fdivW c q
theorem do_mod (c : 0 < j) (q : Φ (.int (i % j)) S) : DO X (binaryOp .Mod) (.int i) (.int j) S Φ := do_iC (C := fun _ j => 0 < j) op_mod c q
theorem do_pow (c : CPow i j) (q : Φ (.int (i ^ j.toNat)) S) : DO X (binaryOp .Pow) (.int i) (.int j) S Φ := do_iC op_pow c q
theorem do_lt (q : Φ (.bl (decide (i < j))) S) : DO X (compareOp .Lt) (.int i) (.int j) S Φ := do_b0 op_lt q
theorem do_le (q : Φ (.bl (decide (i ≤ j))) S) : DO X (compareOp .LtE) (.int i) (.int j) S Φ := do_b0 op_le q
theorem do_gt (q : Φ (.bl (decide (j < i))) S) : DO X (compareOp .Gt) (.int i) (.int j) S Φ := do_b0 op_gt q
theorem do_ge (q : Φ (.bl (decide (j ≤ i))) S) : DO X (compareOp .GtE) (.int i) (.int j) S Φ := do_b0 op_ge q
theorem do_eqI (q : Φ (.bl (decide (i = j))) S) : DO X (compareOp .Eq) (.int i) (.int j) S Φ := DO.of op_eq fun Zh H x y Q st ra rb P => by
  rw [ra.int, rb.int]
  refine ⟨rfl, P.here st rep_bl ?_⟩
  rw [show decide (V.int i = V.int j) = decide (i = j) by simp]
  exact q
theorem do_neI (q : Φ (.bl (!decide (i = j))) S) : DO X (compareOp .NotEq) (.int i) (.int j) S Φ := DO.of op_ne fun Zh H x y Q st ra rb P => by
  rw [ra.int, rb.int]
  refine ⟨rfl, P.here st rep_bl ?_⟩
  rw [show decide (V.int i = V.int j) = decide (i = j) by simp]
  exact q
theorem do_eqB {i j : Bool} (q : Φ (.bl (decide (i = j))) S) : DO X (compareOp .Eq) (.bl i) (.bl j) S Φ := DO.of op_eq fun Zh H x y Q st ra rb P => by
  rw [ra.bl, rb.bl]
  refine ⟨rfl, P.here st rep_bl ?_⟩
  rw [show decide (V.bl i = V.bl j) = decide (i = j) by simp]
  exact q
theorem do_neB {i j : Bool} (q : Φ (.bl (!decide (i = j))) S) : DO X (compareOp .NotEq) (.bl i) (.bl j) S Φ := DO.of op_ne fun Zh H x y Q st ra rb P => by
  rw [ra.bl, rb.bl]
  refine ⟨rfl, P.here st rep_bl ?_⟩
  rw [show decide (V.bl i = V.bl j) = decide (i = j) by simp]
  exact q
theorem do_eqS {i j : Str} (q : Φ (.bl (decide (i = j))) S) : DO X (compareOp .Eq) (.str i) (.str j) S Φ := DO.of op_eq fun Zh H x y Q st ra rb P => by
  rw [ra.str, rb.str]
  refine ⟨rfl, P.here st rep_bl ?_⟩
  rw [show decide (V.str i = V.str j) = decide (i = j) by simp]
  exact q
theorem do_neS {i j : Str} (q : Φ (.bl (!decide (i = j))) S) : DO X (compareOp .NotEq) (.str i) (.str j) S Φ := DO.of op_ne fun Zh H x y Q st ra rb P => by
  rw [ra.str, rb.str]
  refine ⟨rfl, P.here st rep_bl ?_⟩
  rw [show decide (V.str i = V.str j) = decide (i = j) by simp]
  exact q
/-- is None -/
def isNon : D → Bool
  | .non => true
  | _ => false
theorem rep_non_iff {K : PySem.W.Frag} {Z : List Addr} {H : Hp} : ∀ {d : D} {v : V}, Rep K Z H d v → decide (v = .non) = isNon d
  | .non, v, h => by rw [h.non]; rfl
  | .bl _, v, h => by rw [h.bl]; rfl
  | .int _, v, h => by rw [h.int]; rfl
  | .rng _ _, v, h => by
    obtain ⟨i, e, _⟩ := h.rng
    rw [e]
    rfl
  | .str _, v, h => by rw [h.str]; rfl
  | .cell _, v, h => by rw [h.cell]; rfl
  | .dct _ _, v, h => by
    obtain ⟨p, vs, e, _⟩ := h.dct
    rw [e]
    rfl
  | .tup _, v, h => by
    obtain ⟨p, vs, e, _⟩ := h.tup
    rw [e]
    rfl
  | .lst _, v, h => by
    obtain ⟨p, vs, e, _⟩ := h.lst
    rw [e]
    rfl
  | .frz _, v, h => by
    obtain ⟨p, vs, e, _⟩ := h.frz
    rw [e]
    rfl
theorem do_isN (q : Φ (.bl (isNon a)) S) : DO X (compareOp .Is) a .non S Φ := DO.of op_isN fun Zh H x y Q st ra rb P => ⟨rb.non, P.here st (by rw [rep_non_iff ra]; exact rep_bl) q⟩
theorem do_notN (q : Φ (.bl (!isNon a)) S) : DO X (compareOp .IsNot) a .non S Φ := DO.of op_notN fun Zh H x y Q st ra rb P => ⟨rb.non, P.here st (by rw [rep_non_iff ra]; exact rep_bl) q⟩
theorem do_addS {i j : Str} (c : i.length + j.length ≤ sizeLine) (q : Φ (.str (i ++ j)) S) : DO X (binaryOp .Add) (.str i) (.str j) S Φ := DO.of op_add_str fun Zh H x y Q st ra rb P => ⟨i, j, ra.str, rb.str, c, P.here st rep_str q⟩
theorem do_cat {l m : List D} (c : l.length + m.length ≤ sizeLine) (q : Φ (.lst (l ++ m)) S) : DO X (binaryOp .Add) (.lst l) (.lst m) S Φ := DO.of op_cat fun Zh H x y Q st ra rb P => by
  obtain ⟨p, vs, rfl, n1, h1, r1⟩ := ra.lst
  obtain ⟨p2, vs2, rfl, n2, h2, r2⟩ := rb.lst
  exact ⟨p, p2, vs, vs2, rfl, rfl, h1, h2, by rw [r1.length, r2.length]; exact c, fun z hz => P.lst st (r1.append r2) q hz⟩
end

/-! ### names, constants, displays, calls -/
def visB : Option NameKind → Bool
  | some .local => true
  | some .cell => true
  | some .free => true
  | _ => false
def stB : Option NameKind → Bool
  | some .local => true
  | some .cell => true
  | _ => false
def cfB : Option NameKind → Bool
  | some .cell => true
  | some .free => true
  | _ => false
structure At (X : Cx) (P : Program) (w : World) (K : PySem.W.Frag) (mg : Str → Option Value) (base : Heap) (tb : List (Str × Nat)) (names : List (Str × NameKind)) (k : Nat) : Prop where
  prog : X.prog = P
  w : X.w = w
  K : X.K = K
  mg : X.mg = mg
  base : X.base = base
  slot : ∀ x i, tb.lookup x = some i → X.N[i]? = some x
  cov : ∀ x, x ∈ X.N → (tb.lookup x).isSome = true
  vis : ∀ x, visB (names.lookup x) = true → Vis X.env.scope x
  gl : ∀ x, names.lookup x = some .globalImplicit → Gl X x
  sto : ∀ x, stB (names.lookup x) = true → Loc X.env.scope x ∧ (X.fn x = true ∨ X.env.scope.names.lookup x = some .local)
  loc : ∀ x, names.lookup x = some .local → X.env.scope.names.lookup x = some .local
  cf : ∀ x, cfB (names.lookup x) = true → X.env.scope.names.lookup x = some .cell ∨ X.env.scope.names.lookup x = some .free
  kind : X.env.scope.kind = .function
  room : Room k X.A
  calm : X.calm = true
  nd : X.N.Nodup
  own : PassesOwn (model X.prog X.w) X.A X.env X.xe
def plainName (x : Str) : Bool := !(x == ("__debug__" : Str)) && !(x == ("__classdict__" : Str)) && !(x == ("__name__" : Str))
theorem plain1 {x : Str} (h : plainName x = true) : (x == ("__debug__" : Str)) = false ∧ (x == ("__classdict__" : Str)) = false ∧ x ≠ "__name__" := by
  unfold plainName at h
  simp only [Bool.and_eq_true, Bool.not_eq_true'] at h
  exact ⟨h.1.1, h.1.2, by simpa using h.2⟩
section
variable {X : Cx} {ρ : Ro} {S : Sto} {Φ : D → Sto → Prop} {P : Program} {w : World} {K : PySem.W.Frag} {mg : Str → Option Value} {base : Heap} {tb : List (Str × Nat)} {names : List (Str × NameKind)} {k : Nat} {pos : Pos}
theorem de_name {x : Str} (A : At X P w K mg base tb names k) (h : ∃ i d, tb.lookup x = some i ∧ (plainName x && visB (names.lookup x)) = true ∧ ρ[i]? = some (some d) ∧ Φ d S) : DE X (.Name x pos) ρ S Φ := by
  obtain ⟨i, d, hi, hv, h, q⟩ := h
  rw [Bool.and_eq_true] at hv
  exact DE.of (pe_var (A.slot _ _ hi) (A.vis _ hv.2) (plain1 hv.1).1 (plain1 hv.1).2.1) fun Zh σ H Q E P => by
    obtain ⟨v, e, r⟩ := E.var i d h
    exact ⟨v, e, P.here E.st r q⟩
theorem de_int {i : Int} {j} (q : Φ (.int i) S) : DE X (.Constant (.int i) j pos) ρ S Φ := DE.of pe_int fun Zh σ H Q E P => P.here E.st rep_int q
theorem de_bl {i : Bool} {j} (q : Φ (.bl i) S) : DE X (.Constant (.bool i) j pos) ρ S Φ := DE.of pe_bl fun Zh σ H Q E P => P.here E.st rep_bl q
theorem de_str {i : Str} {j} (q : Φ (.str i) S) : DE X (.Constant (.str i) j pos) ρ S Φ := DE.of pe_str fun Zh σ H Q E P => P.here E.st rep_str q
theorem de_non {j} (q : Φ .non S) : DE X (.Constant .none j pos) ρ S Φ := DE.of pe_non fun Zh σ H Q E P => P.here E.st rep_non q
theorem da_nil {Φ : List D → Sto → Prop} (q : Φ [] S) : DA X [] ρ S Φ := DA.of pa_nil fun Zh σ H Q E P => P [] H [] S rfl Grow.refl E.st .nil rfl q
theorem da_cons {e : Expr} {es : List Expr} {Φ : List D → Sto → Prop} (h : DE X e ρ S fun d S1 => DA X es ρ S1 fun ds S2 => Φ (d :: ds) S2) (hs : starEach (e :: es) X.env = (false, eval e X.env) :: starEach es X.env) : DA X (e :: es) ρ S Φ :=
  DA.of (pa_cons pe_w pa_w hs) fun Zh σ H Q E P => h.bind E fun v H1 d S1 k1 g1 E1 r1 h1 => h1.tw E1 fun vs H2 ds S2 k2 g2 s2 r2 l2 q2 =>
    (P.next k1 g1) (v :: vs) H2 (d :: ds) S2 k2 g2 s2 (.cons (E1.st.gr g2 r1) r2) (by rw [List.length_cons, l2]; rfl) q2
theorem sz {n : Nat} (h : Nat.ble n 1000 = true) : n ≤ sizeLine := Nat.le_of_lt (small1000 (Nat.le_of_ble_eq_true h))
theorem de_tup {es : List Expr} {x1} (hl : Nat.ble es.length 1000 = true) (h : DA X es ρ S fun ds S1 => Φ (.tup ds) S1) : DE X (.Tuple es x1 pos) ρ S Φ :=
  DE.of (pe_tup pa_w) fun Zh σ H Q E P => h.tw E fun vs H1 ds S1 k1 g1 s1 r1 l1 q1 => ⟨by rw [r1.length, l1]; exact sz hl, fun p hp => (P.next k1 g1).tup s1 (by rw [k1]; exact r1) q1 hp⟩
theorem de_lst {es : List Expr} (hl : Nat.ble es.length 1000 = true) (h : DA X es ρ S fun ds S1 => Φ (.lst ds) S1) : DE X (.List es pos) ρ S Φ :=
  DE.of (pe_lst pa_w) fun Zh σ H Q E P => h.tw E fun vs H1 ds S1 k1 g1 s1 r1 l1 q1 => ⟨by rw [r1.length, l1]; exact sz hl, fun p hp => (P.next k1 g1).lst s1 (by rw [k1]; exact r1) q1 hp⟩
/-! a def's contract by data -/
abbrev Spec := List D → Sto → (D → Sto → Prop) → Prop
def spOf (K : PySem.W.Frag) (n : Nat) (B : Spec) : Sp := fun vs H Q _ => vs.length = n ∧ ∃ Zh ds S Φ, Store K Zh H S ∧ RepL K (keys S ++ Zh) H ds vs ∧ B ds S Φ ∧ Post K Zh H S Φ Q
/-- what stands at a def's address -/
def FdAt (K : PySem.W.Frag) (f : Addr) (fd : FuncData) : Prop := ∃ oc od osl, K.lookup f = some ⟨oc, od, .func fd, osl⟩
theorem FdAt.one {K : PySem.W.Frag} {f : Addr} {fd fd' : FuncData} (a : FdAt K f fd) (b : FdAt K f fd') : fd = fd' := by
  obtain ⟨_, _, _, a⟩ := a
  obtain ⟨_, _, _, b⟩ := b
  rw [a] at b
  cases b
  rfl
theorem FdAt.of {K : PySem.W.Frag} {x q : Str} {st : Stmt} {f : Addr} {fd : FuncData} (F : Fun K x q st f fd) : FdAt K f fd := by
  obtain ⟨oc, od, kV, doc, pm, an, cdv, ct, osl, h1, lk, hcd⟩ := F.ex
  exact ⟨_, _, _, lk⟩
structure Fn (P : Program) (w : World) (K : PySem.W.Frag) (mg : Str → Option Value) (base : Heap) (x : Str) (n k : Nat) (B : Spec) : Prop where
  ex : ∃ f fd ps, FnOk P w K mg base CX0 k f fd ps (spOf K n B) ∧ mg x = some (.ref f) ∧ PySem.W.keepIn K (.ref f) = true ∧ Binds K fd ps [] ∧ ps.length = n ∧ FdAt K f fd
/-- names that are used as globals: a def's, a built-in's -/
def glB (names : List (Str × NameKind)) (x : Str) : Bool := plainName x && (match names.lookup x with | some .globalImplicit => true | _ => false)
theorem glB_of {x : Str} (h : glB names x = true) : plainName x = true ∧ names.lookup x = some .globalImplicit := by
  unfold glB at h
  rw [Bool.and_eq_true] at h
  refine ⟨h.1, ?_⟩
  have h2 := h.2
  split at h2
  · assumption
  · cases h2
theorem de_call {x : Str} {p : Pos} {e : Expr} {es : List Expr} {n j : Nat} {B : Spec} (A : At X P w K mg base tb names k) (F : Fn P w K mg base x n j B) (hc : (Nat.ble j k && Nat.beq (e :: es).length n && glB names x) = true)
    (he : starEach (e :: es) X.env = (false, eval e X.env) :: starEach es X.env) (hpl : (backTo pos (starEach es X.env)).any (·.1) = false)
    (h : DA X (e :: es) ρ S fun ds S1 => B ds S1 Φ) : DE X (.Call (.Name x p) (e :: es) [] pos) ρ S Φ := by
  rw [Bool.and_eq_true, Bool.and_eq_true] at hc
  obtain ⟨⟨hj, hn⟩, hg⟩ := hc
  obtain ⟨f, fd, ps, F, m, kp, b, _⟩ := F.ex
  cases A.prog
  cases A.w
  cases A.K
  cases A.mg
  cases A.base
  exact DE.of (pe_call F (A.room.mono (Nat.le_of_ble_eq_true hj)) (A.gl _ (glB_of hg).2) m kp b .nil pass0 pa_w (plain1 (glB_of hg).1).1 he hpl) fun Zh σ H Q E P => h.tw E fun vs H1 ds S1 k1 g1 s1 r1 l1 q1 => by
    refine ⟨?_, Zh, ds, S1, Φ, s1, by rw [k1, List.append_nil]; exact r1, q1, P.next k1 g1⟩
    rw [List.append_nil, r1.length, l1]
    exact Nat.eq_of_beq_eq_true hn
end
end Ar
namespace Ar
open PySem PySem.Spec PyProof.Rows L2

/-! ### steps of a body -/
def Step (S : Sto) (H : Hp) (S' : Sto) (H' : Hp) : Prop := Grow (keys S) H H' ∧ ∀ p, p ∈ keys S' → p ∈ keys S ∨ H p = none
theorem Step.refl {S : Sto} {H : Hp} : Step S H S H := ⟨Grow.refl, fun _ h => .inl h⟩
theorem Step.of {S S' : Sto} {H H' : Hp} (k : keys S' = keys S) (g : Grow (keys S) H H') : Step S H S' H' := ⟨g, fun _ h => .inl (by rw [← k]; exact h)⟩
theorem Step.trans {S S1 S2 : Sto} {H H1 H2 : Hp} (a : Step S H S1 H1) (b : Step S1 H1 S2 H2) : Step S H S2 H2 := by
  refine ⟨fun c x n h => b.1 c x (fun m => ?_) (a.1 c x n h), fun p m => ?_⟩
  · rcases a.2 c m with q | q
    · exact n q
    · rw [h] at q
      cases q
  · rcases b.2 p m with q | q
    · exact a.2 p q
    · by_cases hp : p ∈ keys S
      · exact .inl hp
      · cases e : H p with
        | none => exact .inr rfl
        | some x =>
          rw [a.1 p x hp e] at q
          cases q
mutual
theorem Rep.step {K : PySem.W.Frag} {Zh : List Addr} {S S' : Sto} {H H' : Hp} (z : Zl (keys S) H) (g : Step S H S' H') : ∀ {d : D} {v : V}, Rep K (keys S ++ Zh) H d v → Rep K (keys S' ++ Zh) H' d v
  | .non, _, h => by unfold Rep at h ⊢; exact h
  | .bl _, _, h => by unfold Rep at h ⊢; exact h
  | .int _, _, h => by unfold Rep at h ⊢; exact h
  | .rng _ _, _, h => by unfold Rep at h ⊢; exact h
  | .str _, _, h => by unfold Rep at h ⊢; exact h
  | .cell _, _, h => by unfold Rep at h ⊢; exact h
  | .tup l, v, h => by
    unfold Rep at h ⊢
    obtain ⟨p, vs, e, s, r⟩ := h
    exact ⟨p, vs, e, SqT.grow z g.1 s, RepL.step z g r⟩
  | .lst l, v, h => by
    unfold Rep at h ⊢
    obtain ⟨p, vs, e, n, s, r⟩ := h
    refine ⟨p, vs, e, fun m => ?_, g.1 _ _ (fun m => n (sub_l _ m)) s, RepL.step z g r⟩
    rcases List.mem_append.mp m with m | m
    · rcases g.2 p m with q | q
      · exact n (sub_l _ q)
      · rw [s] at q
        cases q
    · exact n (List.mem_append_right _ m)
  | .dct ks l, v, h => by
    unfold Rep at h ⊢
    obtain ⟨p, vs, e, n, s, r⟩ := h
    refine ⟨p, vs, e, fun m => ?_, g.1 _ _ (fun m => n (sub_l _ m)) s, RepL.step z g r⟩
    rcases List.mem_append.mp m with m | m
    · rcases g.2 p m with q | q
      · exact n (sub_l _ q)
      · rw [s] at q
        cases q
    · exact n (List.mem_append_right _ m)
  | .frz l, v, h => by
    unfold Rep at h ⊢
    obtain ⟨p, vs, e, s, r⟩ := h
    refine ⟨p, vs, e, ?_, RepL.step z g r⟩
    rcases s with ⟨n, s⟩ | s
    · refine .inl ⟨fun m => ?_, ?_⟩
      · rcases List.mem_append.mp m with m | m
        · rcases g.2 p m with q | q
          · exact n (sub_l _ q)
          · rcases s with s | ⟨o, s⟩
            · rw [s] at q
              cases q
            · rw [s] at q
              cases q
        · exact n (List.mem_append_right _ m)
      · rcases s with s | ⟨o, s⟩
        · exact .inl (g.1 _ _ (fun m => n (sub_l _ m)) s)
        · exact .inr ⟨o, g.1 _ _ (fun m => n (sub_l _ m)) s⟩
    · exact .inr s
theorem RepL.step {K : PySem.W.Frag} {Zh : List Addr} {S S' : Sto} {H H' : Hp} (z : Zl (keys S) H) (g : Step S H S' H') : ∀ {l : List D} {vs : List V}, RepL K (keys S ++ Zh) H l vs → RepL K (keys S' ++ Zh) H' l vs
  | [], _, h => by unfold RepL at h ⊢; exact h
  | d :: l, vs, h => by
    unfold RepL at h ⊢
    obtain ⟨v, r, e, h1, h2⟩ := h
    exact ⟨v, r, e, Rep.step z g h1, RepL.step z g h2⟩
end
/-! ### statements -/
structure DEnds where
  nx : Ro → Sto → Prop
  rt : D → Sto → Prop
  bk : Ro → Sto → Prop := fun _ _ => False
  ct : Ro → Sto → Prop := fun _ _ => False
def Nx (E : DEnds) (ρ : Ro) (S : Sto) : Prop := E.nx ρ S
theorem nx_norm {E : DEnds} {ρ ρ' : Ro} {S : Sto} (e : ρ = ρ') (h : E.nx ρ' S) : Nx E ρ S := by
  rw [e]
  exact h
theorem nx_mk {f : Ro → Sto → Prop} {r b c ρ S} (h : f ρ S) : DEnds.nx ⟨f, r, b, c⟩ ρ S := h
theorem rt_mk {f : D → Sto → Prop} {n b c d S} (h : f d S) : DEnds.rt ⟨n, f, b, c⟩ d S := h
theorem bk_mk {f : Ro → Sto → Prop} {n r c ρ S} (h : f ρ S) : DEnds.bk ⟨n, r, f, c⟩ ρ S := h
theorem ct_mk {f : Ro → Sto → Prop} {n r b ρ S} (h : f ρ S) : DEnds.ct ⟨n, r, b, f⟩ ρ S := h
structure EndsOk (K : PySem.W.Frag) (Zh : List Addr) (H : Hp) (S : Sto) (E : DEnds) (Dn : Ends) : Prop where
  nx : ∀ σ' H' ρ' S', Step S H S' H' → Ev K Zh H' σ' ρ' S' → E.nx ρ' S' → Dn.nx σ' H'
  rt : ∀ v H' d S', Step S H S' H' → Store K Zh H' S' → Rep K (keys S' ++ Zh) H' d v → E.rt d S' → Dn.rt v H'
  bk : ∀ σ' H' ρ' S', Step S H S' H' → Ev K Zh H' σ' ρ' S' → E.bk ρ' S' → Dn.bk σ' H'
  ct : ∀ σ' H' ρ' S', Step S H S' H' → Ev K Zh H' σ' ρ' S' → E.ct ρ' S' → Dn.ct σ' H'
theorem EndsOk.next {K : PySem.W.Frag} {Zh : List Addr} {H H1 : Hp} {S S1 : Sto} {E : DEnds} {Dn : Ends} (k : EndsOk K Zh H S E Dn) (s : Step S H S1 H1) : EndsOk K Zh H1 S1 E Dn :=
  ⟨fun _ _ _ _ t => k.nx _ _ _ _ (s.trans t), fun _ _ _ _ t => k.rt _ _ _ _ (s.trans t), fun _ _ _ _ t => k.bk _ _ _ _ (s.trans t), fun _ _ _ _ t => k.ct _ _ _ _ (s.trans t)⟩
def DS (X : Cx) (st : Stmt) (ρ : Ro) (S : Sto) (E : DEnds) : Prop :=
  ∀ (Zh : List Addr) (pins : List (Addr × Obj)) (s : Shared) (σ : L2.St) (H : Hp) (Dn : Ends), Inv X pins σ H s → Ev X.K Zh H σ ρ S → EndsOk X.K Zh H S E Dn → wpAny (model X.prog X.w) X.A (exec st X.env) (SP X pins Dn) X.xe s
def DSs (X : Cx) (st : List Stmt) (ρ : Ro) (S : Sto) (E : DEnds) : Prop :=
  ∀ (Zh : List Addr) (pins : List (Addr × Obj)) (s : Shared) (σ : L2.St) (H : Hp) (Dn : Ends), Inv X pins σ H s → Ev X.K Zh H σ ρ S → EndsOk X.K Zh H S E Dn → wpAny (model X.prog X.w) X.A (execs st X.env) (SP X pins Dn) X.xe s
def tsW (X : Cx) (st : Stmt) : TS := fun Dn σ H => ∀ (pins : List (Addr × Obj)) (s : Shared), Inv X pins σ H s → wpAny (model X.prog X.w) X.A (exec st X.env) (SP X pins Dn) X.xe s
def tssW (X : Cx) (st : List Stmt) : TS := fun Dn σ H => ∀ (pins : List (Addr × Obj)) (s : Shared), Inv X pins σ H s → wpAny (model X.prog X.w) X.A (execs st X.env) (SP X pins Dn) X.xe s
section
variable {X : Cx} {ρ : Ro} {S : Sto} {E : DEnds} {st : Stmt} {sts : List Stmt}
theorem ps_w : PS X st (tsW X st) := ⟨fun pins s _ _ _ I h => h pins s I⟩
theorem pss_w : PSs X sts (tssW X sts) := ⟨fun pins s _ _ _ I h => h pins s I⟩
theorem DS.of {t : TS} (p : PS X st t) (h : ∀ Zh σ H Dn, Ev X.K Zh H σ ρ S → EndsOk X.K Zh H S E Dn → t Dn σ H) : DS X st ρ S E := fun Zh pins s σ H Dn I e k => p.run pins s σ H Dn I (h Zh σ H Dn e k)
theorem DSs.of {t : TS} (p : PSs X sts t) (h : ∀ Zh σ H Dn, Ev X.K Zh H σ ρ S → EndsOk X.K Zh H S E Dn → t Dn σ H) : DSs X sts ρ S E := fun Zh pins s σ H Dn I e k => p.run pins s σ H Dn I (h Zh σ H Dn e k)
theorem DS.tw {Zh : List Addr} {σ : L2.St} {H : Hp} {Dn : Ends} (h : DS X st ρ S E) (e : Ev X.K Zh H σ ρ S) (k : EndsOk X.K Zh H S E Dn) : tsW X st Dn σ H := fun pins s I => h Zh pins s σ H Dn I e k
theorem DSs.tw {Zh : List Addr} {σ : L2.St} {H : Hp} {Dn : Ends} (h : DSs X sts ρ S E) (e : Ev X.K Zh H σ ρ S) (k : EndsOk X.K Zh H S E Dn) : tssW X sts Dn σ H := fun pins s I => h Zh pins s σ H Dn I e k
theorem ds_nil (h : E.nx ρ S) : DSs X [] ρ S E := DSs.of pss_nil fun Zh σ H Dn e k => k.nx σ H ρ S Step.refl e h
theorem ds_cons (h : DS X st ρ S { E with nx := fun r s => DSs X sts r s E }) : DSs X (st :: sts) ρ S E := DSs.of (pss_cons ps_w pss_w) fun Zh σ H Dn e k =>
  h.tw e ⟨fun σ' H' ρ' S' t e' q => q.tw e' (k.next t), k.rt, k.bk, k.ct⟩
theorem ds_one (h : DS X st ρ S E) : DSs X [st] ρ S E := DSs.of (pss_one ps_w) fun Zh σ H Dn e k => h.tw e k
variable {pos : Pos} {e : Expr}
theorem ds_ret (h : DE X e ρ S E.rt) : DS X (.Return (some e) pos) ρ S E := DS.of (ps_ret pe_w) fun Zh σ H Dn ev k => h.tw ev fun v H' d S' k' g s r q => k.rt v H' d S' (.of k' g) s (by rw [k']; exact r) q
theorem ds_retN (h : E.rt .non S) : DS X (.Return none pos) ρ S E := DS.of ps_retN fun Zh σ H Dn ev k => k.rt .non H .non S Step.refl ev.st rep_non h
theorem ds_pass (h : E.nx ρ S) : DS X (.Pass pos) ρ S E := DS.of ps_pass fun Zh σ H Dn ev k => k.nx σ H ρ S Step.refl ev h
theorem ds_break (h : E.bk ρ S) : DS X (.Break pos) ρ S E := DS.of ps_break fun Zh σ H Dn ev k => k.bk σ H ρ S Step.refl ev h
theorem ds_continue (h : E.ct ρ S) : DS X (.Continue pos) ρ S E := DS.of ps_continue fun Zh σ H Dn ev k => k.ct σ H ρ S Step.refl ev h
theorem ds_never (h : False) : DS X st ρ S E := h.elim
theorem ds_if {c : Expr} {a b : List Stmt} (h : DT X c ρ S fun k S1 => if k = true then DSs X a ρ S1 E else DSs X b ρ S1 E) : DS X (.If c a b pos) ρ S E := DS.of (ps_if pt_w pss_w pss_w) fun Zh σ H Dn ev k =>
  h.tw ev fun c H1 S1 k1 g1 s1 q => by
    have ev1 := ev.next k1 g1 s1
    have k2 := k.next (Step.of k1 g1)
    cases c with
    | true => exact q.tw ev1 k2
    | false => exact q.tw ev1 k2
variable {P : Program} {w : World} {K : PySem.W.Frag} {mg : Str → Option Value} {base : Heap} {tb : List (Str × Nat)} {names : List (Str × NameKind)} {k : Nat}
theorem ds_set {x : Str} {pos' : Pos} (A : At X P w K mg base tb names k) (hs : swapsWith e (some (.Name x pos')) pos.line X.env = pure false) 
    (h : ∃ i, tb.lookup x = some i ∧ stB (names.lookup x) = true ∧ DE X e ρ S fun d S1 => Nx E (ρ.set i (some d)) S1) : DS X (.Assign [.Name x pos'] e pos) ρ S E := by
  obtain ⟨i, hi, hv, h⟩ := h
  exact DS.of (ps_set A.nd (A.slot _ _ hi) (A.sto _ hv).1 pe_w hs (A.sto _ hv).2) fun Zh σ H Dn ev k => h.tw ev fun v H' d S' k' g s r q => by
    have ev1 := ev.next k' g s
    exact k.nx _ _ _ _ (.of k' g) (ev1.put (by rw [k']; exact r)) q
theorem ds_expr (hs : swapsWith e none pos.line X.env = pure false) (h : DE X e ρ S fun _ S1 => E.nx ρ S1) : DS X (.Expr e pos) ρ S E :=
  DS.of (ps_expr pe_w hs) fun Zh σ H Dn ev k => h.tw ev fun v H' d S' k' g s r q => k.nx _ _ _ _ (.of k' g) (ev.next k' g s) q
def locB (names : List (Str × NameKind)) (x : Str) : Bool := match names.lookup x with | some .local => true | _ => false
theorem locB_of {x : Str} (h : locB names x = true) : names.lookup x = some .local := by
  unfold locB at h
  split at h
  · assumption
  · cases h
theorem ne_of_beq {i j : Nat} (h : Nat.beq i j = false) : i ≠ j := fun e => by
  subst e
  rw [Nat.beq_refl] at h
  cases h
theorem ds_par {x y : Str} {a b : Expr} {px py pt : Pos} {kt k2 pt2} (A : At X P w K mg base tb names k) 
    (hw : swappedStores [.Tuple [.Name x px, .Name y py] kt pt] (.Tuple [a, b] k2 pt2) X.env = pure (some [x, y]))
    (hs : swapsWithSole [.Tuple [.Name x px, .Name y py] kt pt] (.Tuple [a, b] k2 pt2) pos.line X.env = pure false)
    (h : ∃ i j, tb.lookup x = some i ∧ tb.lookup y = some j ∧ Nat.beq i j = false ∧ (locB names x && locB names y) = true ∧
      DA X [a, b] ρ S fun ds S1 => ∃ c d, ds = [c, d] ∧ Nx E ((ρ.set i (some c)).set j (some d)) S1) : DS X (.Assign [.Tuple [.Name x px, .Name y py] kt pt] (.Tuple [a, b] k2 pt2) pos) ρ S E := by
  obtain ⟨i, j, hi, hj, hij, hv, h⟩ := h
  rw [Bool.and_eq_true] at hv
  exact DS.of (ps_par A.calm A.nd (A.slot _ _ hi) (A.slot _ _ hj) (ne_of_beq hij) (A.loc _ (locB_of hv.1)) (A.loc _ (locB_of hv.2)) pa_w hw hs) fun Zh σ H Dn ev k => h.tw ev fun vs H' ds S' k' g s r l q => by
    obtain ⟨c, d, rfl, q⟩ := q
    obtain ⟨v, r1, rfl, rv, r⟩ := r.uncons
    obtain ⟨u, r2, rfl, ru, r⟩ := r.uncons
    cases r.un0
    have ev1 := ev.next k' g s
    exact ⟨v, u, rfl, k.nx _ _ _ _ (.of k' g) ((ev1.put (by rw [k']; exact rv)).put (by rw [k']; exact ru)) q⟩
theorem ds_par3 {x y z : Str} {a b c : Expr} {px py pz pt : Pos} {kt k2 pt2} (A : At X P w K mg base tb names k) 
    (hw : swappedStores [.Tuple [.Name x px, .Name y py, .Name z pz] kt pt] (.Tuple [a, b, c] k2 pt2) X.env = pure (some [x, y, z]))
    (hs : swapsWithSole [.Tuple [.Name x px, .Name y py, .Name z pz] kt pt] (.Tuple [a, b, c] k2 pt2) pos.line X.env = pure false)
    (h : ∃ i j l, tb.lookup x = some i ∧ tb.lookup y = some j ∧ tb.lookup z = some l ∧ (Nat.beq i j = false ∧ Nat.beq i l = false ∧ Nat.beq j l = false) ∧ (locB names x && locB names y && locB names z) = true ∧
      DA X [a, b, c] ρ S fun ds S1 => ∃ a b c, ds = [a, b, c] ∧ Nx E (((ρ.set i (some a)).set j (some b)).set l (some c)) S1) : DS X (.Assign [.Tuple [.Name x px, .Name y py, .Name z pz] kt pt] (.Tuple [a, b, c] k2 pt2) pos) ρ S E := by
  obtain ⟨i, j, l, hi, hj, hl, ⟨hij, hil, hjl⟩, hv, h⟩ := h
  rw [Bool.and_eq_true, Bool.and_eq_true] at hv
  exact DS.of (ps_par3 A.calm A.nd (A.slot _ _ hi) (A.slot _ _ hj) (A.slot _ _ hl) (ne_of_beq hij) (ne_of_beq hil) (ne_of_beq hjl) (A.loc _ (locB_of hv.1.1)) (A.loc _ (locB_of hv.1.2)) (A.loc _ (locB_of hv.2)) pa_w hw hs) fun Zh σ H Dn ev k => h.tw ev fun vs H' ds S' k' g s r l q => by
    obtain ⟨a, b, c, rfl, q⟩ := q
    obtain ⟨v, r1, rfl, rv, r⟩ := r.uncons
    obtain ⟨u, r2, rfl, ru, r⟩ := r.uncons
    obtain ⟨u3, r3, rfl, ru3, r⟩ := r.uncons
    cases r.un0
    have ev1 := ev.next k' g s
    exact ⟨v, u, u3, rfl, k.nx _ _ _ _ (.of k' g) (((ev1.put (by rw [k']; exact rv)).put (by rw [k']; exact ru)).put (by rw [k']; exact ru3)) q⟩
end
/-! ### a def -/
inductive RetP (S0 : Sto) (Φ : D → Sto → Prop) : D → Sto → Prop where
  | mk {d : D} {S2 R : Sto} (h : keys S2 = keys S0) (q : Φ d S2) : RetP S0 Φ d (S2 ++ R)
  | cell {p : Addr} {l : List D} {S2 R : Sto} (h : keys S2 = keys S0) (m : (p, l) ∈ R) (q : Φ (.lst l) S2) : RetP S0 Φ (.cell p) (S2 ++ R)
theorem RetP.here {S0 S : Sto} {Φ : D → Sto → Prop} {d : D} (h : keys S = keys S0) (q : Φ d S) : RetP S0 Φ d S := by
  have z := RetP.mk (R := []) h q
  rw [List.append_nil] at z
  exact z
theorem RetP.same {S : Sto} {Φ : D → Sto → Prop} {d : D} (q : Φ d S) : RetP S Φ d S := .here rfl q
mutual
theorem Rep.shrink {K : PySem.W.Frag} {Z Z' : List Addr} {H : Hp} (z : ∀ p, p ∈ Z' → p ∈ Z) : ∀ {d : D} {v : V}, Rep K Z H d v → Rep K Z' H d v
  | .non, _, h => by unfold Rep at h ⊢; exact h
  | .bl _, _, h => by unfold Rep at h ⊢; exact h
  | .int _, _, h => by unfold Rep at h ⊢; exact h
  | .rng _ _, _, h => by unfold Rep at h ⊢; exact h
  | .str _, _, h => by unfold Rep at h ⊢; exact h
  | .cell _, _, h => by unfold Rep at h ⊢; exact h
  | .tup l, v, h => by
    unfold Rep at h ⊢
    obtain ⟨p, vs, e, s, r⟩ := h
    exact ⟨p, vs, e, s, RepL.shrink z r⟩
  | .lst l, v, h => by
    unfold Rep at h ⊢
    obtain ⟨p, vs, e, n, s, r⟩ := h
    exact ⟨p, vs, e, fun m => n (z _ m), s, RepL.shrink z r⟩
  | .dct ks l, v, h => by
    unfold Rep at h ⊢
    obtain ⟨p, vs, e, n, s, r⟩ := h
    exact ⟨p, vs, e, fun m => n (z _ m), s, RepL.shrink z r⟩
  | .frz l, v, h => by
    unfold Rep at h ⊢
    obtain ⟨p, vs, e, s, r⟩ := h
    exact ⟨p, vs, e, s.imp (fun t => ⟨fun m => t.1 (z _ m), t.2⟩) id, RepL.shrink z r⟩
theorem RepL.shrink {K : PySem.W.Frag} {Z Z' : List Addr} {H : Hp} (z : ∀ p, p ∈ Z' → p ∈ Z) : ∀ {l : List D} {vs : List V}, RepL K Z H l vs → RepL K Z' H l vs
  | [], _, h => by unfold RepL at h ⊢; exact h
  | d :: l, vs, h => by
    unfold RepL at h ⊢
    obtain ⟨v, r, e, h1, h2⟩ := h
    exact ⟨v, r, e, Rep.shrink z h1, RepL.shrink z h2⟩
end
theorem keys_append (S R : Sto) : keys (S ++ R) = keys S ++ keys R := by
  unfold keys
  rw [List.map_append]
theorem Store.drop {K : PySem.W.Frag} {Zh : List Addr} {H : Hp} {S R : Sto} (s : Store K Zh H (S ++ R)) : Store K Zh H S := ⟨by
  have z := s.nd
  rw [keys_append] at z
  exact (List.nodup_append.mp z).1, fun p l m => by
  obtain ⟨vs, h1, h2⟩ := s.st p l (List.mem_append_left _ m)
  refine ⟨vs, h1, h2.shrink fun q hq => ?_⟩
  rw [keys_append]
  rcases List.mem_append.mp hq with z | z
  · exact List.mem_append_left _ (List.mem_append_left _ z)
  · exact List.mem_append_right _ z, fun p m => by
  obtain ⟨n, e⟩ := s.hid p m
  exact ⟨fun z => n (by rw [keys_append]; exact List.mem_append_left _ z), e⟩⟩
theorem lookup_map_get {α : Type} {l : List (Option α)} {n : Nat} : True := trivial
section
variable {P : Program} {w : World} {K : PySem.W.Frag} {mg : Str → Option Value} {base : Heap}
theorem ev_start {N : List Str} {H : Hp} {S : Sto} {ds : List D} {vs : List V} (s : Store K Zh H S) (r : RepL K (keys S ++ Zh) H ds vs) : Ev K Zh H (L2.start N vs) (ds.map some ++ List.replicate (N.length - ds.length) none) S := by
  refine ⟨s, ?_, fun i d h => ?_⟩
  · unfold L2.start
    rw [List.length_append, List.length_append, List.length_map, List.length_map, List.length_replicate, List.length_replicate, r.length]
  · by_cases hi : i < ds.length
    · rw [List.getElem?_append_left (by rw [List.length_map]; exact hi), List.getElem?_map] at h
      cases e : ds[i]? with
      | none => rw [e] at h; cases h
      | some c =>
        rw [e] at h
        have e2 : c = d := Option.some.inj (Option.some.inj h)
        subst e2
        obtain ⟨v, e3, r3⟩ := r.get e
        refine ⟨v, ?_, r3⟩
        unfold L2.start
        rw [List.getElem?_append_left (by rw [List.length_map, r.length]; exact hi), List.getElem?_map, e3]
        rfl
    · rw [List.getElem?_append_right (by rw [List.length_map]; omega), List.getElem?_replicate] at h
      split at h <;> cases h
theorem at_def {N ps : List Str} {tb : List (Str × Nat)} (ht : ∀ x i, tb.lookup x = some i → N[i]? = some x) (hc : ∀ x, x ∈ N → (tb.lookup x).isSome = true) {qual : Str} {sc : Scope} {f : Addr} {cd : Value} {A : Around} {outer : List Env} {s : Shared} {H : Hp} {E : XK} {k : Nat} (F : FnScope N ps sc) (hr : Room k (A.deeper (envOfC qual sc s.heap.objs.size f cd))) :
    At (cxOf CX0 P w K mg base N qual sc f cd A outer s H E).nox P w K mg base tb sc.names k where
  prog := rfl
  w := rfl
  K := rfl
  mg := rfl
  base := rfl
  slot := ht
  cov := hc
  vis := fun x h => by
    show Vis sc x
    unfold Vis
    revert h
    cases sc.names.lookup x with
    | none => intro h; cases h
    | some k => cases k <;> intro h <;> first | exact .inl rfl | exact .inr (.inl rfl) | exact .inr (.inr rfl) | cases h
  gl := fun x h => h
  sto := fun x h => by
    refine ⟨?_, .inl rfl⟩
    show L2.Loc sc x
    unfold L2.Loc
    revert h
    cases sc.names.lookup x with
    | none => intro h; cases h
    | some k => cases k <;> intro h <;> first | exact .inl rfl | exact .inr rfl | cases h
  loc := fun x h => h
  cf := fun x h => by
    show sc.names.lookup x = some .cell ∨ sc.names.lookup x = some .free
    revert h
    cases sc.names.lookup x with
    | none => intro h; cases h
    | some k => cases k <;> intro h <;> first | exact .inl rfl | exact .inr rfl | cases h
  kind := F.kind
  room := hr
  calm := rfl
  nd := F.nd
  own := PassesOwn.never
/-- the slots of names, by a table -/
def tbOk (N : List Str) (tb : List (Str × Nat)) : Bool := (tb.all fun p => decide (N[p.2]? = some p.1)) && N.all fun x => (tb.lookup x).isSome
theorem tbOk_of {N : List Str} {tb : List (Str × Nat)} (h : tbOk N tb = true) : ∀ x i, tb.lookup x = some i → N[i]? = some x := fun x i e => by
  unfold tbOk at h
  rw [Bool.and_eq_true, List.all_eq_true] at h
  exact of_decide_eq_true (h.1 (x, i) (PySem.mem_of_lookup e))
theorem tbOk_cov {N : List Str} {tb : List (Str × Nat)} (h : tbOk N tb = true) : ∀ x, x ∈ N → (tb.lookup x).isSome = true := fun x hx => by
  unfold tbOk at h
  rw [Bool.and_eq_true, List.all_eq_true, List.all_eq_true] at h
  exact h.2 x hx
/-- a def keeps its contract by data -/
theorem fn_data {tb : List (Str × Nat)} {x qual : Str} {st : Stmt} {f : Addr} {fd : FuncData} {N ps : List Str} {k : Nat} {n : Nat} {names : List (Str × NameKind)} {B : Spec} (F : Fun K x qual st f fd) (Sc : FnScope N ps (defScope st)) (hn : ps.length = n) (hnm : (defScope st).names = names) (ht : tbOk N tb = true)
    (hm : mg x = some (.ref f)) (hb : Binds K fd ps [])
    (body : ∀ X, At X P w K mg base tb names k → ∀ ds S Φ, ds.length = n → B ds S Φ → DSs X (defBody st) (ds.map some ++ List.replicate (N.length - ds.length) none) S { nx := fun _ S' => RetP S Φ .non S', rt := RetP S Φ }) : Fn P w K mg base x n (k + 1) B := by
  refine ⟨f, fd, ps, F.ok Sc (fun vs H Q E h => by rw [h.1, hn]) (fun cdv A outer s H vs Q E hr h => ?_), hm, F.kp, hb, hn, .of F⟩
  obtain ⟨hl, Zh, ds, S, Φ, hS, hR, hB, hP⟩ := h
  have hat := at_def (P := P) (w := w) (K := K) (mg := mg) (base := base) (qual := qual) (f := f) (cd := cdv) (A := A) (outer := outer) (s := s) (H := H) (E := E) (tbOk_of ht) (tbOk_cov ht) Sc hr
  rw [hnm] at hat
  have b := body _ hat ds S Φ (by rw [← hR.length]; exact hl) hB
  refine ⟨_, pss_w, b.tw (ev_start hS hR) ?_⟩
  have fin : ∀ v H' d S', Step S H S' H' → Store K Zh H' S' → Rep K (keys S' ++ Zh) H' d v → RetP S Φ d S' → Q v H' := fun v H' d S' t s' r q => by
    have sub : ∀ {S2 R : Sto}, keys S2 = keys S → ∀ p, p ∈ keys S ++ Zh → p ∈ keys (S2 ++ R) ++ Zh := fun {S2 R} h p m => by
      rw [keys_append, h]
      rcases List.mem_append.mp m with z | z
      · exact List.mem_append_left _ (List.mem_append_left _ z)
      · exact List.mem_append_right _ z
    cases q with
    | mk h q =>
      rename_i S2 R
      exact hP v H' d S2 h t.1 s'.drop (r.shrink (sub h)) q
    | cell h m q =>
      rename_i p l S2 R
      obtain ⟨vs, h1, h2⟩ := s'.st p l (List.mem_append_right _ m)
      refine hP v H' (.lst l) S2 h t.1 s'.drop ?_ q
      rw [r.cell]
      unfold Rep
      refine ⟨p, vs, rfl, fun n => ?_, h1, h2.shrink (sub h)⟩
      have pk : p ∈ keys (S2 ++ R) := by
        rw [keys_append]
        exact List.mem_append_right _ (List.mem_map.mpr ⟨_, m, rfl⟩)
      rcases List.mem_append.mp n with z | z
      · have nd := s'.nd
        rw [keys_append, List.nodup_append] at nd
        exact nd.2.2 p (by rw [h]; exact z) p (List.mem_map.mpr ⟨_, m, rfl⟩) rfl
      · exact (s'.hid p z).1 pk
  exact ⟨fun σ' H' ρ' S' t ev q => fin .non H' .non S' t ev.st rep_non q, fin, fun _ _ _ _ _ _ q => q.elim, fun _ _ _ _ _ _ q => q.elim⟩
end
end Ar
namespace Ar
open PySem PySem.Spec PyProof.Rows L2

/-! ### targets -/
def PostG (K : PySem.W.Frag) (Zh : List Addr) (H : Hp) (S : Sto) (σ : L2.St) (ok : Nat → Bool) (Φ : Ro → Sto → Prop) (Q : L2.St → Hp → Prop) : Prop :=
  ∀ σ' H' ρ' S', keys S' = keys S → Grow (keys S) H H' → Ev K Zh H' σ' ρ' S' → σ'.length = σ.length → (∀ j, ok j = false → σ'[j]? = σ[j]?) → Φ ρ' S' → Q σ' H'
def DG (X : Cx) (ok : Nat → Bool) (tg : Expr) (d : D) (ρ : Ro) (S : Sto) (Φ : Ro → Sto → Prop) : Prop :=
  ∀ (Zh : List Addr) (pins : List (Addr × Obj)) (s : Shared) (σ : L2.St) (H : Hp) (v : V) (u : Value) (Q : L2.St → Hp → Prop), Inv X pins σ H s → Ev X.K Zh H σ ρ S → Rep X.K (keys S ++ Zh) H d v → RelV v u → PostG X.K Zh H S σ ok Φ Q →
    wpAny (model X.prog X.w) X.A (assign tg X.env u) (fun _ s' => ∃ σ' H', Inv X pins σ' H' s' ∧ Q σ' H') X.xe s
def DGs (X : Cx) (ok : Nat → Bool) (ts : List Expr) (ds : List D) (ρ : Ro) (S : Sto) (Φ : Ro → Sto → Prop) : Prop :=
  ∀ (Zh : List Addr) (pins : List (Addr × Obj)) (s : Shared) (σ : L2.St) (H : Hp) (vs : List V) (us : List Value) (Q : L2.St → Hp → Prop), Inv X pins σ H s → Ev X.K Zh H σ ρ S → RepL X.K (keys S ++ Zh) H ds vs → Vals vs us → PostG X.K Zh H S σ ok Φ Q →
    wpAny (model X.prog X.w) X.A (assignInOrder ((assignEach ts X.env).map (·.2)) us) (fun _ s' => ∃ σ' H', Inv X pins σ' H' s' ∧ Q σ' H') X.xe s
def gW (X : Cx) (tg : Expr) : TG := fun v σ H Q => ∀ (pins : List (Addr × Obj)) (s : Shared) (u : Value), Inv X pins σ H s → RelV v u → wpAny (model X.prog X.w) X.A (assign tg X.env u) (fun _ s' => ∃ σ' H', Inv X pins σ' H' s' ∧ Q σ' H') X.xe s
def gsW (X : Cx) (ts : List Expr) : TGs := fun vs σ H Q => ∀ (pins : List (Addr × Obj)) (s : Shared) (us : List Value), Inv X pins σ H s → Vals vs us →
  wpAny (model X.prog X.w) X.A (assignInOrder ((assignEach ts X.env).map (·.2)) us) (fun _ s' => ∃ σ' H', Inv X pins σ' H' s' ∧ Q σ' H') X.xe s
section
variable {X : Cx} {ρ : Ro} {S : Sto} {ok : Nat → Bool} {tg : Expr} {ts : List Expr} {d : D} {ds : List D} {Φ : Ro → Sto → Prop}
theorem pg_w : PG X tg (gW X tg) := ⟨fun pins s _ _ _ u _ I r h => h pins s u I r⟩
theorem pgs_w : PGs X ts (gsW X ts) := ⟨fun pins s _ _ _ u _ I r h => h pins s u I r⟩
theorem DG.of {t : TG} (p : PG X tg t) (h : ∀ Zh σ H v Q, Ev X.K Zh H σ ρ S → Rep X.K (keys S ++ Zh) H d v → PostG X.K Zh H S σ ok Φ Q → t v σ H Q) : DG X ok tg d ρ S Φ := fun Zh pins s σ H v u Q I E r rv k => p.run pins s σ H v u Q I rv (h Zh σ H v Q E r k)
theorem DGs.of {t : TGs} (p : PGs X ts t) (h : ∀ Zh σ H vs Q, Ev X.K Zh H σ ρ S → RepL X.K (keys S ++ Zh) H ds vs → PostG X.K Zh H S σ ok Φ Q → t vs σ H Q) : DGs X ok ts ds ρ S Φ := fun Zh pins s σ H v u Q I E r rv k => p.run pins s σ H v u Q I rv (h Zh σ H v Q E r k)
theorem DG.tw {Zh : List Addr} {σ : L2.St} {H : Hp} {v : V} {Q : L2.St → Hp → Prop} (h : DG X ok tg d ρ S Φ) (E : Ev X.K Zh H σ ρ S) (r : Rep X.K (keys S ++ Zh) H d v) (k : PostG X.K Zh H S σ ok Φ Q) : gW X tg v σ H Q := fun pins s u I rv => h Zh pins s σ H v u Q I E r rv k
theorem DGs.tw {Zh : List Addr} {σ : L2.St} {H : Hp} {v : List V} {Q : L2.St → Hp → Prop} (h : DGs X ok ts ds ρ S Φ) (E : Ev X.K Zh H σ ρ S) (r : RepL X.K (keys S ++ Zh) H ds v) (k : PostG X.K Zh H S σ ok Φ Q) : gsW X ts v σ H Q := fun pins s u I rv => h Zh pins s σ H v u Q I E r rv k
variable {P : Program} {w : World} {K : PySem.W.Frag} {mg : Str → Option Value} {base : Heap} {tb : List (Str × Nat)} {names : List (Str × NameKind)} {k : Nat} {pos : Pos}
def NxG (Φ : Ro → Sto → Prop) (ρ : Ro) (S : Sto) : Prop := Φ ρ S
theorem nxG_norm {Φ : Ro → Sto → Prop} {ρ ρ' : Ro} {S : Sto} (e : ρ = ρ') (h : Φ ρ' S) : NxG Φ ρ S := by
  rw [e]
  exact h
theorem dg_name {x : Str} (A : At X P w K mg base tb names k) (h : ∃ i, tb.lookup x = some i ∧ (stB (names.lookup x) && ok i) = true ∧ NxG Φ (ρ.set i (some d)) S) : DG X ok (.Name x pos) d ρ S Φ := by
  obtain ⟨i, hi, hv, h⟩ := h
  rw [Bool.and_eq_true] at hv
  exact DG.of (pg_name A.nd (A.slot _ _ hi) (A.sto _ hv.1).1 (A.sto _ hv.1).2) fun Zh σ H v Q E r k => k _ _ _ _ rfl Grow.refl (E.put r) List.length_set (fun j hj => by
    rw [List.getElem?_set_ne]
    intro e
    subst e
    rw [hv.2] at hj
    cases hj) h
theorem dgs_nil (h : Φ ρ S) : DGs X ok [] [] ρ S Φ := DGs.of pgs_nil fun Zh σ H vs Q E r k => ⟨r.un0, k _ _ _ _ rfl Grow.refl E rfl (fun _ _ => rfl) h⟩
theorem dgs_cons (hs : (assignEach (tg :: ts) X.env).map (·.2) = assign tg X.env :: (assignEach ts X.env).map (·.2)) (h : DG X ok tg d ρ S fun ρ1 S1 => DGs X ok ts ds ρ1 S1 Φ) : DGs X ok (tg :: ts) (d :: ds) ρ S Φ :=
  DGs.of (pgs_cons pg_w pgs_w hs) fun Zh σ H vs Q E r k => by
    obtain ⟨v, r', rfl, rv, rr⟩ := r.uncons
    refine ⟨v, r', rfl, h.tw E rv fun σ1 H1 ρ1 S1 k1 g1 E1 l1 o1 q1 => q1.tw E1 (by rw [k1]; exact E.st.grL g1 rr) fun σ2 H2 ρ2 S2 k2 g2 E2 l2 o2 q2 =>
      k σ2 H2 ρ2 S2 (k2.trans k1) (g1.trans (by rw [← k1]; exact g2)) E2 (l2.trans l1) (fun j hj => (o2 j hj).trans (o1 j hj)) q2⟩
theorem dg_tup {es : List Expr} {kk : Nat} {n : Nat} (A : At X P w K mg base tb names k) (hn : (assignEach es X.env).length = n) (hst : (assignEach es X.env).findIdx? (·.1) = none) (h : ∃ l, d = .tup l ∧ Nat.beq l.length n = true ∧ DGs X ok es l ρ S Φ) : DG X ok (.Tuple es kk pos) d ρ S Φ := by
  obtain ⟨l, rfl, hl, h⟩ := h
  exact DG.of (pg_tup A.calm pgs_w hn hst) fun Zh σ H v Q E r k => by
    obtain ⟨p, vs, rfl, sq, rl⟩ := r.tup
    exact ⟨p, vs, rfl, sq, by rw [rl.length]; exact Nat.eq_of_beq_eq_true hl, h.tw E rl k⟩
theorem ds_asg {e : Expr} {E : DEnds} (hs : swapsWithSole [tg] e pos.line X.env = pure false) (hw : swappedStores [tg] e X.env = pure none) (h1 : (assignEach [tg] X.env).map (·.2) = [assign tg X.env])
    (h : DE X e ρ S fun d S1 => DG X (fun _ => true) tg d ρ S1 E.nx) : DS X (.Assign [tg] e pos) ρ S E :=
  DS.of (ps_asg pe_w pg_w hs hw h1) fun Zh σ H Dn ev k => h.bind ev fun v H1 d S1 k1 g1 E1 r1 h1 => h1.tw E1 r1 fun σ2 H2 ρ2 S2 k2 g2 E2 l2 o2 q2 =>
    k.nx _ _ _ _ ((Step.of k1 g1).trans (Step.of k2 g2)) E2 q2
end
/-! ### what is walked -/
structure ItOk (K : PySem.W.Frag) (Zh : List Addr) (S : Sto) (H0 : Hp) (ds : List D) (J : It) : Prop where
  go : ∀ i S' H, Step S H0 S' H → i < ds.length → J.go i H
  stop : ∀ S' H, Step S H0 S' H → J.stop ds.length H
  yld : ∀ i S' H x H' Zx, (∀ p, p ∈ Zx → H0 p = none) → Step S H0 S' H → Store K (Zx ++ Zh) H S' → i < ds.length → J.yld i H x H' → ∃ d, ds[i]? = some d ∧ Same H H' ∧ Rep K (keys S' ++ (Zx ++ Zh)) H' d x
mutual
theorem Rep.fresh {K : PySem.W.Frag} {A Zh Zx : List Addr} {H : Hp} (z : ∀ p, p ∈ Zx → H p = none) : ∀ {d : D} {v : V}, Rep K (A ++ Zh) H d v → Rep K (A ++ (Zx ++ Zh)) H d v
  | .non, _, h => by unfold Rep at h ⊢; exact h
  | .bl _, _, h => by unfold Rep at h ⊢; exact h
  | .int _, _, h => by unfold Rep at h ⊢; exact h
  | .rng _ _, _, h => by unfold Rep at h ⊢; exact h
  | .str _, _, h => by unfold Rep at h ⊢; exact h
  | .cell _, _, h => by unfold Rep at h ⊢; exact h
  | .tup l, v, h => by
    unfold Rep at h ⊢
    obtain ⟨p, vs, e, s, r⟩ := h
    exact ⟨p, vs, e, s, RepL.fresh z r⟩
  | .lst l, v, h => by
    unfold Rep at h ⊢
    obtain ⟨p, vs, e, n, s, r⟩ := h
    refine ⟨p, vs, e, fun m => ?_, s, RepL.fresh z r⟩
    rcases List.mem_append.mp m with m | m
    · exact n (List.mem_append_left _ m)
    · rcases List.mem_append.mp m with m | m
      · rw [z p m] at s
        cases s
      · exact n (List.mem_append_right _ m)
  | .dct ks l, v, h => by
    unfold Rep at h ⊢
    obtain ⟨p, vs, e, n, s, r⟩ := h
    refine ⟨p, vs, e, fun m => ?_, s, RepL.fresh z r⟩
    rcases List.mem_append.mp m with m | m
    · exact n (List.mem_append_left _ m)
    · rcases List.mem_append.mp m with m | m
      · rw [z p m] at s
        cases s
      · exact n (List.mem_append_right _ m)
  | .frz l, v, h => by
    unfold Rep at h ⊢
    obtain ⟨p, vs, e, s, r⟩ := h
    refine ⟨p, vs, e, s.imp (fun t => ⟨fun m => ?_, t.2⟩) id, RepL.fresh z r⟩
    rcases List.mem_append.mp m with m | m
    · exact t.1 (List.mem_append_left _ m)
    · rcases List.mem_append.mp m with m | m
      · rcases t.2 with s | ⟨o, s⟩
        · rw [z p m] at s
          cases s
        · rw [z p m] at s
          cases s
      · exact t.1 (List.mem_append_right _ m)
theorem RepL.fresh {K : PySem.W.Frag} {A Zh Zx : List Addr} {H : Hp} (z : ∀ p, p ∈ Zx → H p = none) : ∀ {l : List D} {vs : List V}, RepL K (A ++ Zh) H l vs → RepL K (A ++ (Zx ++ Zh)) H l vs
  | [], _, h => by unfold RepL at h ⊢; exact h
  | d :: l, vs, h => by
    unfold RepL at h ⊢
    obtain ⟨v, r, e, h1, h2⟩ := h
    exact ⟨v, r, e, Rep.fresh z h1, RepL.fresh z h2⟩
end
def DI (X : Cx) (tg iter : Expr) (ρ : Ro) (S : Sto) (Φ : List D → Sto → Prop) : Prop :=
  ∀ (Zh : List Addr) (pins : List (Addr × Obj)) (s : Shared) (σ : L2.St) (H : Hp) (R : It → Hp → Prop), Inv X pins σ H s → Ev X.K Zh H σ ρ S →
    (∀ J H' ds S', keys S' = keys S → Grow (keys S) H H' → Store X.K Zh H' S' → ItOk X.K Zh S' H' ds J → Φ ds S' → R J H') →
    wpAny (model X.prog X.w) X.A (eval iter X.env) (fun v s1 => wpAny (model X.prog X.w) X.A (pyIter v) (PIE X pins σ tg R) X.xe s1) X.xe s
def tiW (X : Cx) (tg iter : Expr) : TI := fun σ H R => ∀ (pins : List (Addr × Obj)) (s : Shared), Inv X pins σ H s → wpAny (model X.prog X.w) X.A (eval iter X.env) (fun v s1 => wpAny (model X.prog X.w) X.A (pyIter v) (PIE X pins σ tg R) X.xe s1) X.xe s
theorem Same.ev {K : PySem.W.Frag} {Zh : List Addr} {H H' : Hp} {σ : L2.St} {ρ : Ro} {S : Sto} (E : Ev K Zh H σ ρ S) (g : Same H H') : Ev K Zh H' σ ρ S :=
  E.next rfl (fun b x _ h => g b x h) (E.st.keep g)
theorem Same.step {S : Sto} {H H' : Hp} (g : Same H H') : Step S H S H' := .of rfl fun b x _ h => g b x h
section
variable {X : Cx} {ρ : Ro} {S : Sto} {tg iter e : Expr} {Φ : List D → Sto → Prop}
theorem pi_w : PI X tg iter (tiW X tg iter) := ⟨fun pins s _ _ _ I h => h pins s I⟩
theorem DI.of {t : TI} (p : PI X tg iter t) (h : ∀ Zh σ H R, Ev X.K Zh H σ ρ S → (∀ J H' ds S', keys S' = keys S → Grow (keys S) H H' → Store X.K Zh H' S' → ItOk X.K Zh S' H' ds J → Φ ds S' → R J H') → t σ H R) : DI X tg iter ρ S Φ := fun Zh pins s σ H R I E k => p.run pins s σ H R I (h Zh σ H R E k)
theorem DI.tw {Zh : List Addr} {σ : L2.St} {H : Hp} {R : It → Hp → Prop} (h : DI X tg iter ρ S Φ) (E : Ev X.K Zh H σ ρ S) (k : ∀ J H' ds S', keys S' = keys S → Grow (keys S) H H' → Store X.K Zh H' S' → ItOk X.K Zh S' H' ds J → Φ ds S' → R J H') : tiW X tg iter σ H R := fun pins s I => h Zh pins s σ H R I E k
theorem it_tup {K : PySem.W.Frag} {Zh : List Addr} {H : Hp} {l : List D} {p : Addr} {vs : List V} (st : Store K Zh H S) (sq : SqT K H p vs) (rl : RepL K (keys S ++ Zh) H l vs) : ItOk K Zh S H l (Itt K p) where
  go := fun i S' H' t hi => ⟨vs, vs[i]'(by rw [rl.length]; exact hi), SqT.grow st.zl t.1 sq, List.getElem?_eq_getElem _⟩
  stop := fun S' H' t => ⟨vs, SqT.grow st.zl t.1 sq, by rw [rl.length]; exact Nat.le_refl _⟩
  yld := fun i S' H' x H2 Zx zx t st' hi y => by
    obtain ⟨rfl, y⟩ := y
    obtain ⟨d, hd, r⟩ := rl.get2 (y vs (SqT.grow st.zl t.1 sq))
    exact ⟨d, hd, Same.refl _, Rep.step st.zl t (Rep.fresh zx r)⟩
theorem lst_step {K : PySem.W.Frag} {S S' : Sto} {H H' : Hp} {p : Addr} {vs : List V} (t : Step S H S' H') (h : (p ∉ keys S ∧ Rd H p (.lst vs)) ∨ KL K p vs) : SqL K H' p vs := by
  rcases h with ⟨n, h⟩ | h
  · rcases h with h | ⟨o, h⟩
    · exact .inl (.inl (t.1 _ _ n h))
    · exact .inl (.inr ⟨o, t.1 _ _ n h⟩)
  · exact .inr h
theorem frz_l {K : PySem.W.Frag} {Zh : List Addr} {H : Hp} {p : Addr} {vs : List V} (h : (p ∉ keys S ++ Zh ∧ Rd H p (.lst vs)) ∨ KL K p vs) : (p ∉ keys S ∧ Rd H p (.lst vs)) ∨ KL K p vs := h.imp (fun t => ⟨fun m => t.1 (sub_l _ m), t.2⟩) id
theorem it_lst {K : PySem.W.Frag} {Zh : List Addr} {H : Hp} {l : List D} {p : Addr} {vs : List V} (st : Store K Zh H S) (sq : (p ∉ keys S ∧ Rd H p (.lst vs)) ∨ KL K p vs) (rl : RepL K (keys S ++ Zh) H l vs) : ItOk K Zh S H l (Itl K p) where
  go := fun i S' H' t hi => ⟨vs, vs[i]'(by rw [rl.length]; exact hi), lst_step t sq, List.getElem?_eq_getElem _⟩
  stop := fun S' H' t => ⟨vs, lst_step t sq, by rw [rl.length]; exact Nat.le_refl _⟩
  yld := fun i S' H' x H2 Zx zx t st' hi y => by
    obtain ⟨rfl, y⟩ := y
    obtain ⟨d, hd, r⟩ := rl.get2 (y vs (lst_step t sq))
    exact ⟨d, hd, Same.refl _, Rep.step st.zl t (Rep.fresh zx r)⟩
theorem di_tup (h : DE X e ρ S fun d S1 => ∃ l, d = .tup l ∧ Φ l S1) : DI X tg e ρ S Φ := DI.of (pi_tup pe_w) fun Zh σ H R E k => h.bind E fun v H1 d S1 k1 g1 E1 r1 h1 => by
  obtain ⟨l, rfl, q⟩ := h1
  obtain ⟨p, vs, rfl, sq, rl⟩ := r1.tup
  exact ⟨p, rfl, ⟨vs, sq⟩, k _ H1 l S1 k1 g1 E1.st (it_tup E1.st sq rl) q⟩
theorem di_lst (h : DE X e ρ S fun d S1 => ∃ l, d = .lst l ∧ Φ l S1) : DI X tg e ρ S Φ := DI.of (pi_list pe_w) fun Zh σ H R E k => h.bind E fun v H1 d S1 k1 g1 E1 r1 h1 => by
  obtain ⟨l, rfl, q⟩ := h1
  obtain ⟨p, vs, rfl, n, sq, rl⟩ := r1.lst
  exact ⟨p, rfl, ⟨vs, .inl (.inl sq)⟩, k _ H1 l S1 k1 g1 E1.st (it_lst E1.st (frz_l (.inl ⟨n, .inl sq⟩)) rl) q⟩
theorem di_frz (h : DE X e ρ S fun d S1 => ∃ l, d = .frz l ∧ Φ l S1) : DI X tg e ρ S Φ := DI.of (pi_list pe_w) fun Zh σ H R E k => h.bind E fun v H1 d S1 k1 g1 E1 r1 h1 => by
  obtain ⟨l, rfl, q⟩ := h1
  obtain ⟨p, vs, rfl, sq, rl⟩ := r1.frz
  exact ⟨p, rfl, ⟨vs, frz_sq sq⟩, k _ H1 l S1 k1 g1 E1.st (it_lst E1.st (frz_l sq) rl) q⟩
/-- lo, lo + 1, .. -/
def rangeD (lo : Int) (n : Nat) : List D := (List.range n).map fun (i : Nat) => D.int (lo + (i : Int))
theorem rangeD_len {lo : Int} {n : Nat} : (rangeD lo n).length = n := by
  unfold rangeD
  rw [List.length_map, List.length_range]
theorem rangeD_get {lo : Int} {n i : Nat} (h : i < n) : (rangeD lo n)[i]? = some (.int (lo + i)) := by
  unfold rangeD
  rw [List.getElem?_map, List.getElem?_range h]
  rfl
theorem it_range {K : PySem.W.Frag} {Zh : List Addr} {H : Hp} {lo : Int} {n : Nat} : ItOk K Zh S H (rangeD lo n) (Itr lo n) where
  go := fun i S' H' t hi => by
    rw [rangeD_len] at hi
    exact hi
  stop := fun S' H' t => by
    rw [rangeD_len]
    exact Nat.le_refl n
  yld := fun i S' H' x H2 Zx zx t st' hi y => by
    obtain ⟨rfl, rfl⟩ := y
    rw [rangeD_len] at hi
    exact ⟨_, rangeD_get hi, Same.refl _, rep_int⟩
/-- the signs of a text -/
def charsD (x : Str) : List D := x.cps.toList.map fun c => D.str ⟨#[c]⟩
theorem it_str {K : PySem.W.Frag} {Zh : List Addr} {H : Hp} {x : Str} : ItOk K Zh S H (charsD x) (Its x) where
  go := fun i S' H' t hi => by
    unfold charsD at hi
    rw [List.length_map] at hi
    exact hi
  stop := fun S' H' t => by
    show x.cps.size ≤ (charsD x).length
    unfold charsD
    rw [List.length_map]
    exact Nat.le_refl _
  yld := fun i S' H' v H2 Zx zx t st' hi y => by
    obtain ⟨rfl, c, hc, rfl⟩ := y
    refine ⟨.str ⟨#[c]⟩, ?_, Same.refl _, rep_str⟩
    unfold charsD
    rw [List.getElem?_map, Array.getElem?_toList, hc]
    rfl
theorem di_str (h : DE X e ρ S fun d S1 => ∃ x, d = .str x ∧ Φ (charsD x) S1) : DI X tg e ρ S Φ := DI.of (pi_str pe_w) fun Zh σ H R E k => h.bind E fun v H1 d S1 k1 g1 E1 r1 h1 => by
  obtain ⟨x, rfl, q⟩ := h1
  exact ⟨x, r1.str, k _ H1 _ S1 k1 g1 E1.st it_str q⟩
variable {P : Program} {w : World} {K : PySem.W.Frag} {mg : Str → Option Value} {base : Heap} {tb : List (Str × Nat)} {names : List (Str × NameKind)} {k : Nat} {pos p : Pos}
theorem di_range1 (A : At X P w K mg base tb names k) (hm : mg "range" = none) (hg : glB names "range" = true) (hs : starEach [e] X.env = [(false, eval e X.env)])
    (h : DE X e ρ S fun d S1 => ∃ i, d = .int i ∧ (-(2 ^ 62) ≤ i ∧ i < 2 ^ 62) ∧ Φ (rangeD 0 i.toNat) S1) (hs2 : starEach (e :: []) X.env = (false, eval e X.env) :: starEach [] X.env) : DI X tg (.Call (.Name "range" p) [e] [] pos) ρ S Φ :=
  DI.of (pi_range1 (A.gl _ (glB_of hg).2) (by rw [A.mg]; exact hm) (pa_cons pe_w pa_nil hs2) hs) fun Zh σ H R E k => h.bind E fun v H1 d S1 k1 g1 E1 r1 h1 => by
    obtain ⟨i, rfl, ⟨h1, h2⟩, q⟩ := h1
    refine ⟨i, by rw [r1.int], h1, h2, k _ H1 _ S1 k1 g1 E1.st it_range q⟩
theorem di_range2 {e2 : Expr} (A : At X P w K mg base tb names k) (hm : mg "range" = none) (hg : glB names "range" = true) (hs : starEach [e, e2] X.env = [(false, eval e X.env), (false, eval e2 X.env)]) (hs2 : starEach [e2] X.env = [(false, eval e2 X.env)])
    (hs3 : starEach (e :: [e2]) X.env = (false, eval e X.env) :: starEach [e2] X.env) (hs4 : starEach (e2 :: []) X.env = (false, eval e2 X.env) :: starEach [] X.env)
    (h : DE X e ρ S fun d S1 => DE X e2 ρ S1 fun c S2 => ∃ i j, d = .int i ∧ c = .int j ∧ (-(2 ^ 62) ≤ i ∧ i < 2 ^ 62 ∧ -(2 ^ 62) ≤ j ∧ j < 2 ^ 62) ∧ Φ (rangeD i (j - i).toNat) S2) : DI X tg (.Call (.Name "range" p) [e, e2] [] pos) ρ S Φ :=
  DI.of (pi_range2 (A.gl _ (glB_of hg).2) (by rw [A.mg]; exact hm) (pa_cons pe_w (pa_cons pe_w pa_nil hs4) hs3) hs hs2) fun Zh σ H R E k => h.bind E fun v H1 d S1 k1 g1 E1 r1 h1 => h1.bind E1 fun v2 H2 d2 S2 k2 g2 E2 r2 h2 => by
    obtain ⟨i, j, rfl, rfl, hb, q⟩ := h2
    refine ⟨i, j, by rw [(E1.st.gr g2 r1).int, r2.int], hb, k _ H2 _ S2 (k2.trans k1) (g1.trans (by rw [← k1]; exact g2)) E2.st it_range q⟩
/-! ### for -/
def ForD (X : Cx) (tg : Expr) (body : List Stmt) : List D → Ro → Sto → DEnds → Prop
  | [], ρ, S, E => E.nx ρ S
  | d :: ds, ρ, S, E => DG X (fun _ => true) tg d ρ S fun ρ1 S1 => DSs X body ρ1 S1 { E with nx := fun r s => ForD X tg body ds r s E, ct := fun r s => ForD X tg body ds r s E, bk := E.nx }
theorem ds_for {body : List Stmt} {E : DEnds} (A : At X P w K mg base tb names k) (hs : ∀ x, foldedSetIterable iter X.env x = pure x) (h : DI X tg iter ρ S fun ds S1 => ForD X tg body ds ρ S1 E) : DS X (.For tg iter body [] pos) ρ S E :=
  DS.of (ps_for A.own A.calm pi_w pg_w pss_w hs) fun Zh σ H Dn ev kk => h.tw ev fun J H1 ds S1 k1 g1 s1 it q => by
    have ev1 := ev.next k1 g1 s1
    have kk1 := kk.next (Step.of k1 g1)
    refine ⟨fun i m σ' H' => ∃ ρ' S', Step S1 H1 S' H' ∧ Ev X.K Zh H' σ' ρ' S' ∧ ForD X tg body (ds.drop i) ρ' S' E ∧ m = ds.length - i ∧ i ≤ ds.length, ⟨ds.length, ρ, S1, Step.refl, ev1, q, rfl, Nat.zero_le _⟩, ?_⟩
    rintro i m σ2 H2 ⟨ρ2, S2, t2, ev2, q2, rfl, hi⟩
    by_cases hlt : i < ds.length
    · refine .inr ⟨it.go i S2 H2 t2 hlt, fun σ' H' => ∃ ρ' S', Step S1 H1 S' H' ∧ Ev X.K Zh H' σ' ρ' S' ∧ ForD X tg body (ds.drop (i + 1)) ρ' S' E, ?_, fun x H3 y => ?_⟩
      · rintro σ' H' ⟨ρ', S', t, ev, q⟩
        exact ⟨ds.length - (i + 1), by omega, ρ', S', t, ev, q, rfl, hlt⟩
      · obtain ⟨d, hd, sm, rd⟩ := it.yld i S2 H2 x H3 [] (fun _ h => nomatch h) t2 ev2.st hlt y
        have e : ds.drop i = d :: ds.drop (i + 1) := by
          rw [List.drop_eq_getElem_cons hlt]
          congr 1
          rw [List.getElem?_eq_getElem hlt] at hd
          exact Option.some.inj hd
        rw [e] at q2
        have ev3 := Same.ev ev2 sm
        have t3 := t2.trans (Same.step sm)
        refine DG.tw q2 ev3 rd fun σ4 H4 ρ4 S4 k4 g4 ev4 _ _ q4 => ?_
        have t4 := t3.trans (Step.of k4 g4)
        refine q4.tw ev4 ⟨fun σ' H' ρ' S' t e q => ⟨ρ', S', t4.trans t, e, q⟩, fun v H' d S' t s r q => kk1.rt v H' d S' (t4.trans t) s r q, fun σ' H' ρ' S' t e q => kk1.nx σ' H' ρ' S' (t4.trans t) e q, fun σ' H' ρ' S' t e q => ⟨ρ', S', t4.trans t, e, q⟩⟩
    · refine .inl ⟨?_, ?_⟩
      · have e : i = ds.length := by omega
        subst e
        exact it.stop S2 H2 t2
      · rw [List.drop_eq_nil_of_le (by omega)] at q2
        exact kk1.nx _ _ _ _ t2 ev2 q2
end
end Ar
namespace Ar
open PySem PySem.Spec PyProof.Rows L2
open RZ (ItzT pi_zipA iZipA)
/-! ### zip, enumerate -/
def zipD : List D → List D → List D
  | a :: l, b :: m => .tup [a, b] :: zipD l m
  | _, _ => []
theorem zipD_len : ∀ {l m : List D}, (zipD l m).length = min l.length m.length
  | [], m => by simp [zipD]
  | _ :: _, [] => by simp [zipD]
  | a :: l, b :: m => by
    show (zipD l m).length + 1 = min (l.length + 1) (m.length + 1)
    rw [zipD_len (l := l) (m := m)]
    omega
theorem zipD_get : ∀ {l m : List D} {i : Nat} {a b : D}, l[i]? = some a → m[i]? = some b → (zipD l m)[i]? = some (.tup [a, b])
  | [], _, _, _, _, h, _ => by simp at h
  | _ :: _, [], _, _, _, _, h => by simp at h
  | x :: l, y :: m, 0, a, b, h, h2 => by
    have e : x = a := Option.some.inj h
    have e2 : y = b := Option.some.inj h2
    rw [← e, ← e2]
    rfl
  | x :: l, y :: m, i + 1, a, b, h, h2 => zipD_get (l := l) (m := m) (i := i) h h2
def enumD : Nat → List D → List D
  | _, [] => []
  | n, d :: l => .tup [.int (n : Int), d] :: enumD (n + 1) l
theorem enumD_len : ∀ {l : List D} {n : Nat}, (enumD n l).length = l.length
  | [], _ => rfl
  | _ :: l, n => by
    show (enumD (n + 1) l).length + 1 = l.length + 1
    rw [enumD_len]
theorem enumD_get : ∀ {l : List D} {n i : Nat} {a : D}, l[i]? = some a → (enumD n l)[i]? = some (.tup [.int ((n + i : Nat) : Int), a])
  | [], _, _, _, h => by simp at h
  | x :: l, n, 0, a, h => by
    have e : x = a := Option.some.inj h
    rw [← e]
    rfl
  | x :: l, n, i + 1, a, h => by
    have z := enumD_get (l := l) (n := n + 1) (i := i) h
    show (enumD (n + 1) l)[i]? = _
    rw [z]
    rw [show n + 1 + i = n + (i + 1) by omega]
theorem tup_new {K : PySem.W.Frag} {Zh : List Addr} {S : Sto} {H : Hp} {T : Addr} {l : List D} {vs : List V} (z : Store K Zh H S) (hT : H T = none) (r : RepL K (keys S ++ Zh) H l vs) : Rep K (keys S ++ Zh) (upd H T (.tup vs)) (.tup l) (.ref T) := by
  unfold Rep
  exact ⟨T, vs, rfl, .inl (.inl upd_same), z.grL (Grow.new hT) r⟩
theorem same_new {H : Hp} {p : Addr} {o : HO} (h : H p = none) : Same H (upd H p o) := fun b x e => by
  rw [upd_ne (ne_of_none e h)]
  exact e
section
variable {X : Cx} {ρ : Ro} {S : Sto} {tg iter e e2 : Expr} {Φ : List D → Sto → Prop}
theorem it_zip {K : PySem.W.Frag} {Zh : List Addr} {H : Hp} {l m : List D} {p q : Addr} {vs us : List V} (st : Store K Zh H S) (sq : (p ∉ keys S ∧ Rd H p (.lst vs)) ∨ KL K p vs) (sq2 : (q ∉ keys S ∧ Rd H q (.lst us)) ∨ KL K q us) (rl : RepL K (keys S ++ Zh) H l vs) (rm : RepL K (keys S ++ Zh) H m us) : ItOk K Zh S H (zipD l m) (Itz K p q) where
  go := fun i S' H' t hi => by
    rw [zipD_len] at hi
    exact ⟨vs, us, vs[i]'(by rw [rl.length]; omega), us[i]'(by rw [rm.length]; omega), lst_step t sq, lst_step t sq2, List.getElem?_eq_getElem _, List.getElem?_eq_getElem _⟩
  stop := fun S' H' t => ⟨vs, us, lst_step t sq, lst_step t sq2, by rw [zipD_len, rl.length, rm.length]; omega⟩
  yld := fun i S' H' x H2 Zx zx t st' hi y => by
    obtain ⟨T, x, y, rfl, hT, rfl, f1, f2⟩ := y
    obtain ⟨d, hd, r⟩ := rl.get2 (f1 vs (lst_step t sq))
    obtain ⟨d2, hd2, r2⟩ := rm.get2 (f2 us (lst_step t sq2))
    exact ⟨_, zipD_get hd hd2, same_new hT, tup_new st' hT (.cons (Rep.step st.zl t (Rep.fresh zx r)) (.cons (Rep.step st.zl t (Rep.fresh zx r2)) .nil))⟩
theorem it_zipT {K : PySem.W.Frag} {Zh : List Addr} {H : Hp} {l m : List D} {p q : Addr} {vs us : List V} (st : Store K Zh H S) (sq : SqT K H p vs) (sq2 : SqT K H q us) (rl : RepL K (keys S ++ Zh) H l vs) (rm : RepL K (keys S ++ Zh) H m us) : ItOk K Zh S H (zipD l m) (ItzT K p q) where
  go := fun i S' H' t hi => by
    rw [zipD_len] at hi
    exact ⟨vs, us, vs[i]'(by rw [rl.length]; omega), us[i]'(by rw [rm.length]; omega), SqT.grow st.zl t.1 sq, SqT.grow st.zl t.1 sq2, List.getElem?_eq_getElem _, List.getElem?_eq_getElem _⟩
  stop := fun S' H' t => ⟨vs, us, SqT.grow st.zl t.1 sq, SqT.grow st.zl t.1 sq2, by rw [zipD_len, rl.length, rm.length]; omega⟩
  yld := fun i S' H' x H2 Zx zx t st' hi y => by
    obtain ⟨T, x, y, rfl, hT, rfl, f1, f2⟩ := y
    obtain ⟨d, hd, r⟩ := rl.get2 (f1 vs (SqT.grow st.zl t.1 sq))
    obtain ⟨d2, hd2, r2⟩ := rm.get2 (f2 us (SqT.grow st.zl t.1 sq2))
    exact ⟨_, zipD_get hd hd2, same_new hT, tup_new st' hT (.cons (Rep.step st.zl t (Rep.fresh zx r)) (.cons (Rep.step st.zl t (Rep.fresh zx r2)) .nil))⟩
theorem it_enum {K : PySem.W.Frag} {Zh : List Addr} {H : Hp} {l : List D} {p : Addr} {vs : List V} (st : Store K Zh H S) (sq : (p ∉ keys S ∧ Rd H p (.lst vs)) ∨ KL K p vs) (rl : RepL K (keys S ++ Zh) H l vs) : ItOk K Zh S H (enumD 0 l) (Ite K p) where
  go := fun i S' H' t hi => by
    rw [enumD_len] at hi
    exact ⟨vs, vs[i]'(by rw [rl.length]; exact hi), lst_step t sq, List.getElem?_eq_getElem _⟩
  stop := fun S' H' t => ⟨vs, lst_step t sq, by rw [enumD_len, rl.length]; exact Nat.le_refl _⟩
  yld := fun i S' H' x H2 Zx zx t st' hi y => by
    obtain ⟨T, x, rfl, hT, rfl, f1⟩ := y
    obtain ⟨d, hd, r⟩ := rl.get2 (f1 vs (lst_step t sq))
    refine ⟨_, enumD_get hd, same_new hT, tup_new st' hT (.cons ?_ (.cons (Rep.step st.zl t (Rep.fresh zx r)) .nil))⟩
    rw [Nat.zero_add]
    exact rep_int
/-- a value that is read as a list: its items -/
inductive LstD : D → List D → Prop where
  | lst (l : List D) : LstD (.lst l) l
  | frz (l : List D) : LstD (.frz l) l
theorem LstD.rep {K : PySem.W.Frag} {Z : List Addr} {H : Hp} {d : D} {l : List D} {v : V} (h : LstD d l) (r : Rep K Z H d v) : ∃ p vs, v = .ref p ∧ ((p ∉ Z ∧ Rd H p (.lst vs)) ∨ KL K p vs) ∧ RepL K Z H l vs := by
  cases h with
  | lst =>
    obtain ⟨p, vs, e, n, sq, rl⟩ := r.lst
    exact ⟨p, vs, e, .inl ⟨n, .inl sq⟩, rl⟩
  | frz => exact r.frz
variable {P : Program} {w : World} {K : PySem.W.Frag} {mg : Str → Option Value} {base : Heap} {tb : List (Str × Nat)} {names : List (Str × NameKind)} {k : Nat} {pos p tpos : Pos} {elts : List Expr} {kk : Nat}
theorem di_zip (A : At X P w K mg base tb names k) (hm : mg "zip" = none) (hg : glB names "zip" = true) (hs : starEach [e, e2] X.env = (false, eval e X.env) :: starEach [e2] X.env) (hpl : (backTo pos (starEach [e2] X.env)).any (·.1) = false)
    (hs4 : starEach (e2 :: []) X.env = (false, eval e2 X.env) :: starEach [] X.env)
    (h : DE X e ρ S fun d S1 => DE X e2 ρ S1 fun c S2 => (∃ l m, LstD d l ∧ LstD c m ∧ Φ (zipD l m) S2) ∨ (∃ l m, d = .tup l ∧ c = .tup m ∧ Φ (zipD l m) S2)) : DI X (.Tuple elts kk tpos) (.Call (.Name "zip" p) [e, e2] [] pos) ρ S Φ :=
  DI.of (pi_zipA (A.gl _ (glB_of hg).2) (by rw [A.mg]; exact hm) (pa_cons pe_w (pa_cons pe_w pa_nil hs4) hs) hs hpl) fun Zh σ H R E k => h.bind E fun v H1 d S1 k1 g1 E1 r1 h1 => h1.bind E1 fun v2 H2 d2 S2 k2 g2 E2 r2 h2 => by
    have r1' : Rep X.K (keys S2 ++ Zh) H2 d v := by
      rw [k2]
      exact E1.st.gr g2 r1
    have fin := fun J ds it q => k J H2 ds S2 (k2.trans k1) (g1.trans (by rw [← k1]; exact g2)) E2.st it q
    rcases h2 with ⟨l, m, hl, hm, q⟩ | ⟨l, m, rfl, rfl, q⟩
    · obtain ⟨a, vs, rfl, sq, rl⟩ := hl.rep r1'
      obtain ⟨b, us, rfl, sq2, rm⟩ := hm.rep r2
      exact ⟨a, b, vs, us, rfl, .inl ⟨frz_sq sq, frz_sq sq2, fin _ _ (it_zip E2.st (frz_l sq) (frz_l sq2) rl rm) q⟩⟩
    · obtain ⟨a, vs, rfl, sq, rl⟩ := r1'.tup
      obtain ⟨b, us, rfl, sq2, rm⟩ := r2.tup
      exact ⟨a, b, vs, us, rfl, .inr ⟨sq, sq2, fin _ _ (it_zipT E2.st sq sq2 rl rm) q⟩⟩
theorem di_enum (A : At X P w K mg base tb names k) (hm : mg "enumerate" = none) (hg : glB names "enumerate" = true) (hs : starEach [e] X.env = [(false, eval e X.env)]) (hs4 : starEach (e :: []) X.env = (false, eval e X.env) :: starEach [] X.env)
    (h : DE X e ρ S fun d S1 => ∃ l, LstD d l ∧ Φ (enumD 0 l) S1) : DI X (.Tuple elts kk tpos) (.Call (.Name "enumerate" p) [e] [] pos) ρ S Φ :=
  DI.of (pi_enum (A.gl _ (glB_of hg).2) (by rw [A.mg]; exact hm) (pa_cons pe_w pa_nil hs4) hs) fun Zh σ H R E k => h.bind E fun v H1 d S1 k1 g1 E1 r1 h1 => by
    obtain ⟨l, hl, q⟩ := h1
    obtain ⟨a, vs, rfl, sq, rl⟩ := hl.rep r1
    exact ⟨a, vs, rfl, frz_sq sq, k _ H1 _ S1 k1 g1 E1.st (it_enum E1.st (frz_l sq) rl) q⟩
end
/-! ### list comprehensions -/
def wipeR (ρ : Ro) : List Nat → Ro
  | [] => ρ
  | v :: vs => (wipeR ρ vs).set v none
theorem Ev.forget {K : PySem.W.Frag} {Zh : List Addr} {H : Hp} {σ : L2.St} {ρ : Ro} {S : Sto} {i : Nat} (E : Ev K Zh H σ ρ S) : Ev K Zh H (σ.set i none) (ρ.set i none) S :=
  ⟨E.st, by rw [List.length_set, List.length_set]; exact E.len, fun j c h => by
    by_cases hj : i = j
    · subst hj
      by_cases hl : i < ρ.length
      · rw [List.getElem?_set_self hl] at h
        cases h
      · rw [List.getElem?_eq_none (by rw [List.length_set]; omega)] at h
        cases h
    · rw [List.getElem?_set_ne hj] at h
      rw [List.getElem?_set_ne hj]
      exact E.var j c h⟩
theorem Ev.wipe {K : PySem.W.Frag} {Zh : List Addr} {H : Hp} {σ : L2.St} {ρ : Ro} {S : Sto} (E : Ev K Zh H σ ρ S) : ∀ vs : List Nat, Ev K Zh H (L2.wipe σ vs) (wipeR ρ vs) S
  | [] => E
  | v :: vs => (Ev.wipe E vs).forget
theorem wipe_get {σ : L2.St} : ∀ {vs : List Nat} {j : Nat}, j ∈ vs → j < σ.length → (L2.wipe σ vs)[j]? = some none
  | [], _, h, _ => by simp at h
  | v :: vs, j, h, hl => by
    unfold L2.wipe
    by_cases e : v = j
    · subst e
      rw [List.getElem?_set_self (by rw [wipe_length]; exact hl)]
    · rw [List.getElem?_set_ne e]
      refine wipe_get ?_ hl
      rcases List.mem_cons.mp h with q | q
      · exact absurd q.symm e
      · exact q
theorem wipe_eq {σ σ2 : L2.St} {vs : List Nat} (hl : σ2.length = (L2.wipe σ vs).length) (h : ∀ j, j ∉ vs → σ2[j]? = (L2.wipe σ vs)[j]?) : L2.wipe σ2 vs = L2.wipe σ vs := by
  apply List.ext_getElem?
  intro j
  by_cases hj : j ∈ vs
  · by_cases hlt : j < σ2.length
    · rw [wipe_get hj hlt, wipe_get hj (by rw [hl, wipe_length] at hlt; exact hlt)]
    · rw [List.getElem?_eq_none (by rw [wipe_length]; omega), List.getElem?_eq_none (by rw [← hl]; omega)]
  · rw [wipe_out hj, h j hj]
abbrev Bl := Cx → Prop
/-- the contexts of a block -/
def blks (X : Cx) (scope : Scope) : Bl := fun X' => ∃ (s : Shared) (H : Hp) (C : Addr) (cl : List (Str × Addr)) (fp : List Addr), X' = X.blk s H scope (compEnvC scope cl C X.env) fp
def DEb (b : Bl) (e : Expr) (ρ : Ro) (S : Sto) (Φ : D → Sto → Prop) : Prop := ∀ X', b X' → DE X' e ρ S Φ
def DGb (b : Bl) (ok : Nat → Bool) (e : Expr) (d : D) (ρ : Ro) (S : Sto) (Φ : Ro → Sto → Prop) : Prop := ∀ X', b X' → DG X' ok e d ρ S Φ
/-- the tests of a clause: none, or one -/
def DTb (b : Bl) : List Expr → Ro → Sto → (Bool → Sto → Prop) → Prop
  | [], _, S, Φ => Φ true S
  | [c], ρ, S, Φ => ∀ X', b X' → DT X' c ρ S Φ
  | _, _, _, _ => False
def LcD (b : Bl) (ok : Nat → Bool) (tg : Expr) (ifs : List Expr) (elt : Expr) : List D → Ro → Sto → List D → (D → Sto → Prop) → Prop
  | [], _, S, acc, Φ => Φ (.lst acc) S
  | d :: ds, ρ, S, acc, Φ => DGb b ok tg d ρ S fun ρ2 S2 => DTb b ifs ρ2 S2 fun c S3 => if c = true then DEb b elt ρ2 S3 fun y S4 => LcD b ok tg ifs elt ds ρ S4 (acc ++ [y]) Φ else LcD b ok tg ifs elt ds ρ S3 acc Φ
def teB (b : Bl) (e : Expr) : TE := fun σ H Q => ∀ X', b X' → tW X' e σ H Q
def tgB (b : Bl) (e : Expr) : TG := fun v σ H Q => ∀ X', b X' → gW X' e v σ H Q
def ttB (b : Bl) : List Expr → TT
  | [] => tYes
  | [c] => fun σ H Q => ∀ X', b X' → ttW X' c σ H Q
  | _ => fun _ _ _ => False
section
variable {X : Cx} {ρ : Ro} {S : Sto} {tg iter e e2 : Expr}
theorem pts_b {b : Bl} (h : b X) : ∀ {ifs : List Expr}, PTs X ifs (ttB b ifs)
  | [] => pts_nil
  | [c] => pts_one ⟨fun pins s σ H Q I q => q X h pins s I⟩
  | _ :: _ :: _ => ⟨fun _ _ _ _ _ _ q => q.elim⟩
variable {P : Program} {w : World} {K : PySem.W.Frag} {mg : Str → Option Value} {base : Heap} {tb : List (Str × Nat)} {names : List (Str × NameKind)} {k : Nat} {pos p tpos : Pos}
theorem relabel_look {scope : Scope} {env : Env} : ∀ (l : List (Str × NameKind)) (x : Str),
    (l.map fun (n, k) => if (k == NameKind.free && env.scope.kind == .function && env.kindOf n == some .cell) then (n, NameKind.cell) else (n, k)).lookup x = l.lookup x ∨
    (l.lookup x = some .free ∧ (l.map fun (n, k) => if (k == NameKind.free && env.scope.kind == .function && env.kindOf n == some .cell) then (n, NameKind.cell) else (n, k)).lookup x = some .cell)
  | [], x => .inl rfl
  | (n, k) :: r, x => by
    have ih := relabel_look (scope := scope) (env := env) r x
    cases hx : x == n with
    | true =>
      by_cases hc : (k == NameKind.free && env.scope.kind == .function && env.kindOf n == some .cell) = true
      · refine .inr ⟨?_, ?_⟩
        · rw [List.lookup_cons, hx]
          rw [Bool.and_eq_true, Bool.and_eq_true] at hc
          have e : k = NameKind.free := by simpa using hc.1.1
          rw [e]
        · show List.lookup x ((if (k == NameKind.free && env.scope.kind == .function && env.kindOf n == some .cell) = true then (n, NameKind.cell) else (n, k)) :: _) = _
          rw [if_pos hc, List.lookup_cons, hx]
      · refine .inl ?_
        show List.lookup x ((if (k == NameKind.free && env.scope.kind == .function && env.kindOf n == some .cell) = true then (n, NameKind.cell) else (n, k)) :: _) = _
        rw [if_neg hc, List.lookup_cons, List.lookup_cons, hx]
    | false =>
      have e1 : List.lookup x ((n, k) :: r) = List.lookup x r := by rw [List.lookup_cons, hx]
      have e2 : (((n, k) :: r).map fun (n, k) => if (k == NameKind.free && env.scope.kind == .function && env.kindOf n == some .cell) then (n, NameKind.cell) else (n, k)).lookup x =
          (r.map fun (n, k) => if (k == NameKind.free && env.scope.kind == .function && env.kindOf n == some .cell) then (n, NameKind.cell) else (n, k)).lookup x := by
        show List.lookup x ((if (k == NameKind.free && env.scope.kind == .function && env.kindOf n == some .cell) = true then (n, NameKind.cell) else (n, k)) :: _) = _
        by_cases hc : (k == NameKind.free && env.scope.kind == .function && env.kindOf n == some .cell) = true
        · rw [if_pos hc, List.lookup_cons, hx]
        · rw [if_neg hc, List.lookup_cons, hx]
      rw [e1, e2]
      exact ih
theorem At.blk {scope : Scope} (A : At X P w K mg base tb names k) (hk : scope.kind = .function) {X' : Cx} (h : blks X scope X') : At X' P w K mg base tb scope.names k := by
  obtain ⟨s, H, C, cl, fp, rfl⟩ := h
  have look := fun x => relabel_look (scope := scope) (env := X.env) scope.names x
  refine ⟨A.prog, A.w, A.K, A.mg, A.base, A.slot, A.cov, fun x hx => ?_, fun x hx => ?_, fun x hx => ?_, fun x hx => ?_, fun x hx => ?_, hk, A.room, A.calm, A.nd, PassesOwn.never⟩
  · show (relabel scope X.env).names.lookup x = some .local ∨ (relabel scope X.env).names.lookup x = some .cell ∨ (relabel scope X.env).names.lookup x = some .free
    rcases look x with q | ⟨q, q2⟩
    · have e : (relabel scope X.env).names.lookup x = scope.names.lookup x := q
      rw [e]
      revert hx
      cases scope.names.lookup x with
      | none => intro h; cases h
      | some k => cases k <;> intro h <;> first | exact .inl rfl | exact .inr (.inl rfl) | exact .inr (.inr rfl) | cases h
    · exact .inr (.inl q2)
  · show (relabel scope X.env).names.lookup x = some .globalImplicit
    rcases look x with q | ⟨q, q2⟩
    · exact q.trans hx
    · rw [q] at hx
      cases hx
  · rcases look x with q | ⟨q, q2⟩
    · have e : (relabel scope X.env).names.lookup x = scope.names.lookup x := q
      refine ⟨?_, ?_⟩
      · show L2.Loc (relabel scope X.env) x
        unfold L2.Loc
        rw [e]
        revert hx
        cases scope.names.lookup x with
        | none => intro h; cases h
        | some k => cases k <;> intro h <;> first | exact .inl rfl | exact .inr rfl | cases h
      · show (scope.names.lookup x == some .cell) = true ∨ (relabel scope X.env).names.lookup x = some .local
        rw [e]
        revert hx
        cases scope.names.lookup x with
        | none => intro h; cases h
        | some k => cases k <;> intro h <;> first | exact .inr rfl | exact .inl rfl | cases h
    · rw [q] at hx
      cases hx
  · show (relabel scope X.env).names.lookup x = some .local
    rcases look x with q | ⟨q, q2⟩
    · exact q.trans hx
    · rw [q] at hx
      cases hx
  · show (relabel scope X.env).names.lookup x = some .cell ∨ (relabel scope X.env).names.lookup x = some .free
    rcases look x with q | ⟨q, q2⟩
    · have e : (relabel scope X.env).names.lookup x = scope.names.lookup x := q
      rw [e]
      revert hx
      cases scope.names.lookup x with
      | none => intro h; cases h
      | some k => cases k <;> intro h <;> first | exact .inl rfl | exact .inr rfl | cases h
    · exact .inl q2
/-- the block's names against the names around -/
def blkD (tb : List (Str × Nat)) (names bn : List (Str × NameKind)) (own : List (Str × Nat)) : Bool :=
  (bn.all fun y => decide (bn.lookup y.1 = some y.2)) && (own.all fun p => decide (tb.lookup p.1 = some p.2)) &&
    (bn.all fun y => match y.2 with
      | .free => cfB (names.lookup y.1)
      | .local => decide (y.1 ∈ own.map (·.1)) || (tb.lookup y.1).isNone
      | .cell => decide (y.1 ∈ own.map (·.1)) || (tb.lookup y.1).isNone
      | _ => true)
theorem blkD_ok {scope : Scope} {own : List (Str × Nat)} (A : At X P w K mg base tb names k) (hk : scope.kind = .function) (h : blkD tb names scope.names own = true) : BlkOk X.N X.env.scope scope own := by
  unfold blkD at h
  simp only [Bool.and_eq_true, List.all_eq_true, decide_eq_true_eq] at h
  obtain ⟨⟨h1, h2⟩, h3⟩ := h
  have out : ∀ y : Str, (tb.lookup y).isNone = true → y ∉ X.N := fun y e m => by
    have z := A.cov y m
    cases q : tb.lookup y with
    | none => rw [q] at z; cases z
    | some i => rw [q] at e; cases e
  refine ⟨hk, h1, fun p hp => A.slot _ _ (h2 p hp), fun y hy e => ?_, fun y hy e => ?_⟩
  · have q := h3 y hy
    rw [e] at q
    exact A.cf _ q
  · have q := h3 y hy
    rcases e with e | e <;> (rw [e] at q; simp only [Bool.or_eq_true, decide_eq_true_eq] at q; exact q.imp id (out _))
theorem Store.narrow {K : PySem.W.Frag} {Zh Zx : List Addr} {H : Hp} {S : Sto} (s : Store K (Zx ++ Zh) H S) : Store K Zh H S := ⟨s.nd, fun p l m => by
  obtain ⟨vs, h1, h2⟩ := s.st p l m
  refine ⟨vs, h1, h2.shrink fun q hq => ?_⟩
  rcases List.mem_append.mp hq with z | z
  · exact List.mem_append_left _ z
  · exact List.mem_append_right _ (List.mem_append_right _ z), fun p m => s.hid p (List.mem_append_right _ m)⟩
theorem Store.hide {K : PySem.W.Frag} {Zh : List Addr} {H : Hp} {S : Sto} {p : Addr} {l : List V} (s : Store K Zh H S) (hp : H p = none) : Store K ([p] ++ Zh) (upd H p (.lst l)) S := ⟨s.nd, fun q m hm => by
  obtain ⟨vs, h1, h2⟩ := s.st q m hm
  refine ⟨vs, by rw [upd_ne (ne_of_none h1 hp)]; exact h1, ?_⟩
  have r := RepL.fresh (Zx := [p]) (fun c hc => by
    rw [List.mem_singleton.mp hc]
    exact hp) h2
  exact RepL.grow s.zl (Grow.new hp) sub_l r, fun q m => by
  rcases List.mem_append.mp m with z | z
  · rw [List.mem_singleton.mp z]
    exact ⟨fun h => s.free hp (sub_l _ h), _, upd_same⟩
  · obtain ⟨n, vs, e⟩ := s.hid q z
    exact ⟨n, vs, by rw [upd_ne (ne_of_none e hp)]; exact e⟩⟩
theorem Ev.hide {K : PySem.W.Frag} {Zh : List Addr} {H : Hp} {σ : L2.St} {ρ : Ro} {S : Sto} {p : Addr} {l : List V} (E : Ev K Zh H σ ρ S) (hp : H p = none) : Ev K ([p] ++ Zh) (upd H p (.lst l)) σ ρ S :=
  ⟨E.st.hide hp, E.len, fun i d h => by
    obtain ⟨v, e, r⟩ := E.var i d h
    exact ⟨v, e, Rep.grow E.st.zl (Grow.new hp) sub_l (Rep.fresh (Zx := [p]) (fun c hc => by
      rw [List.mem_singleton.mp hc]
      exact hp) r)⟩⟩
/-- a write at a hidden list -/
theorem grow_at {H : Hp} {p : Addr} {l : List V} : Grow [p] H (upd H p (.lst l)) := fun b x n h => by
  rw [upd_ne (fun e => n (by rw [e]; exact List.mem_singleton.mpr rfl))]
  exact h
theorem Store.put {K : PySem.W.Frag} {Zh : List Addr} {H : Hp} {S : Sto} {p : Addr} {l : List V} (s : Store K ([p] ++ Zh) H S) : Store K ([p] ++ Zh) (upd H p (.lst l)) S := by
  obtain ⟨n, us, e⟩ := s.hid p (List.mem_append_left _ (List.mem_singleton.mpr rfl))
  refine ⟨s.nd, fun q m hm => ?_, fun q m => ?_⟩
  · obtain ⟨vs, h1, h2⟩ := s.st q m hm
    have hq : q ≠ p := fun z => n (by rw [← z]; exact List.mem_map.mpr ⟨_, hm, rfl⟩)
    refine ⟨vs, by rw [upd_ne hq]; exact h1, RepL.grow (Zg := [p]) (fun c hc => ⟨us, by rw [List.mem_singleton.mp hc]; exact e⟩) grow_at (fun c hc => List.mem_append_right _ (List.mem_append_left _ hc)) h2⟩
  · obtain ⟨n2, vs, e2⟩ := s.hid q m
    by_cases hq : q = p
    · exact ⟨n2, l, by rw [hq]; exact upd_same⟩
    · exact ⟨n2, vs, by rw [upd_ne hq]; exact e2⟩
theorem lc_read {Zh : List Addr} {b : Bl} {ok : Nat → Bool} {ifs : List Expr} {vs : List Nat} {σ : L2.St} {H H1 : Hp} {Q : VK} {Φ : D → Sto → Prop} {S1 : Sto} {ds : List D} {J : It} {D' : Addr} (hb : ∀ X', b X' → X'.K = X.K) (hok : ∀ j, j ∉ vs → ok j = false) (E : Ev X.K Zh H σ ρ S)
    (k1 : keys S1 = keys S) (g1 : Grow (keys S) H H1) (s1 : Store X.K Zh H1 S1) (it : ItOk X.K Zh S1 H1 ds J) (hz : ds.length ≤ sizeLine) (q : LcD b ok tg ifs e ds (wipeR ρ vs) S1 [] Φ) (Pq : Post X.K Zh H S Φ Q) (hD : H1 D' = none) :
    ∃ W : Nat → Nat → Hp → Prop, (∃ m, W 0 m (upd H1 D' (.lst []))) ∧ ∀ i m H, W i m H →
      (J.stop i H ∧ Q (.ref D') H) ∨ (J.go i H ∧ ∃ Nx : Hp → Prop, (∀ H', Nx H' → ∃ m', m' < m ∧ W (i + 1) m' H') ∧ ∀ x H', J.yld i H x H' → tgB b tg x (L2.wipe σ vs) H' fun σ2 H2 => L2.wipe σ2 vs = L2.wipe σ vs ∧ ttB b ifs σ2 H2 fun c H3 =>
        if c = true then teB b e σ2 H3 fun y H4 => ∃ acc, H4 D' = some (.lst acc) ∧ acc.length < sizeLine ∧ Nx (upd H4 D' (.lst (acc ++ [y]))) else Nx H3) := by
  have hDk : D' ∉ keys S1 ++ Zh := s1.free hD
  have hDs : D' ∉ keys S1 := fun m => hDk (sub_l _ m)
  have hfr : ∀ p, p ∈ [D'] → H1 p = none := fun p hp => by
    rw [List.mem_singleton.mp hp]
    exact hD
  have ev1 : Ev X.K ([D'] ++ Zh) (upd H1 D' (.lst [])) (L2.wipe σ vs) (wipeR ρ vs) S1 := Ev.wipe (Ev.hide (E.next k1 g1 s1) hD) vs
  -- what stands at a turn's start: St n H'
  refine ⟨fun i m H' => ∃ S' vs' acc, keys S' = keys S1 ∧ Grow (keys S1) H1 H' ∧ H' D' = some (.lst vs') ∧ Ev X.K ([D'] ++ Zh) H' (L2.wipe σ vs) (wipeR ρ vs) S' ∧ RepL X.K (keys S1 ++ ([D'] ++ Zh)) H' acc vs' ∧ LcD b ok tg ifs e (ds.drop i) (wipeR ρ vs) S' acc Φ ∧ acc.length ≤ i ∧ m = ds.length - i ∧ i ≤ ds.length,
    ⟨ds.length, S1, [], [], rfl, Grow.new hD, upd_same, ev1, .nil, q, Nat.le_refl _, rfl, Nat.zero_le _⟩, ?_⟩
  rintro i m H2 ⟨S2, vs2, acc, k2, g2, hD2, ev2, r2, q2, hl, rfl, hi⟩
  have t2 : Step S1 H1 S2 H2 := .of k2 g2
  by_cases hlt : i < ds.length
  · refine .inr ⟨it.go i S2 H2 t2 hlt, fun H' => ∃ S' vs' acc, keys S' = keys S1 ∧ Grow (keys S1) H1 H' ∧ H' D' = some (.lst vs') ∧ Ev X.K ([D'] ++ Zh) H' (L2.wipe σ vs) (wipeR ρ vs) S' ∧ RepL X.K (keys S1 ++ ([D'] ++ Zh)) H' acc vs' ∧ LcD b ok tg ifs e (ds.drop (i + 1)) (wipeR ρ vs) S' acc Φ ∧ acc.length ≤ i + 1, ?_, fun x H3 y => ?_⟩
    · rintro H' ⟨S', vs', acc', a1, a2, a3, a4, a5, a6, a7⟩
      exact ⟨ds.length - (i + 1), by omega, S', vs', acc', a1, a2, a3, a4, a5, a6, a7, rfl, hlt⟩
    · obtain ⟨d, hd, sm, rd⟩ := it.yld i S2 H2 x H3 [D'] hfr t2 ev2.st hlt y
      have e1 : ds.drop i = d :: ds.drop (i + 1) := by
        rw [List.drop_eq_getElem_cons hlt]
        congr 1
        rw [List.getElem?_eq_getElem hlt] at hd
        exact Option.some.inj hd
      rw [e1] at q2
      have ev3 := Same.ev ev2 sm
      have hD3 : H3 D' = some (.lst vs2) := sm _ _ hD2
      have g3 : Grow (keys S1) H1 H3 := g2.trans fun b x _ h => sm b x h
      have r3 : RepL X.K (keys S1 ++ ([D'] ++ Zh)) H3 acc vs2 := by
        rw [← k2] at r2 ⊢
        exact ev2.st.grL (fun b x _ h => sm b x h) r2
      intro X' hX
      have hK := hb X' hX
      refine DG.tw (q2 X' hX) (by rw [hK]; exact ev3) (by rw [hK]; exact rd) fun σ4 H4 ρ4 S4 k4 g4 ev4 l4 o4 q4 => ?_
      rw [hK] at ev4
      have hDn : D' ∉ keys S2 := by
        rw [k2]
        exact hDs
      have hD4 : H4 D' = some (.lst vs2) := g4 _ _ hDn hD3
      have k4' : keys S4 = keys S1 := k4.trans k2
      have g4' : Grow (keys S1) H1 H4 := g3.trans (by rw [← k2]; exact g4)
      have r4 : RepL X.K (keys S1 ++ ([D'] ++ Zh)) H4 acc vs2 := by
        rw [← k2] at r3 ⊢
        exact ev3.st.grL g4 r3
      have w4 : Ev X.K ([D'] ++ Zh) H4 (L2.wipe σ vs) (wipeR ρ vs) S4 := ev3.next k4 g4 ev4.st
      refine ⟨wipe_eq l4 fun j hj => o4 j (hok j hj), ?_⟩
      have goOn : ∀ c H5 S5, keys S5 = keys S4 → Grow (keys S4) H4 H5 → Store X.K ([D'] ++ Zh) H5 S5 → (if c = true then DEb b e ρ4 S5 fun y S6 => LcD b ok tg ifs e (ds.drop (i + 1)) (wipeR ρ vs) S6 (acc ++ [y]) Φ else LcD b ok tg ifs e (ds.drop (i + 1)) (wipeR ρ vs) S5 acc Φ) →
          if c = true then teB b e σ4 H5 fun y H6 => ∃ acc', H6 D' = some (.lst acc') ∧ acc'.length < sizeLine ∧ (∃ S' vs' acc, keys S' = keys S1 ∧ Grow (keys S1) H1 (upd H6 D' (.lst (acc' ++ [y]))) ∧ (upd H6 D' (.lst (acc' ++ [y]))) D' = some (.lst vs') ∧ Ev X.K ([D'] ++ Zh) (upd H6 D' (.lst (acc' ++ [y]))) (L2.wipe σ vs) (wipeR ρ vs) S' ∧ RepL X.K (keys S1 ++ ([D'] ++ Zh)) (upd H6 D' (.lst (acc' ++ [y]))) acc vs' ∧ LcD b ok tg ifs e (ds.drop (i + 1)) (wipeR ρ vs) S' acc Φ ∧ acc.length ≤ i + 1)
          else ∃ S' vs' acc, keys S' = keys S1 ∧ Grow (keys S1) H1 H5 ∧ H5 D' = some (.lst vs') ∧ Ev X.K ([D'] ++ Zh) H5 (L2.wipe σ vs) (wipeR ρ vs) S' ∧ RepL X.K (keys S1 ++ ([D'] ++ Zh)) H5 acc vs' ∧ LcD b ok tg ifs e (ds.drop (i + 1)) (wipeR ρ vs) S' acc Φ ∧ acc.length ≤ i + 1 := fun c H5 S5 k5 g5 s5 q5 => by
        have hDn4 : D' ∉ keys S4 := by
          rw [k4']
          exact hDs
        have hD5 : H5 D' = some (.lst vs2) := g5 _ _ hDn4 hD4
        have k5' : keys S5 = keys S1 := k5.trans k4'
        have g5' : Grow (keys S1) H1 H5 := g4'.trans (by rw [← k4']; exact g5)
        have r5 : RepL X.K (keys S1 ++ ([D'] ++ Zh)) H5 acc vs2 := by
          rw [← k4'] at r4 ⊢
          exact ev4.st.grL g5 r4
        have w5 : Ev X.K ([D'] ++ Zh) H5 (L2.wipe σ vs) (wipeR ρ vs) S5 := w4.next k5 g5 s5
        cases c with
        | false => exact ⟨S5, vs2, acc, k5', g5', hD5, w5, r5, q5, by omega⟩
        | true =>
          show teB b e σ4 H5 _
          intro X2 hX2
          have hK2 := hb X2 hX2
          refine DE.tw (q5 X2 hX2) (by rw [hK2]; exact ev4.next k5 g5 s5) fun y H6 dy S6 k6 g6 s6 r6 q6 => ?_
          rw [hK2] at s6 r6
          have hDn5 : D' ∉ keys S5 := by
            rw [k5']
            exact hDs
          have hD6 : H6 D' = some (.lst vs2) := g6 _ _ hDn5 hD5
          have k6' : keys S6 = keys S1 := k6.trans k5'
          have g6' : Grow (keys S1) H1 H6 := g5'.trans (by rw [← k5']; exact g6)
          have r6a : RepL X.K (keys S1 ++ ([D'] ++ Zh)) H6 acc vs2 := by
            rw [← k5'] at r5 ⊢
            exact s5.grL g6 r5
          have w6 : Ev X.K ([D'] ++ Zh) H6 (L2.wipe σ vs) (wipeR ρ vs) S6 := w5.next k6 g6 s6
          have zd : Zl [D'] H6 := fun c hc => ⟨vs2, by rw [List.mem_singleton.mp hc]; exact hD6⟩
          have sd : ∀ A : List Addr, ∀ c, c ∈ [D'] → c ∈ A ++ ([D'] ++ Zh) := fun A c hc => List.mem_append_right _ (List.mem_append_left _ hc)
          refine ⟨vs2, hD6, by rw [r6a.length]; omega, S6, vs2 ++ [y], acc ++ [dy], k6', ?_, upd_same, ?_, ?_, q6, by rw [List.length_append, List.length_singleton]; omega⟩
          · intro c x n h
            rw [upd_ne (ne_of_none h hD)]
            exact g6' c x n h
          · refine ⟨s6.put, w6.len, fun j d h => ?_⟩
            obtain ⟨v, e, r⟩ := w6.var j d h
            exact ⟨v, e, Rep.grow zd grow_at (sd _) r⟩
          · refine RepL.append (RepL.grow zd grow_at (sd _) r6a) (.one (Rep.grow zd grow_at (sd _) ?_))
            rw [k5'] at r6
            exact r6
      cases ifs with
      | nil => exact goOn true H4 S4 rfl Grow.refl ev4.st q4
      | cons c cs =>
        cases cs with
        | nil =>
          intro X2 hX2
          have hK2 := hb X2 hX2
          refine DT.tw (q4 X2 hX2) (by rw [hK2]; exact ev4) fun c H5 S5 k5 g5 s5 q5 => ?_
          rw [hK2] at s5
          exact goOn c H5 S5 k5 g5 s5 q5
        | cons _ _ => exact q4.elim
  · have e1 : i = ds.length := by omega
    refine .inl ⟨by rw [e1]; exact it.stop S2 H2 t2, ?_⟩
    rw [List.drop_eq_nil_of_le (by omega)] at q2
    refine Pq _ H2 (.lst acc) S2 (k2.trans k1) (g1.trans (by rw [← k1]; exact g2)) ev2.st.narrow ?_ q2
    unfold Rep
    refine ⟨D', vs2, rfl, by rw [← k1]; exact hDk, hD2, ?_⟩
    rw [← k1]
    refine r2.shrink fun c hc => ?_
    rcases List.mem_append.mp hc with z | z
    · exact List.mem_append_left _ z
    · exact List.mem_append_right _ (List.mem_append_right _ z)
/-- what a comprehension's rule wants, behind its source -/
def LcN (X : Cx) (scope : Scope) (ok : Nat → Bool) (tg : Expr) (ifs : List Expr) (elt : Expr) (ds : List D) (ρ : Ro) (S : Sto) (Φ : D → Sto → Prop) : Prop := LcD (blks X scope) ok tg ifs elt ds ρ S [] Φ
theorem lcN_norm {scope : Scope} {ok : Nat → Bool} {ifs : List Expr} {elt : Expr} {ds : List D} {ρ' : Ro} {Φ : D → Sto → Prop} (e : ρ = ρ') (h : LcD (blks X scope) ok tg ifs elt ds ρ' S [] Φ) : LcN X scope ok tg ifs elt ds ρ S Φ := by
  rw [e]
  exact h
def okOf (own : List (Str × Nat)) : Nat → Bool := fun j => own.any fun p => Nat.beq p.2 j
theorem okOf_no {own : List (Str × Nat)} {j : Nat} (h : j ∉ own.map (·.2)) : okOf own j = false := by
  unfold okOf
  rw [List.any_eq_false]
  intro p hp e
  exact h (List.mem_map.mpr ⟨p, hp, Nat.eq_of_beq_eq_true e⟩)
theorem blks_K {scope : Scope} {X' : Cx} (h : blks X scope X') : X'.K = X.K := by
  obtain ⟨_, _, _, _, _, rfl⟩ := h
  rfl
theorem de_lc {scope : Scope} {own : List (Str × Nat)} {ifs : List Expr} {elt : Expr} {Φ : D → Sto → Prop} (A : At X P w K mg base tb names k) (hk : scope.kind = .function) (hb : blkD tb names scope.names own = true) (hs : ∀ x, foldedSetIterable iter X.env x = pure x)
    (h : DI X tg iter ρ S fun ds S1 => ds.length ≤ sizeLine ∧ LcN X scope (okOf own) tg ifs elt ds (wipeR ρ (own.map (·.2))) S1 Φ) : DE X (.ListComp elt [⟨tg, iter, ifs, 0⟩] scope pos) ρ S Φ :=
  DE.of (pe_lc (own := own) (g := tgB (blks X scope) tg) (tt := ttB (blks X scope) ifs) (te := teB (blks X scope) elt) A.calm A.nd pi_w (blkD_ok A hk hb)
    (fun s H C cl fp => ⟨fun pins s' σ H' v u Q I r q => q _ ⟨s, H, C, cl, fp, rfl⟩ pins s' u I r⟩) (fun s H C cl fp => pts_b ⟨s, H, C, cl, fp, rfl⟩) (fun s H C cl fp => ⟨fun pins s' σ H' Q I q => q _ ⟨s, H, C, cl, fp, rfl⟩ pins s' I⟩) hs)
    fun Zh σ H Q E P => h.tw E fun J H1 ds S1 k1 g1 s1 it q D' hD => lc_read (fun _ => blks_K) (fun _ => okOf_no) E k1 g1 s1 it q.1 q.2 P hD
theorem ds_setLc {scope : Scope} {own : List (Str × Nat)} {ifs : List Expr} {elt : Expr} {y : Str} {py spos : Pos} {E : DEnds} (A : At X P w K mg base tb names k) (hk : scope.kind = .function) (hb : blkD tb names scope.names own = true) (hs : ∀ x, foldedSetIterable iter X.env x = pure x)
    (hl : (py.line == pos.line) = true) (ha : (scope.names.any fun (n, k) => n == y && (k == .local || k == .cell)) = false) (hy : locB names y = true)
    (h : ∃ i, tb.lookup y = some i ∧ DI X tg iter ρ S fun ds S1 => ds.length ≤ sizeLine ∧ LcN X scope (okOf own) tg ifs elt ds (wipeR ρ (own.map (·.2))) S1 fun d S2 => Nx E (ρ.set i (some d)) S2) : DS X (.Assign [.Name y py] (.ListComp elt [⟨tg, iter, ifs, 0⟩] scope pos) spos) ρ S E := by
  obtain ⟨i, hi, h⟩ := h
  exact DS.of (ps_setLc (own := own) (g := tgB (blks X scope) tg) (tt := ttB (blks X scope) ifs) (te := teB (blks X scope) elt) A.calm A.nd (A.slot _ _ hi) (A.loc _ (locB_of hy)) (sw_true A.kind (A.loc _ (locB_of hy)) hl ha) pi_w (blkD_ok A hk hb)
    (fun s H C cl fp => ⟨fun pins s' σ H' v u Q I r q => q _ ⟨s, H, C, cl, fp, rfl⟩ pins s' u I r⟩) (fun s H C cl fp => pts_b ⟨s, H, C, cl, fp, rfl⟩) (fun s H C cl fp => ⟨fun pins s' σ H' Q I q => q _ ⟨s, H, C, cl, fp, rfl⟩ pins s' I⟩) hs)
    fun Zh σ H Dn ev kk => h.tw ev fun J H1 ds S1 k1 g1 s1 it q D' hD => lc_read (Q := fun x H1 => gName i x σ H1 Dn.nx) (fun _ => blks_K) (fun _ => okOf_no) ev k1 g1 s1 it q.1 q.2 (fun v H' d S' k' g' s' r q => by
      have ev1 := ev.next k' g' s'
      exact kk.nx _ _ _ _ (.of k' g') (ev1.put (by rw [k']; exact r)) q) hD
/-- the items one by one -/
theorem lc_nil {b : Bl} {ok : Nat → Bool} {ifs : List Expr} {elt : Expr} {acc : List D} {Φ : D → Sto → Prop} (q : Φ (.lst acc) S) : LcD b ok tg ifs elt [] ρ S acc Φ := q
theorem lc_cons {b : Bl} {ok : Nat → Bool} {elt : Expr} {d : D} {ds acc : List D} {Φ : D → Sto → Prop} (q : DGb b ok tg d ρ S fun ρ2 S2 => DEb b elt ρ2 S2 fun y S4 => LcD b ok tg [] elt ds ρ S4 (acc ++ [y]) Φ) : LcD b ok tg [] elt (d :: ds) ρ S acc Φ := q
/-- all items alike: the element is f of the item, nothing else changes -/
theorem lc_map {b : Bl} {ok : Nat → Bool} {elt : Expr} {f : D → D} {Φ : D → Sto → Prop} : ∀ {ds acc : List D}, (∀ d, d ∈ ds → ∀ X', b X' → ∀ Ψ : Ro → Sto → Prop, (∀ ρ2, (∀ X', b X' → ∀ Ξ : D → Sto → Prop, Ξ (f d) S → DE X' elt ρ2 S Ξ) → Ψ ρ2 S) → DG X' ok tg d ρ S Ψ) → Φ (.lst (acc ++ ds.map f)) S → LcD b ok tg [] elt ds ρ S acc Φ
  | [], acc, _, q => by
    rw [List.map_nil, List.append_nil] at q
    exact q
  | d :: ds, acc, h, q => by
    refine lc_cons fun X' hX => h d List.mem_cons_self X' hX _ fun ρ2 h2 X2 hX2 => h2 X2 hX2 _ (lc_map (fun c hc => h c (List.mem_cons_of_mem _ hc)) ?_)
    rw [List.append_assoc]
    exact q
end
end Ar
namespace Ar
open PySem PySem.Spec PyProof.Rows L2

section
variable {X : Cx} {ρ : Ro} {S : Sto}
theorem DE.mono {e : Expr} {Φ Ψ : D → Sto → Prop} (h : DE X e ρ S Φ) (k : ∀ d S1, Φ d S1 → Ψ d S1) : DE X e ρ S Ψ := fun Zh pins s σ H Q I E P => h Zh pins s σ H Q I E fun v H' d S' k1 g s1 r q => P v H' d S' k1 g s1 r (k _ _ q)
theorem DT.mono {e : Expr} {Φ Ψ : Bool → Sto → Prop} (h : DT X e ρ S Φ) (k : ∀ d S1, Φ d S1 → Ψ d S1) : DT X e ρ S Ψ := fun Zh pins s σ H Q I E P => h Zh pins s σ H Q I E fun v H' S' k1 g s1 q => P v H' S' k1 g s1 (k _ _ q)
theorem DA.mono {e : List Expr} {Φ Ψ : List D → Sto → Prop} (h : DA X e ρ S Φ) (k : ∀ d S1, Φ d S1 → Ψ d S1) : DA X e ρ S Ψ := fun Zh pos pins s σ H Q I E P => h Zh pos pins s σ H Q I E fun v H' d S' k1 g s1 r l q => P v H' d S' k1 g s1 r l (k _ _ q)
theorem DI.mono {tg iter : Expr} {Φ Ψ : List D → Sto → Prop} (h : DI X tg iter ρ S Φ) (k : ∀ d S1, Φ d S1 → Ψ d S1) : DI X tg iter ρ S Ψ := fun Zh pins s σ H R I E P => h Zh pins s σ H R I E fun J H' ds S' k1 g s1 it q => P J H' ds S' k1 g s1 it (k _ _ q)
theorem DO.mono {f : Value → Value → Sem Value} {a b : D} {Φ Ψ : D → Sto → Prop} (h : DO X f a b S Φ) (k : ∀ d S1, Φ d S1 → Ψ d S1) : DO X f a b S Ψ := fun Zh pins s σ H x y v u Q I st ra rb rx ry P => h Zh pins s σ H x y v u Q I st ra rb rx ry fun v H' d S' k1 g s1 r q => P v H' d S' k1 g s1 r (k _ _ q)
theorem DS.mono {st : Stmt} {E E' : DEnds} (h : DS X st ρ S E) (k1 : ∀ ρ' S', E.nx ρ' S' → E'.nx ρ' S') (k2 : ∀ d S', E.rt d S' → E'.rt d S') (k3 : ∀ ρ' S', E.bk ρ' S' → E'.bk ρ' S') (k4 : ∀ ρ' S', E.ct ρ' S' → E'.ct ρ' S') : DS X st ρ S E' := fun Zh pins s σ H Dn I ev k =>
  h Zh pins s σ H Dn I ev ⟨fun a b c d e f g => k.nx a b c d e f (k1 _ _ g), fun a b c d e f g i => k.rt a b c d e f g (k2 _ _ i), fun a b c d e f g => k.bk a b c d e f (k3 _ _ g), fun a b c d e f g => k.ct a b c d e f (k4 _ _ g)⟩
theorem DSs.mono {st : List Stmt} {E E' : DEnds} (h : DSs X st ρ S E) (k1 : ∀ ρ' S', E.nx ρ' S' → E'.nx ρ' S') (k2 : ∀ d S', E.rt d S' → E'.rt d S') (k3 : ∀ ρ' S', E.bk ρ' S' → E'.bk ρ' S') (k4 : ∀ ρ' S', E.ct ρ' S' → E'.ct ρ' S') : DSs X st ρ S E' := fun Zh pins s σ H Dn I ev k =>
  h Zh pins s σ H Dn I ev ⟨fun a b c d e f g => k.nx a b c d e f (k1 _ _ g), fun a b c d e f g i => k.rt a b c d e f g (k2 _ _ i), fun a b c d e f g => k.bk a b c d e f (k3 _ _ g), fun a b c d e f g => k.ct a b c d e f (k4 _ _ g)⟩
end
/-! ### built-in functions -/
def bltB (x : Str) : Bool := x == "len" || x == "abs" || x == "int" || x == "isinstance" || x == "all" || x == "any" || x == "sum" || x == "tuple" || x == "list" || x == "range" || x == "zip" || x == "enumerate" || x == "bool" || x == "str" || x == "min" || x == "max" || x == "sorted" || x == "divmod" || x == "set" || x == "dict" || x == "pow" || x == "ord" || x == "chr" || x == "reversed" || x == "type"
structure NoB (mg : Str → Option Value) : Prop where
  no : ∀ x, bltB x = true → mg x = none
section
variable {X : Cx} {ρ : Ro} {S : Sto} {Φ : D → Sto → Prop} {P : Program} {w : World} {K : PySem.W.Frag} {mg : Str → Option Value} {base : Heap} {tb : List (Str × Nat)} {names : List (Str × NameKind)} {k : Nat} {pos p : Pos} {e : Expr} {es : List Expr}
theorem de_cB {id : String} {x : Str} {r : List V → Hp → VK → Prop} (A : At X P w K mg base tb names k) (G : NoB mg) (hc : CallR X (.builtin id) r) (hv : bootBuiltins x = some (.builtin id)) (hg : (bltB x && glB names x) = true)
    (he : starEach (e :: es) X.env = (false, eval e X.env) :: starEach es X.env) (hpl : (backTo pos (starEach es X.env)).any (·.1) = false)
    (h : DA X (e :: es) ρ S fun ds S1 => ∀ Zh H vs Q, Store X.K Zh H S1 → RepL X.K (keys S1 ++ Zh) H ds vs → Post X.K Zh H S1 Φ Q → r vs H Q) : DE X (.Call (.Name x p) (e :: es) [] pos) ρ S Φ := by
  rw [Bool.and_eq_true] at hg
  have z := glB_of hg.2
  exact DE.of (pe_callB hc (A.gl _ z.2) (by rw [A.mg]; exact G.no x hg.1) hv pa_w (plain1 z.1).2.2 (plain1 z.1).1 he hpl) fun Zh σ H Q E P => h.tw E fun vs H1 ds S1 k1 g1 s1 r1 l1 q1 => q1 Zh H1 vs Q s1 (by rw [k1]; exact r1) (P.next k1 g1)
theorem de_cT {T : String} {x : Str} {r : List V → Hp → VK → Prop} (A : At X P w K mg base tb names k) (G : NoB mg) (hc : CallR X (.type T) r) (hv : bootBuiltins x = some (.type T)) (hg : (bltB x && glB names x) = true)
    (he : starEach (e :: es) X.env = (false, eval e X.env) :: starEach es X.env) (hpl : (backTo pos (starEach es X.env)).any (·.1) = false)
    (h : DA X (e :: es) ρ S fun ds S1 => ∀ Zh H vs Q, Store X.K Zh H S1 → RepL X.K (keys S1 ++ Zh) H ds vs → Post X.K Zh H S1 Φ Q → r vs H Q) : DE X (.Call (.Name x p) (e :: es) [] pos) ρ S Φ := by
  rw [Bool.and_eq_true] at hg
  have z := glB_of hg.2
  exact DE.of (pe_callTy hc (A.gl _ z.2) (by rw [A.mg]; exact G.no x hg.1) hv pa_w (plain1 z.1).2.2 (plain1 z.1).1 he hpl) fun Zh σ H Q E P => h.tw E fun vs H1 ds S1 k1 g1 s1 r1 l1 q1 => q1 Zh H1 vs Q s1 (by rw [k1]; exact r1) (P.next k1 g1)
theorem da_one (he : starEach [e] X.env = [(false, eval e X.env)]) {Ψ : List D → Sto → Prop} (h : DE X e ρ S fun d S1 => Ψ [d] S1) : DA X [e] ρ S Ψ :=
  da_cons (fun Zh pins s σ H Q I E P => h Zh pins s σ H Q I E fun v H' d S' k g s' r q => P v H' d S' k g s' r (da_nil q)) he
/-- one argument -/
theorem de_cB1 {id : String} {x : Str} {r : List V → Hp → VK → Prop} (A : At X P w K mg base tb names k) (G : NoB mg) (hc : CallR X (.builtin id) r) (hv : bootBuiltins x = some (.builtin id)) (hg : (bltB x && glB names x) = true)
    (he : starEach [e] X.env = [(false, eval e X.env)])
    (h : DE X e ρ S fun d S1 => ∀ Zh H v Q, Store X.K Zh H S1 → Rep X.K (keys S1 ++ Zh) H d v → Post X.K Zh H S1 Φ Q → r [v] H Q) : DE X (.Call (.Name x p) [e] [] pos) ρ S Φ := by
  refine de_cB A G hc hv hg he rfl (da_one he ?_)
  refine DE.mono h fun d S1 q Zh H vs Q s r P => ?_
  obtain ⟨v, r1, rfl, rv, r⟩ := r.uncons
  cases r.un0
  exact q Zh H v Q s rv P
theorem de_cT1 {T : String} {x : Str} {r : List V → Hp → VK → Prop} (A : At X P w K mg base tb names k) (G : NoB mg) (hc : CallR X (.type T) r) (hv : bootBuiltins x = some (.type T)) (hg : (bltB x && glB names x) = true)
    (he : starEach [e] X.env = [(false, eval e X.env)])
    (h : DE X e ρ S fun d S1 => ∀ Zh H v Q, Store X.K Zh H S1 → Rep X.K (keys S1 ++ Zh) H d v → Post X.K Zh H S1 Φ Q → r [v] H Q) : DE X (.Call (.Name x p) [e] [] pos) ρ S Φ := by
  refine de_cT A G hc hv hg he rfl (da_one he ?_)
  refine DE.mono h fun d S1 q Zh H vs Q s r P => ?_
  obtain ⟨v, r1, rfl, rv, r⟩ := r.uncons
  cases r.un0
  exact q Zh H v Q s rv P
theorem de_abs (A : At X P w K mg base tb names k) (G : NoB mg) (hg : glB names "abs" = true) (he : starEach [e] X.env = [(false, eval e X.env)]) (h : DE X e ρ S fun d S1 => ∃ i, d = .int i ∧ Φ (.int (if i < 0 then -i else i)) S1) : DE X (.Call (.Name "abs" p) [e] [] pos) ρ S Φ :=
  de_cB1 A G call_abs rfl (by rw [hg]; rfl) he (DE.mono h fun d S1 ⟨i, e1, q⟩ Zh H v Q s r P => by
    subst e1
    exact ⟨i, by rw [r.int], P.here s rep_int q⟩)
theorem de_intI (A : At X P w K mg base tb names k) (G : NoB mg) (hg : glB names "int" = true) (he : starEach [e] X.env = [(false, eval e X.env)]) (h : DE X e ρ S fun d S1 => (∃ i, d = .int i ∧ Φ (.int i) S1) ∨ ∃ c, d = .bl c ∧ Φ (.int (if c then 1 else 0)) S1) : DE X (.Call (.Name "int" p) [e] [] pos) ρ S Φ :=
  de_cT1 A G call_int1 rfl (by rw [hg]; rfl) he (DE.mono h fun d S1 q Zh H v Q s r P => by
    rcases q with ⟨i, e1, q⟩ | ⟨c, e1, q⟩
    · subst e1
      exact .inl ⟨i, by rw [r.int], P.here s rep_int q⟩
    · subst e1
      exact .inr ⟨c, by rw [r.bl], P.here s rep_int q⟩)
/-- what len tells -/
def LenD (S : Sto) : D → Nat → Prop
  | .tup l, n => n = l.length
  | .lst l, n => n = l.length
  | .frz l, n => n = l.length
  | .str x, n => x.length ≤ sizeLine ∧ n = x.length
  | .cell p, n => ∃ l, (p, l) ∈ S ∧ n = l.length
  | _, _ => False
theorem Rep.frzL {K : PySem.W.Frag} {Z : List Addr} {H : Hp} {l : List D} {v : V} (h : Rep K Z H (.frz l) v) : ∃ p vs, v = .ref p ∧ SqL K H p vs ∧ RepL K Z H l vs := by
  obtain ⟨p, vs, e, h, r⟩ := h.frz
  exact ⟨p, vs, e, frz_sq h, r⟩
theorem lenV_of {K : PySem.W.Frag} {Zh : List Addr} {H : Hp} {d : D} {v : V} {n : Nat} (s : Store K Zh H S) (r : Rep K (keys S ++ Zh) H d v) (h : LenD S d n) : LenV K v H n := by
  cases d with
  | tup l =>
    obtain ⟨p, vs, rfl, sq, rl⟩ := r.tup
    exact .inr ⟨vs, sq, by rw [rl.length]; exact h⟩
  | lst l =>
    obtain ⟨p, vs, rfl, _, sq, rl⟩ := r.lst
    exact .inl ⟨vs, .inl (.inl sq), by rw [rl.length]; exact h⟩
  | frz l =>
    obtain ⟨p, vs, rfl, sq, rl⟩ := r.frzL
    exact .inl ⟨vs, sq, by rw [rl.length]; exact h⟩
  | str x =>
    rw [r.str]
    exact h
  | cell p =>
    obtain ⟨l, m, e⟩ := h
    obtain ⟨vs, h1, rl⟩ := s.st _ _ m
    rw [r.cell]
    exact .inl ⟨vs, .inl (.inl h1), by rw [rl.length]; exact e⟩
  | _ => exact (show False from h).elim
theorem de_len (A : At X P w K mg base tb names k) (G : NoB mg) (hg : glB names "len" = true) (he : starEach [e] X.env = [(false, eval e X.env)]) (h : DE X e ρ S fun d S1 => ∃ n, LenD S1 d n ∧ Φ (.int (n : Int)) S1) : DE X (.Call (.Name "len" p) [e] [] pos) ρ S Φ :=
  de_cB1 A G call_len rfl (by rw [hg]; rfl) he (DE.mono h fun d S1 ⟨n, h1, q⟩ Zh H v Q s r P => ⟨v, n, rfl, lenV_of s r h1, P.here s rep_int q⟩)
/-- all, any, sum -/
theorem RepL.bls {K : PySem.W.Frag} {Z : List Addr} {H : Hp} : ∀ {ns : List Bool} {vs : List V}, RepL K Z H (ns.map D.bl) vs → vs = ns.map V.bl
  | [], _, h => h.un0
  | n :: ns, vs, h => by
    obtain ⟨v, r, e, h1, h2⟩ := RepL.uncons h
    have e2 : v = .bl n := h1.bl
    rw [e, e2, RepL.bls h2] <;> rfl
theorem RepL.strs {K : PySem.W.Frag} {Z : List Addr} {H : Hp} : ∀ {ns : List Str} {vs : List V}, RepL K Z H (ns.map D.str) vs → vs = ns.map V.str
  | [], _, h => h.un0
  | n :: ns, vs, h => by
    obtain ⟨v, r, e, h1, h2⟩ := RepL.uncons h
    have e2 : v = .str n := h1.str
    rw [e, e2, RepL.strs h2] <;> rfl
theorem de_all (A : At X P w K mg base tb names k) (G : NoB mg) (hg : glB names "all" = true) (he : starEach [e] X.env = [(false, eval e X.env)]) (h : DE X e ρ S fun d S1 => ∃ bs : List Bool, d = .lst (bs.map D.bl) ∧ Φ (.bl (bs.all id)) S1) : DE X (.Call (.Name "all" p) [e] [] pos) ρ S Φ :=
  de_cB1 A G (cr_all A.calm) rfl (by rw [hg]; rfl) he (DE.mono h fun d S1 ⟨bs, e1, q⟩ Zh H v Q s r P => by
    subst e1
    obtain ⟨p, vs, rfl, _, sq, rl⟩ := r.lst
    rw [rl.bls] at sq
    exact ⟨p, bs, rfl, .inl (.inl sq), P.here s rep_bl q⟩)
theorem de_any (A : At X P w K mg base tb names k) (G : NoB mg) (hg : glB names "any" = true) (he : starEach [e] X.env = [(false, eval e X.env)]) (h : DE X e ρ S fun d S1 => ∃ bs : List Bool, d = .lst (bs.map D.bl) ∧ Φ (.bl (bs.any id)) S1) : DE X (.Call (.Name "any" p) [e] [] pos) ρ S Φ :=
  de_cB1 A G (cr_any A.calm) rfl (by rw [hg]; rfl) he (DE.mono h fun d S1 ⟨bs, e1, q⟩ Zh H v Q s r P => by
    subst e1
    obtain ⟨p, vs, rfl, _, sq, rl⟩ := r.lst
    rw [rl.bls] at sq
    exact ⟨p, bs, rfl, .inl (.inl sq), P.here s rep_bl q⟩)
theorem de_sum (A : At X P w K mg base tb names k) (G : NoB mg) (hg : glB names "sum" = true) (he : starEach [e] X.env = [(false, eval e X.env)]) (h : DE X e ρ S fun d S1 => ∃ bs : List Int, d = .lst (bs.map D.int) ∧ Φ (.int bs.sum) S1) : DE X (.Call (.Name "sum" p) [e] [] pos) ρ S Φ :=
  de_cB1 A G (cr_sum A.calm) rfl (by rw [hg]; rfl) he (DE.mono h fun d S1 ⟨bs, e1, q⟩ Zh H v Q s r P => by
    subst e1
    obtain ⟨p, vs, rfl, _, sq, rl⟩ := r.lst
    rw [rl.ints] at sq
    exact ⟨p, bs, rfl, .inl (.inl sq), P.here s rep_int q⟩)
/-- tuple(..), list(..) -/
def SeqD (S : Sto) : D → List D → Prop
  | .tup l, m => m = l
  | .lst l, m => m = l
  | .frz l, m => m = l
  | .cell p, m => (p, m) ∈ S
  | _, _ => False
theorem seqV_of {K : PySem.W.Frag} {Zh : List Addr} {H : Hp} {d : D} {v : V} {m : List D} (s : Store K Zh H S) (r : Rep K (keys S ++ Zh) H d v) (h : SeqD S d m) : ∃ p vs, v = .ref p ∧ (SqL K H p vs ∨ SqT K H p vs) ∧ RepL K (keys S ++ Zh) H m vs := by
  cases d with
  | tup l =>
    obtain ⟨p, vs, rfl, sq, rl⟩ := r.tup
    cases (show m = l from h)
    exact ⟨p, vs, rfl, .inr sq, rl⟩
  | lst l =>
    obtain ⟨p, vs, rfl, _, sq, rl⟩ := r.lst
    cases (show m = l from h)
    exact ⟨p, vs, rfl, .inl (.inl (.inl sq)), rl⟩
  | frz l =>
    obtain ⟨p, vs, rfl, sq, rl⟩ := r.frzL
    cases (show m = l from h)
    exact ⟨p, vs, rfl, .inl sq, rl⟩
  | cell p =>
    obtain ⟨vs, h1, rl⟩ := s.st _ _ h
    rw [r.cell]
    exact ⟨p, vs, rfl, .inl (.inl (.inl h1)), rl⟩
  | _ => exact (show False from h).elim
theorem Post.tupAt {K : PySem.W.Frag} {Zh : List Addr} {H : Hp} {Q : VK} {l : List D} {vs : List V} {p : Addr} (P : Post K Zh H S Φ Q) (s : Store K Zh H S) (r : RepL K (keys S ++ Zh) H l vs) (q : Φ (.tup l) S) (hp : SqT K H p vs) : Q (.ref p) H :=
  P.here s (show Rep K (keys S ++ Zh) H (.tup l) (.ref p) by unfold Rep; exact ⟨p, vs, rfl, hp, r⟩) q
theorem de_tupleOf (A : At X P w K mg base tb names k) (G : NoB mg) (hg : glB names "tuple" = true) (he : starEach [e] X.env = [(false, eval e X.env)]) (h : DE X e ρ S fun d S1 => ∃ l, SeqD S1 d l ∧ Φ (.tup l) S1) : DE X (.Call (.Name "tuple" p) [e] [] pos) ρ S Φ :=
  de_cT1 A G call_tuple_of rfl (by rw [hg]; rfl) he (DE.mono h fun d S1 ⟨l, h1, q⟩ Zh H v Q s r P => by
    obtain ⟨p, vs, rfl, sq, rl⟩ := seqV_of s r h1
    exact ⟨p, vs, rfl, sq.imp (fun sq => ⟨sq, fun z hz => P.tup s rl q hz⟩) (fun sq => ⟨sq, P.tupAt s rl q sq⟩)⟩)
theorem de_listOf (A : At X P w K mg base tb names k) (G : NoB mg) (hg : glB names "list" = true) (he : starEach [e] X.env = [(false, eval e X.env)]) (h : DE X e ρ S fun d S1 => ∃ l, SeqD S1 d l ∧ Φ (.lst l) S1) : DE X (.Call (.Name "list" p) [e] [] pos) ρ S Φ :=
  de_cT1 A G call_list_of rfl (by rw [hg]; rfl) he (DE.mono h fun d S1 ⟨l, h1, q⟩ Zh H v Q s r P => by
    obtain ⟨p, vs, rfl, sq, rl⟩ := seqV_of s r h1
    exact ⟨p, vs, rfl, sq, fun z hz => P.lst s rl q hz⟩)
/-! isinstance -/
def tyN : D → String
  | .non => "NoneType"
  | .bl _ => "bool"
  | .int _ => "int"
  | .str _ => "str"
  | .tup _ => "tuple"
  | .lst _ => "list"
  | .frz _ => "list"
  | .cell _ => "list"
  | .dct _ _ => "dict"
  | .rng _ _ => "int"
theorem tyX_of {K : PySem.W.Frag} {Zh : List Addr} {H : Hp} {d : D} {v : V} (s : Store K Zh H S) (hc : ∀ p, d = .cell p → p ∈ keys S) (r : Rep K (keys S ++ Zh) H d v) : TyX K H v (.type (tyN d)) := by
  have sq : ∀ {p vs}, SqL K H p vs → TyX K H (.ref p) (.type "list") := fun {p vs} h => by
    rcases h with (h | ⟨o, h⟩) | ⟨o, its, n, h, hcl, _⟩
    · exact .base (.lst h)
    · exact .base (.frz h)
    · exact .kList h hcl
  cases d with
  | non => rw [r.non]; exact .base .non
  | bl b => rw [r.bl]; exact .base (.bl b)
  | int i => rw [r.int]; exact .base (.int i)
  | rng lo hi =>
    obtain ⟨i, e, _⟩ := r.rng
    rw [e]
    exact .base (.int i)
  | str x => rw [r.str]; exact .base (.str x)
  | tup l =>
    obtain ⟨p, vs, rfl, h, rl⟩ := r.tup
    rcases h with (h | ⟨o, h⟩) | ⟨o, its, n, h, hcl, _⟩
    · exact .base (.tup h)
    · exact .fTuple h
    · exact .kTuple h hcl
  | lst l =>
    obtain ⟨p, vs, rfl, _, h, rl⟩ := r.lst
    exact sq (.inl (.inl h))
  | frz l =>
    obtain ⟨p, vs, rfl, h, rl⟩ := r.frzL
    exact sq h
  | cell p =>
    rw [r.cell]
    obtain ⟨vs, h⟩ := s.zl p (hc p rfl)
    exact .base (.lst h)
  | dct ks l =>
    obtain ⟨p, vs, rfl, _, h, rl⟩ := r.dct
    exact .base (.dK h)
end
end Ar
namespace Ar
open PySem PySem.Spec PyProof.Rows L2
section
variable {X : Cx} {ρ : Ro} {S : Sto} {Φ : D → Sto → Prop} {P : Program} {w : World} {K : PySem.W.Frag} {mg : Str → Option Value} {base : Heap} {tb : List (Str × Nat)} {names : List (Str × NameKind)} {k : Nat} {pos p : Pos} {e : Expr} {es : List Expr}
/-! ### isinstance -/
def OkC (S : Sto) : D → Prop
  | .cell p => p ∈ keys S
  | _ => True
theorem OkC.of {d : D} (h : OkC S d) : ∀ p, d = .cell p → p ∈ keys S := fun p e1 => by
  subst e1
  exact h
/-- a type by its name, and what isinstance tells of data -/
structure TyG (x : Str) (T : String) (f : D → Bool) : Prop where
  bt : bootBuiltins x = some (.type T)
  bb : bltB x = true
  kit : ∀ d, kitB (tyN d) T = some (f d)
def isIntB : D → Bool
  | .int _ => true
  | .rng _ _ => true
  | .bl _ => true
  | _ => false
def isBoolB : D → Bool
  | .bl _ => true
  | _ => false
def isStrB : D → Bool
  | .str _ => true
  | _ => false
def isTupleB : D → Bool
  | .tup _ => true
  | _ => false
def isListB : D → Bool
  | .lst _ => true
  | .frz _ => true
  | .cell _ => true
  | _ => false
theorem tyInt : TyG "int" "int" isIntB := ⟨by decide +kernel, by decide +kernel, fun d => by
  cases d
  · exact (show kitB "NoneType" "int" = some false by decide +kernel)
  · exact (show kitB "bool" "int" = some true by decide +kernel)
  · exact (show kitB "int" "int" = some true by decide +kernel)
  · exact (show kitB "str" "int" = some false by decide +kernel)
  · exact (show kitB "tuple" "int" = some false by decide +kernel)
  · exact (show kitB "list" "int" = some false by decide +kernel)
  · exact (show kitB "list" "int" = some false by decide +kernel)
  · exact (show kitB "list" "int" = some false by decide +kernel)
  · exact (show kitB "dict" "int" = some false by decide +kernel)
  · exact (show kitB "int" "int" = some true by decide +kernel)⟩
theorem tyBool : TyG "bool" "bool" isBoolB := ⟨by decide +kernel, by decide +kernel, fun d => by
  cases d
  · exact (show kitB "NoneType" "bool" = some false by decide +kernel)
  · exact (show kitB "bool" "bool" = some true by decide +kernel)
  · exact (show kitB "int" "bool" = some false by decide +kernel)
  · exact (show kitB "str" "bool" = some false by decide +kernel)
  · exact (show kitB "tuple" "bool" = some false by decide +kernel)
  · exact (show kitB "list" "bool" = some false by decide +kernel)
  · exact (show kitB "list" "bool" = some false by decide +kernel)
  · exact (show kitB "list" "bool" = some false by decide +kernel)
  · exact (show kitB "dict" "bool" = some false by decide +kernel)
  · exact (show kitB "int" "bool" = some false by decide +kernel)⟩
theorem tyStr : TyG "str" "str" isStrB := ⟨by decide +kernel, by decide +kernel, fun d => by
  cases d
  · exact (show kitB "NoneType" "str" = some false by decide +kernel)
  · exact (show kitB "bool" "str" = some false by decide +kernel)
  · exact (show kitB "int" "str" = some false by decide +kernel)
  · exact (show kitB "str" "str" = some true by decide +kernel)
  · exact (show kitB "tuple" "str" = some false by decide +kernel)
  · exact (show kitB "list" "str" = some false by decide +kernel)
  · exact (show kitB "list" "str" = some false by decide +kernel)
  · exact (show kitB "list" "str" = some false by decide +kernel)
  · exact (show kitB "dict" "str" = some false by decide +kernel)
  · exact (show kitB "int" "str" = some false by decide +kernel)⟩
theorem tyTuple : TyG "tuple" "tuple" isTupleB := ⟨by decide +kernel, by decide +kernel, fun d => by
  cases d
  · exact (show kitB "NoneType" "tuple" = some false by decide +kernel)
  · exact (show kitB "bool" "tuple" = some false by decide +kernel)
  · exact (show kitB "int" "tuple" = some false by decide +kernel)
  · exact (show kitB "str" "tuple" = some false by decide +kernel)
  · exact (show kitB "tuple" "tuple" = some true by decide +kernel)
  · exact (show kitB "list" "tuple" = some false by decide +kernel)
  · exact (show kitB "list" "tuple" = some false by decide +kernel)
  · exact (show kitB "list" "tuple" = some false by decide +kernel)
  · exact (show kitB "dict" "tuple" = some false by decide +kernel)
  · exact (show kitB "int" "tuple" = some false by decide +kernel)⟩
theorem tyList : TyG "list" "list" isListB := ⟨by decide +kernel, by decide +kernel, fun d => by
  cases d
  · exact (show kitB "NoneType" "list" = some false by decide +kernel)
  · exact (show kitB "bool" "list" = some false by decide +kernel)
  · exact (show kitB "int" "list" = some false by decide +kernel)
  · exact (show kitB "str" "list" = some false by decide +kernel)
  · exact (show kitB "tuple" "list" = some false by decide +kernel)
  · exact (show kitB "list" "list" = some true by decide +kernel)
  · exact (show kitB "list" "list" = some true by decide +kernel)
  · exact (show kitB "list" "list" = some true by decide +kernel)
  · exact (show kitB "dict" "list" = some false by decide +kernel)
  · exact (show kitB "int" "list" = some false by decide +kernel)⟩
theorem de_isi {T : String} {f : D → Bool} {x : Str} {px : Pos} (A : At X P w K mg base tb names k) (G : NoB mg) (t : TyG x T f) (hg : (glB names x && glB names "isinstance") = true)
    (he : starEach [e, .Name x px] X.env = (false, eval e X.env) :: starEach [.Name x px] X.env)
    (h : DE X e ρ S fun d S1 => OkC S1 d ∧ Φ (.bl (f d)) S1) : DE X (.Call (.Name "isinstance" p) [e, .Name x px] [] pos) ρ S Φ := by
  rw [Bool.and_eq_true] at hg
  have z1 := glB_of hg.1
  have z2 := glB_of hg.2
  exact DE.of (pe_callB call_isi (A.gl _ z2.2) (by rw [A.mg]; exact G.no _ rfl) rfl (pa_cons pe_w (pa_cons (pe_bltn (v := .ty T) (A.gl _ z1.2) (by rw [A.mg]; exact G.no x t.bb) t.bt rfl (plain1 z1.1).2.2 (plain1 z1.1).1) pa_nil rfl) he) (plain1 z2.1).2.2 (plain1 z2.1).1 he rfl)
    fun Zh σ H Q E P => h.bind E fun v H1 d S1 k1 g1 E1 r1 h1 => by
      obtain ⟨hc, q⟩ := h1
      exact ⟨v, .ty T, _, _, f d, rfl, .ty T, tyX_of E1.st hc.of r1, kit_ty (t.kit d), (P.next k1 g1).here E1.st rep_bl q⟩
theorem de_isi2 {T T2 : String} {f f2 : D → Bool} {x x2 : Str} {px px2 pt : Pos} {kk} (A : At X P w K mg base tb names k) (G : NoB mg) (t : TyG x T f) (t' : TyG x2 T2 f2) (hg : (glB names x && glB names "isinstance" && glB names x2) = true)
    (he : starEach [e, .Tuple [.Name x px, .Name x2 px2] kk pt] X.env = (false, eval e X.env) :: starEach [.Tuple [.Name x px, .Name x2 px2] kk pt] X.env)
    (h : DE X e ρ S fun d S1 => OkC S1 d ∧ Φ (.bl (f d || f2 d)) S1) : DE X (.Call (.Name "isinstance" p) [e, .Tuple [.Name x px, .Name x2 px2] kk pt] [] pos) ρ S Φ := by
  rw [Bool.and_eq_true, Bool.and_eq_true] at hg
  have z1 := glB_of hg.1.1
  have z2 := glB_of hg.1.2
  have z3 := glB_of hg.2
  have t1 : PE X (.Name x px) (tC (.ty T)) := pe_bltn (v := .ty T) (A.gl _ z1.2) (by rw [A.mg]; exact G.no x t.bb) t.bt rfl (plain1 z1.1).2.2 (plain1 z1.1).1
  have t2 : PE X (.Name x2 px2) (tC (.ty T2)) := pe_bltn (v := .ty T2) (A.gl _ z3.2) (by rw [A.mg]; exact G.no x2 t'.bb) t'.bt rfl (plain1 z3.1).2.2 (plain1 z3.1).1
  exact DE.of (pe_callB call_isiT (A.gl _ z2.2) (by rw [A.mg]; exact G.no _ rfl) rfl (pa_cons pe_w (pa_cons (pe_tup (pa_cons t1 (pa_cons t2 pa_nil rfl) rfl)) pa_nil rfl) he) (plain1 z2.1).2.2 (plain1 z2.1).1 he rfl)
    fun Zh σ H Q E P => h.bind E fun v H1 d S1 k1 g1 E1 r1 h1 => by
      obtain ⟨hc, q⟩ := h1
      have hb := t.kit d
      have hb2 := t'.kit d
      refine ⟨sz rfl, fun tp hp => ?_⟩
      have s2 := E1.st.new (o := .tup [.ty T, .ty T2]) hp
      have r2 := E1.st.gr (Grow.new (o := .tup [.ty T, .ty T2]) hp) r1
      refine ⟨v, tp, [.ty T, .ty T2], _, [.type T, .type T2], f d || f2 d, rfl, upd_same, .cons (.ty T) (.cons (.ty T2) .nil), tyX_of s2 hc.of r2, ?_, ((P.next k1 g1).next rfl (Grow.new hp)).here s2 rep_bl q⟩
      refine kitAny_cons (kit_ty hb) (fun e1 => ?_) (fun e1 => by rw [e1]; rfl)
      rw [e1, Bool.false_or]
      exact kitAny_cons (kit_ty hb2) (fun e2 => by rw [e2]; exact kitAny_nil) (fun e2 => e2)
/-! ### signs before -/
theorem de_neg (h : DE X e ρ S fun d S1 => ∃ i, d = .int i ∧ Φ (.int (-i)) S1) : DE X (.UnaryOp .USub e pos) ρ S Φ := DE.of (pe_un un_neg pe_w) fun Zh σ H Q E P => h.bind E fun v H1 d S1 k1 g1 E1 r1 h1 => by
  obtain ⟨i, rfl, q⟩ := h1
  exact ⟨i, r1.int, (P.next k1 g1).here E1.st rep_int q⟩
/-- truth -/
def TruD (S : Sto) : D → Bool → Prop
  | .non, k => k = false
  | .bl b, k => k = b
  | .int i, k => k = (i != 0)
  | .str y, k => y.length ≤ sizeLine ∧ k = ((y.length : Int) != 0)
  | .tup l, k => k = !l.isEmpty
  | .lst l, k => k = !l.isEmpty
  | .frz l, k => k = !l.isEmpty
  | .cell p, k => ∃ l, (p, l) ∈ S ∧ k = !l.isEmpty
  | .dct _ _, _ => False
  | .rng _ _, _ => False
theorem RepL.isEmpty {K : PySem.W.Frag} {Z : List Addr} {H : Hp} {l : List D} {vs : List V} (r : RepL K Z H l vs) : vs.isEmpty = l.isEmpty := by
  have e := r.length
  cases l <;> cases vs <;> simp_all
theorem truV_of {K : PySem.W.Frag} {Zh : List Addr} {H : Hp} {d : D} {v : V} {c : Bool} (s : Store K Zh H S) (r : Rep K (keys S ++ Zh) H d v) (h : TruD S d c) : TruV K v H c := by
  cases d with
  | non => rw [r.non]; exact h
  | bl b => rw [r.bl]; exact h
  | int i => rw [r.int]; exact h
  | str x => rw [r.str]; exact h
  | tup l =>
    obtain ⟨p, vs, rfl, sq, rl⟩ := r.tup
    exact .inr (.inl ⟨vs, sq, by rw [rl.isEmpty]; exact h⟩)
  | lst l =>
    obtain ⟨p, vs, rfl, _, sq, rl⟩ := r.lst
    exact .inl ⟨vs, .inl (.inl sq), by rw [rl.isEmpty]; exact h⟩
  | frz l =>
    obtain ⟨p, vs, rfl, sq, rl⟩ := r.frzL
    exact .inl ⟨vs, sq, by rw [rl.isEmpty]; exact h⟩
  | cell p =>
    obtain ⟨l, m, e⟩ := h
    obtain ⟨vs, h1, rl⟩ := s.st _ _ m
    rw [r.cell]
    exact .inl ⟨vs, .inl (.inl h1), by rw [rl.isEmpty]; exact e⟩
  | dct ks l => exact (show False from h).elim
  | rng lo hi => exact (show False from h).elim
theorem dt_truth {Φ : Bool → Sto → Prop} (he : ∀ whole, isTrue e X.env whole = (do let v ← whole; standAt e.pos; holding [v] (truthy v))) (h : DE X e ρ S fun d S1 => ∃ c, TruD S1 d c ∧ Φ c S1) : DT X e ρ S Φ := DT.of (pt_truth pe_w he) fun Zh σ H Q E P => h.bind E fun v H1 d S1 k1 g1 E1 r1 h1 => by
  obtain ⟨c, hc, q⟩ := h1
  exact ⟨c, truV_of E1.st r1 hc, (P.next k1 g1) c H1 S1 rfl Grow.refl E1.st q⟩
theorem dt_not {Φ : Bool → Sto → Prop} (h : DT X e ρ S fun c S1 => Φ (!c) S1) : DT X (.UnaryOp .Not e pos) ρ S Φ := DT.of (pt_not pt_w) fun Zh σ H Q E P => h.tw E fun c H1 S1 k1 g1 s1 q => P (!c) H1 S1 k1 g1 s1 q
theorem de_not (h : DE X e ρ S fun d S1 => ∃ c, TruD S1 d c ∧ Φ (.bl (!c)) S1) : DE X (.UnaryOp .Not e pos) ρ S Φ := DE.of (pe_notT pe_w) fun Zh σ H Q E P => h.bind E fun v H1 d S1 k1 g1 E1 r1 h1 => by
  obtain ⟨c, hc, q⟩ := h1
  exact ⟨c, truV_of E1.st r1 hc, (P.next k1 g1).here E1.st rep_bl q⟩
/-! and, or -/
def DW (X : Cx) (e : Expr) (ρ : Ro) (S : Sto) (Φ : Bool → Sto → Prop) : Prop :=
  ∀ (whole : Sem Value) (Zh : List Addr) (pins : List (Addr × Obj)) (s : Shared) (σ : L2.St) (H : Hp) (Q : Bool → Hp → Prop), Inv X pins σ H s → Ev X.K Zh H σ ρ S → PostT X.K Zh H S Φ Q → wpAny (model X.prog X.w) X.A (isTrue e X.env whole) (TP X pins σ Q) X.xe s
def twW (X : Cx) (e : Expr) : TT := fun σ H Q => ∀ (whole : Sem Value) (pins : List (Addr × Obj)) (s : Shared), Inv X pins σ H s → wpAny (model X.prog X.w) X.A (isTrue e X.env whole) (TP X pins σ Q) X.xe s
theorem pw_w : PW X e (twW X e) := ⟨fun wh pins s _ _ _ I h => h wh pins s I⟩
theorem DW.of {t : TT} {Φ : Bool → Sto → Prop} (p : PW X e t) (h : ∀ Zh σ H Q, Ev X.K Zh H σ ρ S → PostT X.K Zh H S Φ Q → t σ H Q) : DW X e ρ S Φ := fun wh Zh pins s σ H Q I E q => p.run wh pins s σ H Q I (h Zh σ H Q E q)
theorem DW.tw {Φ : Bool → Sto → Prop} {Zh : List Addr} {σ : L2.St} {H : Hp} {Q : Bool → Hp → Prop} (h : DW X e ρ S Φ) (E : Ev X.K Zh H σ ρ S) (q : PostT X.K Zh H S Φ Q) : twW X e σ H Q := fun wh pins s I => h wh Zh pins s σ H Q I E q
variable {a b : Expr} {rest : List Expr}
theorem dt_bool {op} {Ψ : Bool → Sto → Prop} (h : DW X (.BoolOp op es pos) ρ S Ψ) : DT X (.BoolOp op es pos) ρ S Ψ := fun Zh pins s σ H Q I E q => h _ Zh pins s σ H Q I E q
theorem dw_and1 {Ψ : Bool → Sto → Prop} (h : DT X a ρ S Ψ) : DW X (.BoolOp .And [a] pos) ρ S Ψ := DW.of (pw_and1 pt_w) fun Zh σ H Q E P => h.tw E P
theorem dw_or1 {Ψ : Bool → Sto → Prop} (h : DT X a ρ S Ψ) : DW X (.BoolOp .Or [a] pos) ρ S Ψ := DW.of (pw_or1 pt_w) fun Zh σ H Q E P => h.tw E P
theorem dw_and {Ψ : Bool → Sto → Prop} (h : DT X a ρ S fun c S1 => if c = true then DW X (.BoolOp .And (b :: rest) pos) ρ S1 Ψ else Ψ false S1) : DW X (.BoolOp .And (a :: b :: rest) pos) ρ S Ψ := DW.of (pw_and pt_w pw_w) fun Zh σ H Q E P => h.tw E fun c H1 S1 k1 g1 s1 q => by
  cases c with
  | true => exact DW.tw q (E.next k1 g1 s1) (P.next k1 g1)
  | false => exact (P.next k1 g1) false H1 S1 rfl Grow.refl s1 q
theorem dw_or {Ψ : Bool → Sto → Prop} (h : DT X a ρ S fun c S1 => if c = true then Ψ true S1 else DW X (.BoolOp .Or (b :: rest) pos) ρ S1 Ψ) : DW X (.BoolOp .Or (a :: b :: rest) pos) ρ S Ψ := DW.of (pw_or pt_w pw_w) fun Zh σ H Q E P => h.tw E fun c H1 S1 k1 g1 s1 q => by
  cases c with
  | false => exact DW.tw q (E.next k1 g1 s1) (P.next k1 g1)
  | true => exact (P.next k1 g1) true H1 S1 rfl Grow.refl s1 q
theorem de_bool1 {op} (h : DE X a ρ S Φ) : DE X (.BoolOp op [a] pos) ρ S Φ := DE.of (pe_one pe_w) fun Zh σ H Q E P => h.tw E P
theorem de_and (h : DE X a ρ S fun d S1 => ∃ c, TruD S1 d c ∧ if c = true then DE X (.BoolOp .And (b :: rest) pos) ρ S1 Φ else Φ d S1) : DE X (.BoolOp .And (a :: b :: rest) pos) ρ S Φ := DE.of (pe_andT pe_w pe_w) fun Zh σ H Q E P => h.bind E fun v H1 d S1 k1 g1 E1 r1 h1 => by
  obtain ⟨c, hc, q⟩ := h1
  refine ⟨c, truV_of E1.st r1 hc, ?_⟩
  cases c with
  | true => exact DE.tw q E1 (P.next k1 g1)
  | false => exact (P.next k1 g1).here E1.st r1 q
theorem de_or (h : DE X a ρ S fun d S1 => ∃ c, TruD S1 d c ∧ if c = true then Φ d S1 else DE X (.BoolOp .Or (b :: rest) pos) ρ S1 Φ) : DE X (.BoolOp .Or (a :: b :: rest) pos) ρ S Φ := DE.of (pe_orT pe_w pe_w) fun Zh σ H Q E P => h.bind E fun v H1 d S1 k1 g1 E1 r1 h1 => by
  obtain ⟨c, hc, q⟩ := h1
  refine ⟨c, truV_of E1.st r1 hc, ?_⟩
  cases c with
  | false => exact DE.tw q E1 (P.next k1 g1)
  | true => exact (P.next k1 g1).here E1.st r1 q
theorem de_if {c : Expr} (h : DT X c ρ S fun c S1 => if c = true then DE X a ρ S1 Φ else DE X b ρ S1 Φ) : DE X (.IfExp c a b pos) ρ S Φ := DE.of (pe_ifExp pt_w pe_w pe_w) fun Zh σ H Q E P => h.tw E fun c H1 S1 k1 g1 s1 q => by
  cases c with
  | true => exact DE.tw q (E.next k1 g1 s1) (P.next k1 g1)
  | false => exact DE.tw q (E.next k1 g1 s1) (P.next k1 g1)
/-- choices -/
theorem ite_t {c : Bool} {A B : Prop} (h : c = true) (q : A) : if c = true then A else B := by rw [if_pos h]; exact q
theorem ite_f {c : Bool} {A B : Prop} (h : c = false) (q : B) : if c = true then A else B := by rw [h, if_neg (by simp)]; exact q
theorem ite_c {c : Bool} {A B : Prop} (q1 : c = true → A) (q2 : c = false → B) : if c = true then A else B := by
  cases c with
  | true => exact q1 rfl
  | false => exact q2 rfl
/-! ### parts -/
def IxD (S : Sto) : D → D → D → Prop
  | .tup l, .int i, e => atI l i = some e
  | .lst l, .int i, e => atI l i = some e
  | .frz l, .int i, e => atI l i = some e
  | .cell p, .int i, e => ∃ l, (p, l) ∈ S ∧ atI l i = some e
  | .str z, .int i, e => z.length ≤ sizeLine ∧ ∃ c, atI z.cps.toList i = some c ∧ e = .str ⟨#[c]⟩
  | _, _, _ => False
theorem RepL.atI {K : PySem.W.Frag} {Z : List Addr} {H : Hp} {l : List D} {vs : List V} {i : Int} {e : D} (rl : RepL K Z H l vs) (ha : L2.atI l i = some e) : ∃ v, L2.atI vs i = some v ∧ Rep K Z H e v := by
  unfold L2.atI at ha ⊢
  rw [rl.length]
  cases hj : ixN l.length i with
  | none => rw [hj] at ha; cases ha
  | some j =>
    rw [hj] at ha
    exact rl.get ha
theorem de_ix (hp : PlainIx b) (h : DE X a ρ S fun d S1 => DE X b ρ S1 fun c S2 => ∃ e, IxD S2 d c e ∧ Φ e S2) : DE X (.Subscript a b pos) ρ S Φ :=
  DE.of (pe_ix ix_seq pe_w pe_w hp) fun Zh σ H Q E P => h.bind E fun x H1 d S1 k1 g1 E1 r1 h1 => h1.bind E1 fun y H2 c S2 k2 g2 E2 r2 h2 => by
    obtain ⟨e, hi, q⟩ := h2
    have r3 : Rep X.K (keys S2 ++ Zh) H2 d x := by
      rw [k2]
      exact E1.st.gr g2 r1
    have P2 := (P.next k1 g1).next k2 g2
    cases c with
    | int i =>
      cases d with
      | tup l =>
        obtain ⟨p, vs, rfl, sq, rl⟩ := r3.tup
        obtain ⟨v, hv, rv⟩ := rl.atI hi
        exact .inr (.inl ⟨p, vs, i, v, rfl, r2.int, sq, hv, P2.here E2.st rv q⟩)
      | lst l =>
        obtain ⟨p, vs, rfl, _, sq, rl⟩ := r3.lst
        obtain ⟨v, hv, rv⟩ := rl.atI hi
        exact .inl ⟨p, vs, i, v, rfl, r2.int, .inl (.inl sq), hv, P2.here E2.st rv q⟩
      | frz l =>
        obtain ⟨p, vs, rfl, sq, rl⟩ := r3.frzL
        obtain ⟨v, hv, rv⟩ := rl.atI hi
        exact .inl ⟨p, vs, i, v, rfl, r2.int, sq, hv, P2.here E2.st rv q⟩
      | cell p =>
        obtain ⟨l, m, hi⟩ := hi
        obtain ⟨vs, sq, rl⟩ := E2.st.st _ _ m
        obtain ⟨v, hv, rv⟩ := rl.atI hi
        exact .inl ⟨p, vs, i, v, r3.cell, r2.int, .inl (.inl sq), hv, P2.here E2.st rv q⟩
      | str z =>
        obtain ⟨hl, c, hc, rfl⟩ := hi
        exact .inr (.inr ⟨z, i, c, r3.str, r2.int, hl, hc, P2.here E2.st rep_str q⟩)
      | _ => exact (show False from hi).elim
    | _ => cases d <;> exact (show False from hi).elim
/-- slices -/
def cutD (xs : List D) (lo hi : Option Int) : List D := (xs.drop (HT.sIx xs.length 0 lo)).take (HT.sIx xs.length xs.length hi - HT.sIx xs.length 0 lo)
def SlD : D → Option Int → Option Int → D → Prop
  | .tup l, lo, hi, e => e = .tup (cutD l lo hi)
  | .lst l, lo, hi, e => e = .lst (cutD l lo hi)
  | .frz l, lo, hi, e => e = .lst (cutD l lo hi)
  | .str z, lo, hi, e => z.length ≤ sizeLine ∧ e = .str (cutS z lo hi)
  | _, _, _, _ => False
theorem RepL.drop {K : PySem.W.Frag} {Z : List Addr} {H : Hp} : ∀ {n : Nat} {l : List D} {vs : List V}, RepL K Z H l vs → RepL K Z H (l.drop n) (vs.drop n)
  | 0, _, _, h => h
  | n + 1, [], vs, h => by
    rw [h.un0]
    exact .nil
  | n + 1, d :: l, vs, h => by
    obtain ⟨v, r, rfl, _, h⟩ := h.uncons
    exact RepL.drop (n := n) h
theorem RepL.take {K : PySem.W.Frag} {Z : List Addr} {H : Hp} : ∀ {n : Nat} {l : List D} {vs : List V}, RepL K Z H l vs → RepL K Z H (l.take n) (vs.take n)
  | 0, _, _, h => .nil
  | n + 1, [], vs, h => by
    rw [h.un0]
    exact .nil
  | n + 1, d :: l, vs, h => by
    obtain ⟨v, r, rfl, h1, h⟩ := h.uncons
    exact .cons h1 (RepL.take (n := n) h)
theorem RepL.cut {K : PySem.W.Frag} {Z : List Addr} {H : Hp} {l : List D} {vs : List V} {lo hi : Option Int} (h : RepL K Z H l vs) : RepL K Z H (cutD l lo hi) (cutV vs lo hi) := by
  unfold cutD cutV
  rw [h.length]
  exact h.drop.take
theorem sl_any : SlR X (fun x lo hi H Q => rSlL X.K x lo hi H Q ∨ (rSlA X.K x lo hi H Q ∨ rSlS x lo hi H Q)) := sl_list.or (sl_tupA.or sl_str)
theorem cutD_all {l : List D} {lo hi : Option Int} (h : HT.sIx l.length 0 lo = 0 ∧ HT.sIx l.length l.length hi = l.length) : cutD l lo hi = l := by
  unfold cutD
  rw [h.1, h.2, List.drop_zero, Nat.sub_zero, List.take_length]
theorem slV_of {K : PySem.W.Frag} {Zh : List Addr} {H : Hp} {d e : D} {v : V} {lo hi : Option Int} {Q : VK} (s : Store K Zh H S) (r : Rep K (keys S ++ Zh) H d v) (h : SlD d lo hi e) (q : Φ e S) (P : Post K Zh H S Φ Q) : rSlL K v lo hi H Q ∨ (rSlA K v lo hi H Q ∨ rSlS v lo hi H Q) := by
  cases d with
  | tup l =>
    cases (show e = _ from h)
    obtain ⟨p, vs, rfl, sq, rl⟩ := r.tup
    refine .inr (.inl ⟨p, vs, rfl, sq, fun f => ?_, fun f z hz => P.tup s rl.cut q hz⟩)
    rw [rl.length] at f
    exact P.tupAt s (by rw [cutD_all f]; exact rl) q sq
  | lst l =>
    cases (show e = _ from h)
    obtain ⟨p, vs, rfl, _, sq, rl⟩ := r.lst
    exact .inl ⟨p, vs, rfl, .inl (.inl sq), fun z hz => P.lst s rl.cut q hz⟩
  | frz l =>
    cases (show e = _ from h)
    obtain ⟨p, vs, rfl, sq, rl⟩ := r.frzL
    exact .inl ⟨p, vs, rfl, sq, fun z hz => P.lst s rl.cut q hz⟩
  | str z =>
    obtain ⟨hl, rfl⟩ := h
    exact .inr (.inr ⟨z, r.str, hl, P.here s rep_str q⟩)
  | _ => exact (show False from h).elim
variable {lo hi : Expr} {p2 : Pos}
theorem de_slLo (h : DE X a ρ S fun d S1 => DE X lo ρ S1 fun l S2 => ∃ i e, l = .int i ∧ SlD d (some i) none e ∧ Φ e S2) : DE X (.Subscript a (.Slice (some lo) none none p2) pos) ρ S Φ :=
  DE.of (pe_slice sl_any pe_w (po_some pe_w) po_none) fun Zh σ H Q E P => h.bind E fun x H1 d S1 k1 g1 E1 r1 h1 => h1.bind E1 fun y H2 c S2 k2 g2 E2 r2 h2 => by
    obtain ⟨i, e, rfl, hs, q⟩ := h2
    exact ⟨i, r2.int, slV_of E2.st (by rw [k2]; exact E1.st.gr g2 r1) hs q ((P.next k1 g1).next k2 g2)⟩
theorem de_slHi (h : DE X a ρ S fun d S1 => DE X hi ρ S1 fun l S2 => ∃ i e, l = .int i ∧ SlD d none (some i) e ∧ Φ e S2) : DE X (.Subscript a (.Slice none (some hi) none p2) pos) ρ S Φ :=
  DE.of (pe_slice sl_any pe_w po_none (po_some pe_w)) fun Zh σ H Q E P => h.bind E fun x H1 d S1 k1 g1 E1 r1 h1 => h1.bind E1 fun y H2 c S2 k2 g2 E2 r2 h2 => by
    obtain ⟨i, e, rfl, hs, q⟩ := h2
    exact ⟨i, r2.int, slV_of E2.st (by rw [k2]; exact E1.st.gr g2 r1) hs q ((P.next k1 g1).next k2 g2)⟩
theorem de_slLH (h : DE X a ρ S fun d S1 => DE X lo ρ S1 fun l S2 => ∃ i, l = .int i ∧ DE X hi ρ S2 fun u S3 => ∃ j e, u = .int j ∧ SlD d (some i) (some j) e ∧ Φ e S3) : DE X (.Subscript a (.Slice (some lo) (some hi) none p2) pos) ρ S Φ :=
  DE.of (pe_slice sl_any pe_w (po_some pe_w) (po_some pe_w)) fun Zh σ H Q E P => h.bind E fun x H1 d S1 k1 g1 E1 r1 h1 => h1.bind E1 fun y H2 c S2 k2 g2 E2 r2 h2 => by
    obtain ⟨i, rfl, h3⟩ := h2
    refine ⟨i, r2.int, h3.bind E2 fun z H3 u S3 k3 g3 E3 r3 h4 => ?_⟩
    obtain ⟨j, e, rfl, hs, q⟩ := h4
    refine ⟨j, r3.int, slV_of E3.st ?_ hs q (((P.next k1 g1).next k2 g2).next k3 g3)⟩
    rw [k3]
    refine E2.st.gr g3 ?_
    rw [k2]
    exact E1.st.gr g2 r1
end
end Ar
namespace Ar
open PySem PySem.Spec PyProof.Rows L2
/-! ### cells -/
theorem keys_wr {A B : Sto} {p : Addr} {l l' : List D} : keys (A ++ (p, l') :: B) = keys (A ++ (p, l) :: B) := by
  unfold keys
  rw [List.map_append, List.map_append]
  rfl
theorem keys_at {A B : Sto} {p : Addr} {l : List D} : p ∈ keys (A ++ (p, l) :: B) := by
  rw [keys_append]
  exact List.mem_append_right _ List.mem_cons_self
theorem grow_wr {A B : Sto} {H : Hp} {p : Addr} {l : List D} {o : HO} : Grow (keys (A ++ (p, l) :: B)) H (upd H p o) := fun b x n h => by
  rw [upd_ne]
  · exact h
  · intro e
    subst e
    exact n keys_at
theorem Store.wr {K : PySem.W.Frag} {Zh : List Addr} {H : Hp} {A B : Sto} {p : Addr} {l l' : List D} {vs' : List V} (s : Store K Zh H (A ++ (p, l) :: B)) (r : RepL K (keys (A ++ (p, l) :: B) ++ Zh) H l' vs') : Store K Zh (upd H p (.lst vs')) (A ++ (p, l') :: B) := by
  have nd := s.nd
  rw [keys_append, List.nodup_append] at nd
  have gr : ∀ {m : List D} {ws : List V}, RepL K (keys (A ++ (p, l) :: B) ++ Zh) H m ws → RepL K (keys (A ++ (p, l') :: B) ++ Zh) (upd H p (.lst vs')) m ws := fun h => by
    rw [keys_wr (l := l)]
    exact s.grL grow_wr h
  have old : ∀ q m, (q, m) ∈ A ++ (p, l) :: B → q ≠ p → ∃ vs, upd H p (.lst vs') q = some (.lst vs) ∧ RepL K (keys (A ++ (p, l') :: B) ++ Zh) (upd H p (.lst vs')) m vs := fun q m hm hq => by
    obtain ⟨vs, h1, h2⟩ := s.st q m hm
    exact ⟨vs, by rw [upd_ne hq]; exact h1, gr h2⟩
  refine ⟨by rw [keys_wr (l := l)]; exact s.nd, fun q m hm => ?_, fun q hq => ?_⟩
  · rcases List.mem_append.mp hm with h | h
    · refine old q m (List.mem_append_left _ h) fun e => ?_
      subst e
      exact nd.2.2 q (List.mem_map.mpr ⟨_, h, rfl⟩) q List.mem_cons_self rfl
    · rcases List.mem_cons.mp h with h9 | h9
      · cases h9
        exact ⟨vs', upd_same, gr r⟩
      · refine old q m (List.mem_append_right _ (List.mem_cons_of_mem _ h9)) fun e => ?_
        subst e
        have nc : q ∉ keys B ∧ (keys B).Nodup := List.nodup_cons.mp nd.2.1
        exact nc.1 (List.mem_map.mpr ⟨(q, m), h9, rfl⟩)
  · obtain ⟨n, vs, e⟩ := s.hid q hq
    refine ⟨by rw [keys_wr (l := l)]; exact n, vs, ?_⟩
    rw [upd_ne]
    · exact e
    · intro e2
      subst e2
      exact n keys_at
theorem RepL.set {K : PySem.W.Frag} {Z : List Addr} {H : Hp} : ∀ {j : Nat} {l : List D} {vs : List V} {d : D} {v : V}, RepL K Z H l vs → Rep K Z H d v → RepL K Z H (l.set j d) (vs.set j v)
  | _, [], vs, d, v, h, r => by
    rw [h.un0]
    exact .nil
  | 0, c :: l, vs, d, v, h, r => by
    obtain ⟨u, t, rfl, _, h⟩ := h.uncons
    exact .cons r h
  | j + 1, c :: l, vs, d, v, h, r => by
    obtain ⟨u, t, rfl, h1, h⟩ := h.uncons
    exact .cons h1 (RepL.set (j := j) h r)
/-- the same state, the list at p written anew -/
theorem Post.wr {K : PySem.W.Frag} {Zh : List Addr} {H : Hp} {A B : Sto} {p : Addr} {l l' : List D} {vs' : List V} {Φ : D → Sto → Prop} {Q : VK} (P : Post K Zh H (A ++ (p, l) :: B) Φ Q) (s : Store K Zh H (A ++ (p, l) :: B)) (r : RepL K (keys (A ++ (p, l) :: B) ++ Zh) H l' vs') (q : Φ .non (A ++ (p, l') :: B)) : Q .non (upd H p (.lst vs')) :=
  P _ _ .non _ keys_wr grow_wr (s.wr r) rep_non q
section
variable {X : Cx} {ρ : Ro} {S : Sto} {Φ : D → Sto → Prop} {P : Program} {w : World} {K : PySem.W.Frag} {mg : Str → Option Value} {base : Heap} {tb : List (Str × Nat)} {names : List (Str × NameKind)} {k : Nat} {pos p cpos apos tpos : Pos} {e o i : Expr} {es : List Expr} {E : DEnds}
/-! ### new lists -/
def PostN (K : PySem.W.Frag) (Zh : List Addr) (H : Hp) (S : Sto) (Φ : List D → Sto → Prop) (Q : VK) : Prop :=
  ∀ c vs H' l S', keys S' = keys S → Grow (keys S) H H' → Store K ([c] ++ Zh) H' S' → H c = none → H' c = some (.lst vs) → RepL K (keys S ++ ([c] ++ Zh)) H' l vs → Φ l S' → Q (.ref c) H'
def DN (X : Cx) (e : Expr) (ρ : Ro) (S : Sto) (Φ : List D → Sto → Prop) : Prop :=
  ∀ (Zh : List Addr) (pins : List (Addr × Obj)) (s : Shared) (σ : L2.St) (H : Hp) (Q : VK), Inv X pins σ H s → Ev X.K Zh H σ ρ S → PostN X.K Zh H S Φ Q → wpAny (model X.prog X.w) X.A (eval e X.env) (EP X pins σ Q) X.xe s
theorem DN.of {t : TE} {Φ : List D → Sto → Prop} (p : PE X e t) (h : ∀ Zh σ H Q, Ev X.K Zh H σ ρ S → PostN X.K Zh H S Φ Q → t σ H Q) : DN X e ρ S Φ := fun Zh pins s σ H Q I E q => p.run pins s σ H Q I (h Zh σ H Q E q)
theorem DN.tw {Φ : List D → Sto → Prop} {Zh : List Addr} {σ : L2.St} {H : Hp} {Q : VK} (h : DN X e ρ S Φ) (E : Ev X.K Zh H σ ρ S) (q : PostN X.K Zh H S Φ Q) : tW X e σ H Q := fun pins s I => h Zh pins s σ H Q I E q
theorem back_none {K : PySem.W.Frag} {Zh : List Addr} {H H1 : Hp} {c : Addr} (s : Store K Zh H S) (g : Grow (keys S) H H1) {S1 : Sto} (k : keys S1 = keys S) (s1 : Store K Zh H1 S1) (h : H1 c = none) : H c = none := by
  cases e : H c with
  | none => rfl
  | some x =>
    by_cases hm : c ∈ keys S
    · rw [← k] at hm
      obtain ⟨vs, e2⟩ := s1.zl c hm
      rw [h] at e2
      cases e2
    · rw [g _ _ hm e] at h
      cases h
theorem PostN.next {K : PySem.W.Frag} {Zh : List Addr} {H H1 : Hp} {S1 : Sto} {Φ : List D → Sto → Prop} {Q : VK} (P : PostN K Zh H S Φ Q) (s : Store K Zh H S) (k : keys S1 = keys S) (g : Grow (keys S) H H1) (s1 : Store K Zh H1 S1) : PostN K Zh H1 S1 Φ Q := fun c vs H' l S' k' g' s' hc h' r q =>
  P c vs H' l S' (k'.trans k) (g.trans (by rw [← k]; exact g')) s' (back_none s g k s1 hc) h' (by rw [← k]; exact r) q
theorem PostN.lst {K : PySem.W.Frag} {Zh : List Addr} {H : Hp} {Φ : List D → Sto → Prop} {Q : VK} {l : List D} {vs : List V} {c : Addr} (P : PostN K Zh H S Φ Q) (s : Store K Zh H S) (r : RepL K (keys S ++ Zh) H l vs) (q : Φ l S) (hc : H c = none) : Q (.ref c) (upd H c (.lst vs)) :=
  P c vs _ l S rfl (Grow.new hc) (s.hide hc) hc upd_same (RepL.grow s.zl (Grow.new hc) sub_l (RepL.fresh (Zx := [c]) (fun p hp => by
    rw [List.mem_singleton.mp hp]
    exact hc) r)) q
theorem dn_lst {Φ : List D → Sto → Prop} (hl : Nat.ble es.length 1000 = true) (h : DA X es ρ S fun ds S1 => Φ ds S1) : DN X (.List es pos) ρ S Φ :=
  DN.of (pe_lst pa_w) fun Zh σ H Q E P => h.tw E fun vs H1 ds S1 k1 g1 s1 r1 l1 q1 => ⟨by rw [r1.length, l1]; exact sz hl, fun c hc => (P.next E.st k1 g1 s1).lst s1 (by rw [k1]; exact r1) q1 hc⟩
theorem dn_listOf {Φ : List D → Sto → Prop} (A : At X P w K mg base tb names k) (G : NoB mg) (hg : glB names "list" = true) (he : starEach [e] X.env = [(false, eval e X.env)]) (h : DE X e ρ S fun d S1 => ∃ l, SeqD S1 d l ∧ Φ l S1) : DN X (.Call (.Name "list" p) [e] [] pos) ρ S Φ := by
  have z := glB_of hg
  exact DN.of (pe_callTy call_list_of (A.gl _ z.2) (by rw [A.mg]; exact G.no _ rfl) rfl pa_w (plain1 z.1).2.2 (plain1 z.1).1 he rfl) fun Zh σ H Q E P => (da_one (Ψ := fun ds S1 => ∃ d l, ds = [d] ∧ SeqD S1 d l ∧ Φ l S1) he (DE.mono h fun d S1 ⟨l, a, b⟩ => ⟨d, l, rfl, a, b⟩)).tw E fun vs H1 ds S1 k1 g1 s1 r1 l1 q1 => by
    obtain ⟨d, l, rfl, hs, q⟩ := q1
    obtain ⟨v, t, rfl, rv, t0⟩ := r1.uncons
    cases t0.un0
    obtain ⟨p, ws, rfl, sq, rl⟩ := seqV_of s1 (by rw [k1]; exact rv) hs
    exact ⟨p, ws, rfl, sq, fun c hc => (P.next E.st k1 g1 s1).lst s1 rl q hc⟩
theorem dn_or1 {op} {Φ : List D → Sto → Prop} (h : DN X e ρ S Φ) : DN X (.BoolOp op [e] pos) ρ S Φ := DN.of (pe_one pe_w) fun Zh σ H Q E P => h.tw E P
theorem dn_or {b : Expr} {rest : List Expr} {Φ : List D → Sto → Prop} (h : DN X e ρ S fun l S1 => if (!l.isEmpty) = true then Φ l S1 else DN X (.BoolOp .Or (b :: rest) pos) ρ S1 Φ) : DN X (.BoolOp .Or (e :: b :: rest) pos) ρ S Φ := DN.of (pe_orT pe_w pe_w) fun Zh σ H Q E P => h.tw E fun c vs H1 l S1 k1 g1 s1 hc h1 r1 q => by
  refine ⟨!l.isEmpty, .inl ⟨vs, .inl (.inl h1), by rw [r1.isEmpty]⟩, ?_⟩
  have E1 := E.next k1 g1 s1.narrow
  replace q : if (!l.isEmpty) = true then Φ l S1 else DN X (.BoolOp .Or (b :: rest) pos) ρ S1 Φ := q
  cases hl : l.isEmpty with
  | true =>
    rw [hl] at q
    exact DN.tw q E1 (P.next E.st k1 g1 s1.narrow)
  | false =>
    rw [hl] at q
    exact P c vs H1 l S1 k1 g1 s1 hc h1 r1 q
/-- a def that tells a new list -/
abbrev SpecN := List D → Sto → (List D → Sto → Prop) → Prop
def spOfN (K : PySem.W.Frag) (n : Nat) (B : SpecN) : Sp := fun vs H Q _ => vs.length = n ∧ ∃ Zh ds S Φ, Store K Zh H S ∧ RepL K (keys S ++ Zh) H ds vs ∧ B ds S Φ ∧ PostN K Zh H S Φ Q
structure FnN (P : Program) (w : World) (K : PySem.W.Frag) (mg : Str → Option Value) (base : Heap) (x : Str) (n k : Nat) (B : SpecN) : Prop where
  ex : ∃ f fd ps, FnOk P w K mg base CX0 k f fd ps (spOfN K n B) ∧ mg x = some (.ref f) ∧ PySem.W.keepIn K (.ref f) = true ∧ Binds K fd ps [] ∧ ps.length = n ∧ FdAt K f fd
theorem dn_call {x : Str} {n j : Nat} {B : SpecN} {Φ : List D → Sto → Prop} (A : At X P w K mg base tb names k) (F : FnN P w K mg base x n j B) (hc : (Nat.ble j k && Nat.beq (e :: es).length n && glB names x) = true)
    (he : starEach (e :: es) X.env = (false, eval e X.env) :: starEach es X.env) (hpl : (backTo pos (starEach es X.env)).any (·.1) = false)
    (h : DA X (e :: es) ρ S fun ds S1 => B ds S1 Φ) : DN X (.Call (.Name x p) (e :: es) [] pos) ρ S Φ := by
  rw [Bool.and_eq_true, Bool.and_eq_true] at hc
  obtain ⟨⟨hj, hn⟩, hg⟩ := hc
  obtain ⟨f, fd, ps, F, m, kp, b, _⟩ := F.ex
  cases A.prog
  cases A.w
  cases A.K
  cases A.mg
  cases A.base
  exact DN.of (pe_call F (A.room.mono (Nat.le_of_ble_eq_true hj)) (A.gl _ (glB_of hg).2) m kp b .nil pass0 pa_w (plain1 (glB_of hg).1).1 he hpl) fun Zh σ H Q E P => h.tw E fun vs H1 ds S1 k1 g1 s1 r1 l1 q1 => by
    refine ⟨?_, Zh, ds, S1, Φ, s1, by rw [k1, List.append_nil]; exact r1, q1, P.next E.st k1 g1 s1⟩
    rw [List.append_nil, r1.length, l1]
    exact Nat.eq_of_beq_eq_true hn
/-- x = a new list, a cell from here on -/
theorem Ev.cell {Zh : List Addr} {H H' : Hp} {σ : L2.St} {S' : Sto} {c : Addr} {l : List D} {vs : List V} (E : Ev K Zh H σ ρ S) (k1 : keys S' = keys S) (g : Grow (keys S) H H') (s1 : Store K ([c] ++ Zh) H' S') (hc : H c = none) (h1 : H' c = some (.lst vs)) (r : RepL K (keys S ++ ([c] ++ Zh)) H' l vs) :
    Ev K Zh H' σ ρ (S' ++ [(c, l)]) ∧ Step S H (S' ++ [(c, l)]) H' := by
  have kk : keys (S' ++ [(c, l)]) = keys S ++ [c] := by rw [keys_append, k1]; rfl
  have ks : keys (S' ++ [(c, l)]) ++ Zh = keys S ++ ([c] ++ Zh) := by rw [kk, List.append_assoc]
  have hcn : c ∉ keys S' := (s1.hid c (List.mem_append_left _ (List.mem_singleton.mpr rfl))).1
  refine ⟨⟨⟨?_, fun p m hm => ?_, fun p hp => ?_⟩, E.len, fun i d h => ?_⟩, g, fun p hm => ?_⟩
  · rw [kk, ← k1, List.nodup_append]
    refine ⟨s1.nd, List.nodup_cons.mpr ⟨List.not_mem_nil, List.nodup_nil⟩, fun a ha b hb e => ?_⟩
    rw [e, List.mem_singleton.mp hb] at ha
    exact hcn ha
  · rw [ks]
    rcases List.mem_append.mp hm with hm | hm
    · obtain ⟨ws, a, b⟩ := s1.st p m hm
      rw [k1] at b
      exact ⟨ws, a, b⟩
    · cases List.mem_singleton.mp hm
      exact ⟨vs, h1, r⟩
  · obtain ⟨n, ws, e⟩ := s1.hid p (List.mem_append_right _ hp)
    refine ⟨fun m => ?_, ws, e⟩
    rw [kk, ← k1] at m
    rcases List.mem_append.mp m with m | m
    · exact n m
    · obtain ⟨_, us, e2⟩ := E.st.hid p hp
      rw [List.mem_singleton.mp m, hc] at e2
      cases e2
  · obtain ⟨v, e, rv⟩ := E.var i d h
    refine ⟨v, e, ?_⟩
    rw [ks]
    exact Rep.grow E.st.zl g sub_l (Rep.fresh (Zx := [c]) (fun p hp => by
      rw [List.mem_singleton.mp hp]
      exact hc) rv)
  · rw [kk] at hm
    rcases List.mem_append.mp hm with m | m
    · exact .inl m
    · rw [List.mem_singleton.mp m]
      exact .inr hc
theorem ds_setCell {x : Str} (A : At X P w K mg base tb names k) (hs : swapsWith e (some (.Name x p)) pos.line X.env = pure false)
    (h : ∃ i, tb.lookup x = some i ∧ stB (names.lookup x) = true ∧ DN X e ρ S fun l S1 => ∀ c, Nx E (ρ.set i (some (.cell c))) (S1 ++ [(c, l)])) : DS X (.Assign [.Name x p] e pos) ρ S E := by
  obtain ⟨i, hi, hv, h⟩ := h
  exact DS.of (ps_set A.nd (A.slot _ _ hi) (A.sto _ hv).1 pe_w hs (A.sto _ hv).2) fun Zh σ H Dn ev k => h.tw ev fun c vs H' l S' k' g s' hc h' r q => by
    obtain ⟨ev1, st1⟩ := ev.cell k' g s' hc h' r
    exact k.nx _ _ _ _ st1 (ev1.put (by unfold Rep; rfl)) (q c)
theorem ds_retCell (h : DN X e ρ S fun l S1 => ∀ c, E.rt (.cell c) (S1 ++ [(c, l)])) : DS X (.Return (some e) pos) ρ S E := DS.of (ps_ret pe_w) fun Zh σ H Dn ev k => h.tw ev fun c vs H' l S' k' g s' hc h' r q => by
  obtain ⟨ev1, st1⟩ := ev.cell k' g s' hc h' r
  exact k.rt _ _ _ _ st1 ev1.st (by unfold Rep; rfl) (q c)
/-- the end of a def that tells a new list -/
inductive RetC (S0 : Sto) (Φ : List D → Sto → Prop) : D → Sto → Prop where
  | cell {p : Addr} {l : List D} {S2 R : Sto} (h : keys S2 = keys S0) (m : (p, l) ∈ R) (q : Φ l S2) : RetC S0 Φ (.cell p) (S2 ++ R)
theorem fnN_data {f : Addr} {fd : FuncData} {x qual : Str} {st : Stmt} {N ps : List Str} {n : Nat} {B : SpecN} (F : Fun K x qual st f fd) (Sc : FnScope N ps (defScope st)) (hn : ps.length = n) (hnm : (defScope st).names = names) (ht : tbOk N tb = true)
    (hm : mg x = some (.ref f)) (hb : Binds K fd ps [])
    (body : ∀ X, At X P w K mg base tb names k → ∀ ds S Φ, ds.length = n → B ds S Φ → DSs X (defBody st) (ds.map some ++ List.replicate (N.length - ds.length) none) S { nx := fun _ _ => False, rt := RetC S Φ }) : FnN P w K mg base x n (k + 1) B := by
  refine ⟨f, fd, ps, F.ok Sc (fun vs H Q E h => by rw [h.1, hn]) (fun cdv A outer s H vs Q E hr h => ?_), hm, F.kp, hb, hn, .of F⟩
  obtain ⟨hl, Zh, ds, S, Φ, hS, hR, hB, hP⟩ := h
  have hat := at_def (P := P) (w := w) (K := K) (mg := mg) (base := base) (qual := qual) (f := f) (cd := cdv) (A := A) (outer := outer) (s := s) (H := H) (E := E) (tbOk_of ht) (tbOk_cov ht) Sc hr
  rw [hnm] at hat
  have b := body _ hat ds S Φ (by rw [← hR.length]; exact hl) hB
  refine ⟨_, pss_w, b.tw (ev_start hS hR) ?_⟩
  refine ⟨fun σ' H' ρ' S' t ev q => q.elim, fun v H' d S' t s' r q => ?_, fun _ _ _ _ _ _ q => q.elim, fun _ _ _ _ _ _ q => q.elim⟩
  cases q with
  | cell h m q =>
    rename_i p l S2 R
    obtain ⟨vs, h1, h2⟩ := s'.st p l (List.mem_append_right _ m)
    rw [r.cell]
    have pk : p ∈ keys (S2 ++ R) := by
      rw [keys_append]
      exact List.mem_append_right _ (List.mem_map.mpr ⟨_, m, rfl⟩)
    have nd := s'.nd
    rw [keys_append, List.nodup_append] at nd
    have pn : p ∉ keys S2 := fun z => nd.2.2 p z p (List.mem_map.mpr ⟨_, m, rfl⟩) rfl
    have hpn : H p = none := (t.2 p pk).resolve_left (by rw [← h]; exact pn)
    have sub : ∀ q, q ∈ keys S2 ++ ([p] ++ Zh) → q ∈ keys (S2 ++ R) ++ Zh := fun q hq => by
      rcases List.mem_append.mp hq with z | z
      · exact List.mem_append_left _ (by rw [keys_append]; exact List.mem_append_left _ z)
      · rcases List.mem_append.mp z with z | z
        · rw [List.mem_singleton.mp z]
          exact List.mem_append_left _ pk
        · exact List.mem_append_right _ z
    refine hP p vs H' l S2 h t.1 ⟨s'.drop.nd, fun q m hm => ?_, fun q hq => ?_⟩ hpn h1 (by rw [← h]; exact h2.shrink sub) q
    · obtain ⟨ws, a, b⟩ := s'.st q m (List.mem_append_left _ hm)
      exact ⟨ws, a, b.shrink sub⟩
    · rcases List.mem_append.mp hq with z | z
      · rw [List.mem_singleton.mp z]
        exact ⟨pn, vs, h1⟩
      · exact s'.drop.hid q z
/-! ### writes -/
theorem ds_store (hs : swapsWithSole [.Subscript o i tpos] e pos.line X.env = pure false) (hw : swappedStores [.Subscript o i tpos] e X.env = pure none) (h1 : (assignEach [.Subscript o i tpos] X.env).map (·.2) = [assign (.Subscript o i tpos) X.env])
    (ha : ∀ v, assign (.Subscript o i tpos) X.env v = (do
      let ov ← holding [v] (eval o X.env)
      let iv ← holding [v, ov] (eval i X.env)
      standAt tpos
      holding [v, ov, iv] (setItem ov iv v)
      release [v, ov, iv] []))
    (h : DE X e ρ S fun d S1 => DE X o ρ S1 fun c S2 => DE X i ρ S2 fun j S3 => ∃ p A l B n m, c = .cell p ∧ S3 = A ++ (p, l) :: B ∧ j = .int n ∧ ixN l.length n = some m ∧ E.nx ρ (A ++ (p, l.set m d) :: B)) : DS X (.Assign [.Subscript o i tpos] e pos) ρ S E :=
  DS.of (ps_asg pe_w (pg_sub pe_w pe_w set_list ha) hs hw h1) fun Zh σ H Dn ev kk => h.bind ev fun v H1 d S1 k1 g1 E1 r1 h2 => h2.bind E1 fun ov H2 c S2 k2 g2 E2 r2 h3 => h3.bind E2 fun iv H3 j S3 k3 g3 E3 r3 h4 => by
    obtain ⟨p, A, l, B, n, m, rfl, rfl, rfl, hm, q⟩ := h4
    obtain ⟨vs, hp, rl⟩ := E3.st.st p l (List.mem_append_right _ List.mem_cons_self)
    refine ⟨p, vs, n, m, r2.cell, r3.int, hp, by rw [rl.length]; exact hm, ?_⟩
    have rd : Rep X.K (keys (A ++ (p, l) :: B) ++ Zh) H3 d v := by
      rw [k3]
      refine E2.st.gr g3 ?_
      rw [k2]
      exact E1.st.gr g2 r1
    have s4 := E3.st.wr (rl.set (j := m) rd)
    have ev4 := E3.next (S' := A ++ (p, l.set m d) :: B) keys_wr grow_wr s4
    exact kk.nx _ _ _ _ ((((Step.of k1 g1).trans (.of k2 g2)).trans (.of k3 g3)).trans (.of keys_wr grow_wr)) ev4 q
theorem tyV_cell {Zh : List Addr} {H : Hp} {A B : Sto} {p : Addr} {l : List D} (s : Store K Zh H (A ++ (p, l) :: B)) : tyV K "list" (.ref p) H := by
  obtain ⟨vs, hp, rl⟩ := s.st p l (List.mem_append_right _ List.mem_cons_self)
  exact .inl ⟨rfl, vs, .inl (.inl hp)⟩
theorem de_append (hbase : attributeBase o "append" X.env (eval o X.env) = eval o X.env)
    (hfew : ((backTo cpos (starEach [e] X.env)).all (fun x => !x.1) && (backToKw cpos (keywordEach [] X.env)).all (fun x => x.1.isSome)
      && decide (([e] : List Expr).length + ([] : List Keyword).length + (if ([] : List Keyword).isEmpty then 0 else 1) < 30)) = true)
    (hline : (apos.endLine == cpos.line) = true) (he : starEach [e] X.env = [(false, eval e X.env)])
    (h : DE X o ρ S fun c S1 => ∃ p A l B, c = .cell p ∧ S1 = A ++ (p, l) :: B ∧ DE X e ρ S1 fun d S2 => ∃ A' l' B', S2 = A' ++ (p, l') :: B' ∧ l'.length < sizeLine ∧ Φ .non (A' ++ (p, l' ++ [d]) :: B')) : DE X (.Call (.Attribute o "append" apos) [e] [] cpos) ρ S Φ :=
  DE.of (pe_bm PySem.F.plainAttrs_list PySem.F.slot_list_append PySem.F.type_list_append mt_append pe_w pa_w hbase hfew hline he rfl) fun Zh σ H Q ev P => h.bind ev fun v H1 c S1 k1 g1 E1 r1 h2 => by
    obtain ⟨p, A, l, B, rfl, rfl, h2⟩ := h2
    have hv := r1.cell
    subst hv
    refine ⟨tyV_cell E1.st, (da_one (Ψ := fun ds S2 => ∃ d, ds = [d] ∧ ∃ A' l' B', S2 = A' ++ (p, l') :: B' ∧ l'.length < sizeLine ∧ Φ .non (A' ++ (p, l' ++ [d]) :: B')) he (DE.mono h2 fun d S2 q => ⟨d, rfl, q⟩)).tw E1 fun vs H2 ds S2 k2 g2 s2 r2 l2 q2 => ?_⟩
    obtain ⟨d, rfl, A', l', B', rfl, hz, q⟩ := q2
    obtain ⟨v, t, rfl, rv, t0⟩ := r2.uncons
    cases t0.un0
    obtain ⟨ws, hp, rl⟩ := s2.st p l' (List.mem_append_right _ List.mem_cons_self)
    refine ⟨p, ws, v, rfl, rfl, hp, by rw [rl.length]; exact hz, ?_⟩
    exact ((P.next k1 g1).next k2 g2).wr s2 (rl.append (.one (by rw [k2]; exact rv))) q
theorem de_extend (hbase : attributeBase o "extend" X.env (eval o X.env) = eval o X.env)
    (hfew : ((backTo cpos (starEach [e] X.env)).all (fun x => !x.1) && (backToKw cpos (keywordEach [] X.env)).all (fun x => x.1.isSome)
      && decide (([e] : List Expr).length + ([] : List Keyword).length + (if ([] : List Keyword).isEmpty then 0 else 1) < 30)) = true)
    (hline : (apos.endLine == cpos.line) = true) (he : starEach [e] X.env = [(false, eval e X.env)])
    (h : DE X o ρ S fun c S1 => ∃ p A l B, c = .cell p ∧ S1 = A ++ (p, l) :: B ∧ DE X e ρ S1 fun d S2 => ∃ A' l' B' m, d = .lst m ∧ S2 = A' ++ (p, l') :: B' ∧ l'.length + m.length ≤ sizeLine ∧ Φ .non (A' ++ (p, l' ++ m) :: B')) : DE X (.Call (.Attribute o "extend" apos) [e] [] cpos) ρ S Φ :=
  DE.of (pe_bm PySem.F.plainAttrs_list PySem.F.slot_list_extend PySem.F.type_list_extend mt_extend pe_w pa_w hbase hfew hline he rfl) fun Zh σ H Q ev P => h.bind ev fun v H1 c S1 k1 g1 E1 r1 h2 => by
    obtain ⟨p, A, l, B, rfl, rfl, h2⟩ := h2
    have hv := r1.cell
    subst hv
    refine ⟨tyV_cell E1.st, (da_one (Ψ := fun ds S2 => ∃ d, ds = [d] ∧ ∃ A' l' B' m, d = .lst m ∧ S2 = A' ++ (p, l') :: B' ∧ l'.length + m.length ≤ sizeLine ∧ Φ .non (A' ++ (p, l' ++ m) :: B')) he (DE.mono h2 fun d S2 q => ⟨d, rfl, q⟩)).tw E1 fun vs H2 ds S2 k2 g2 s2 r2 l2 q2 => ?_⟩
    obtain ⟨d, rfl, A', l', B', m, rfl, rfl, hz, q⟩ := q2
    obtain ⟨v, t, rfl, rv, t0⟩ := r2.uncons
    cases t0.un0
    obtain ⟨b, zs, rfl, _, hb, rz⟩ := rv.lst
    obtain ⟨ws, hp, rl⟩ := s2.st p l' (List.mem_append_right _ List.mem_cons_self)
    refine ⟨p, b, ws, zs, rfl, rfl, hp, hb, by rw [rl.length, rz.length]; exact hz, ?_⟩
    exact ((P.next k1 g1).next k2 g2).wr s2 (rl.append (by rw [k2]; exact rz)) q
theorem ds_aug {x : Str} {op : Operator} (A : At X P w K mg base tb names k)
    (h : ∃ i d, tb.lookup x = some i ∧ stB (names.lookup x) = true ∧ ρ[i]? = some (some d) ∧ DE X e ρ S fun c S1 => DO X (inplaceOp op) d c S1 fun r S2 => Nx E (ρ.set i (some r)) S2) : DS X (.AugAssign (.Name x p) op e pos) ρ S E := by
  obtain ⟨i, d, hi, hv, hd, h⟩ := h
  exact DS.of (ps_aug (ti := rW X (inplaceOp op)) A.nd (A.slot _ _ hi) (A.sto _ hv).1 pe_w op_w (A.sto _ hv).2) fun Zh σ H Dn ev kk => by
    obtain ⟨v, e1, rv⟩ := ev.var i d hd
    refine ⟨v, e1, h.bind ev fun u H1 c S1 k1 g1 E1 r1 h1 => ?_⟩
    refine h1.rw E1.st (by rw [k1]; exact ev.st.gr g1 rv) r1 fun v2 H2 d2 S2 k2 g2 s2 r2 q => ?_
    exact kk.nx _ _ _ _ ((Step.of k1 g1).trans (.of k2 g2)) ((E1.next k2 g2 s2).put (by rw [k2]; exact r2)) q
variable {a b : Int}
theorem do_iadd (q : Φ (.int (a + b)) S) : DO X (inplaceOp .Add) (.int a) (.int b) S Φ := do_i0 iop_add q
theorem do_isub (q : Φ (.int (a - b)) S) : DO X (inplaceOp .Sub) (.int a) (.int b) S Φ := do_i0 iop_sub q
end
end Ar
namespace Ar
open PySem PySem.Spec PyProof.Rows L2
/-! ### sizes of ints -/
structure Bd (n : Nat) (x : Int) : Prop where
  lt : x.natAbs < 2 ^ n
theorem Bd.mono {n m : Nat} {x : Int} (h : Bd n x) (k : n ≤ m) : Bd m x := ⟨Nat.lt_of_lt_of_le h.lt (Nat.pow_le_pow_right (by decide) k)⟩
theorem Bd.fit {n m : Nat} {x : Int} (h : Bd n x) (k : Nat.ble n m = true) : Bd m x := h.mono (Nat.le_of_ble_eq_true k)
theorem Bd.add {n m : Nat} {x y : Int} (h : Bd n x) (k : Bd m y) : Bd (max n m + 1) (x + y) := by
  have h1 := (h.mono (Nat.le_max_left n m)).lt
  have k1 := (k.mono (Nat.le_max_right n m)).lt
  constructor
  rw [Nat.pow_succ]
  omega
theorem Bd.neg {n : Nat} {x : Int} (h : Bd n x) : Bd n (-x) := ⟨by
  have := h.lt
  omega⟩
theorem Bd.sub {n m : Nat} {x y : Int} (h : Bd n x) (k : Bd m y) : Bd (max n m + 1) (x - y) := by
  rw [Int.sub_eq_add_neg]
  exact h.add k.neg
theorem Bd.mul {n m : Nat} {x y : Int} (h : Bd n x) (k : Bd m y) : Bd (n + m) (x * y) := by
  constructor
  rw [Int.natAbs_mul, Nat.pow_add]
  exact Nat.mul_lt_mul'' h.lt k.lt
theorem Bd.ediv {n : Nat} {x y : Int} (h : Bd n x) : Bd (n + 1) (x / y) := by
  constructor
  have := Int.natAbs_ediv_le_natAbs x y
  have := h.lt
  rw [Nat.pow_succ]
  omega
theorem Bd.pos {n : Nat} {x : Int} (h0 : 0 ≤ x) (h : x < 2 ^ n) : Bd n x := by
  constructor
  have e : ((2 : Int) ^ n) = ((2 ^ n : Nat) : Int) := by
    rw [Int.natCast_pow]
    rfl
  rw [e] at h
  omega
theorem Bd.le {n : Nat} {x y : Int} (h0 : 0 ≤ x) (h : x ≤ y) (k : Bd n y) : Bd n x := ⟨by
  have := k.lt
  omega⟩
theorem Bd.lt2 {n : Nat} {x y : Int} (h0 : 0 ≤ x) (h : x < y) (k : Bd n y) : Bd n x := ⟨by
  have := k.lt
  omega⟩
theorem Bd.abs {n : Nat} {x y : Int} (h : x.natAbs ≤ y.natAbs) (k : Bd n y) : Bd n x := ⟨Nat.lt_of_le_of_lt h k.lt⟩
theorem Bd.lit {n : Nat} {x : Int} (h : Nat.blt x.natAbs (2 ^ n) = true) : Bd n x := by
  constructor
  have z : Nat.ble (x.natAbs + 1) (2 ^ n) = true := h
  exact Nat.le_of_ble_eq_true z
theorem intBits_le {n : Nat} {x : Int} (h : Bd n x) : Builtin.Int.intBits x ≤ n := by
  unfold Builtin.Int.intBits
  split
  · exact Nat.zero_le _
  · rename_i h0
    have hp : x.natAbs ≠ 0 := by
      intro e
      exact h0 (by simpa using e)
    have := (Nat.log2_lt hp).mpr h.lt
    omega
theorem Bd.ok {n m : Nat} {x y : Int} (h : Bd n x) (k : Bd m y) (hn : Nat.ble (n + m) 134217000 = true) : IntMulOk x y := by
  have h1 := intBits_le h
  have h2 := intBits_le k
  have hn := Nat.le_of_ble_eq_true hn
  have e : bitsLine = 134217728 := by decide
  unfold IntMulOk
  intro z
  rw [Bool.and_eq_true] at z
  have z2 := z.2
  unfold Builtin.Int.intTooBig at z2
  have z3 := of_decide_eq_true z2
  rw [e] at z3
  omega
theorem Bd.okL {x y : Int} (h : Bd 64 x) : IntMulOk x y := .of_left (intBits_le h)
theorem Bd.okR {x y : Int} (h : Bd 64 y) : IntMulOk x y := .of_right (intBits_le h)
theorem Bd.div {n : Nat} {x y : Int} (h : 0 < y) (k : Bd n y) (hn : (Nat.ble 1 n && Nat.ble n 9000) = true) : CDivW x y := by
  rw [Bool.and_eq_true] at hn
  exact wide_div h k.lt (Nat.le_of_ble_eq_true hn.1) (Nat.le_of_ble_eq_true hn.2)
/-! ### data and ==  -/
mutual
def toPy : D → PyData
  | .non => .none
  | .bl b => .bool b
  | .int i => .int i
  | .str x => .str x
  | .tup l => .tuple (toPyL l)
  | .lst l => .list (toPyL l)
  | .frz l => .list (toPyL l)
  | .cell _ => .none
  | .dct _ _ => .none
  | .rng _ _ => .none
def toPyL : List D → List PyData
  | [] => []
  | d :: l => toPy d :: toPyL l
end
mutual
def plainD : D → Bool
  | .cell _ => false
  | .dct _ _ => false
  | .rng _ _ => false
  | .tup l => Nat.ble l.length sizeLine && plainL l
  | .lst l => Nat.ble l.length sizeLine && plainL l
  | .frz l => Nat.ble l.length sizeLine && plainL l
  | _ => true
def plainL : List D → Bool
  | [] => true
  | d :: l => plainD d && plainL l
end
mutual
theorem dp_of {K : PySem.W.Frag} {Z : List Addr} {H : Hp} : ∀ {d : D} {v : V}, Rep K Z H d v → plainD d = true → Dp K H v (toPy d)
  | .non, v, h, _ => by rw [h.non]; unfold toPy; exact .non
  | .bl b, v, h, _ => by rw [h.bl]; unfold toPy; exact .bl b
  | .int i, v, h, _ => by rw [h.int]; unfold toPy; exact .int i
  | .str x, v, h, _ => by rw [h.str]; unfold toPy; exact .str x
  | .tup l, v, h, q => by
    obtain ⟨p, vs, e, sq, r⟩ := h.tup
    rw [e]
    unfold toPy
    exact .tup sq (dpL_of r (by unfold plainD at q; rw [Bool.and_eq_true] at q; exact q.2))
  | .lst l, v, h, q => by
    obtain ⟨p, vs, e, _, sq, r⟩ := h.lst
    rw [e]
    unfold toPy
    exact .lst (.inl (.inl sq)) (dpL_of r (by unfold plainD at q; rw [Bool.and_eq_true] at q; exact q.2))
  | .frz l, v, h, q => by
    obtain ⟨p, vs, e, sq, r⟩ := h.frzL
    rw [e]
    unfold toPy
    exact .lst sq (dpL_of r (by unfold plainD at q; rw [Bool.and_eq_true] at q; exact q.2))
  | .cell p, v, h, q => by unfold plainD at q; cases q
  | .dct ks l, v, h, q => by unfold plainD at q; cases q
  | .rng _ _, v, h, q => by unfold plainD at q; cases q
theorem dpL_of {K : PySem.W.Frag} {Z : List Addr} {H : Hp} : ∀ {l : List D} {vs : List V}, RepL K Z H l vs → plainL l = true → DpAll K H vs (toPyL l)
  | [], vs, h, _ => by
    rw [h.un0]
    unfold toPyL
    exact .nil
  | d :: l, vs, h, q => by
    obtain ⟨v, r, e, h1, h2⟩ := h.uncons
    rw [e]
    unfold plainL at q
    rw [Bool.and_eq_true] at q
    unfold toPyL
    exact .cons (dp_of h1 q.1) (dpL_of h2 q.2)
end
def eqOk (d : D) : Bool := plainD d && SeqAt.shaped (toPy d)
section
variable {X : Cx} {ρ : Ro} {S : Sto} {Φ : D → Sto → Prop} {P : Program} {w : World} {K : PySem.W.Frag} {mg : Str → Option Value} {base : Heap} {tb : List (Str × Nat)} {names : List (Str × NameKind)} {k : Nat} {pos p cpos apos tpos : Pos} {e o i : Expr} {es : List Expr} {E : DEnds}
theorem op_mulX : OpR X (binaryOp .Mult) (rI IntMulOk fun i j => .int (i * j)) := opI fun _ _ _ _ _ _ _ hc q => mul_int q hc
theorem do_mulX {i j : Int} (c : IntMulOk i j) (q : Φ (.int (i * j)) S) : DO X (binaryOp .Mult) (.int i) (.int j) S Φ := do_iC op_mulX c q
theorem do_modN {i j : Int} (c : j ≠ 0) (q : Φ (.int (i.fmod j)) S) : DO X (binaryOp .Mod) (.int i) (.int j) S Φ := do_iC (C := fun _ j => j ≠ 0) op_modN c q
theorem do_eqD {a b : D} (A : At X P w K mg base tb names k) (h : (eqOk a && eqOk b) = true) (q : Φ (.bl (PyData.eqv (toPy a) (toPy b))) S) : DO X (compareOp .Eq) a b S Φ := DO.of (op_eqD A.room.units) fun Zh H x y Q st ra rb P => by
  unfold eqOk at h
  rw [Bool.and_eq_true, Bool.and_eq_true, Bool.and_eq_true] at h
  exact ⟨toPy a, toPy b, dp_of ra h.1.1, dp_of rb h.2.1, h.1.2, h.2.2, P.here st rep_bl q⟩
theorem do_neD {a b : D} (A : At X P w K mg base tb names k) (h : (eqOk a && eqOk b) = true) (q : Φ (.bl (!PyData.eqv (toPy a) (toPy b))) S) : DO X (compareOp .NotEq) a b S Φ := DO.of (op_neD A.room.units) fun Zh H x y Q st ra rb P => by
  unfold eqOk at h
  rw [Bool.and_eq_true, Bool.and_eq_true, Bool.and_eq_true] at h
  exact ⟨toPy a, toPy b, dp_of ra h.1.1, dp_of rb h.2.1, h.1.2, h.2.2, P.here st rep_bl q⟩
/-- a cell against a list -/
theorem do_neC {p : Addr} {m : List D} (A : At X P w K mg base tb names k) (h : ∃ l, (p, l) ∈ S ∧ (eqOk (.lst l) && eqOk (.lst m)) = true ∧ Φ (.bl (!PyData.eqv (toPy (.lst l)) (toPy (.lst m)))) S) : DO X (compareOp .NotEq) (.cell p) (.lst m) S Φ := DO.of (op_neD A.room.units) fun Zh H x y Q st ra rb P => by
  obtain ⟨l, hm, h, q⟩ := h
  unfold eqOk at h
  rw [Bool.and_eq_true, Bool.and_eq_true, Bool.and_eq_true] at h
  obtain ⟨vs, h1, rl⟩ := st.st p l hm
  rw [ra.cell]
  refine ⟨toPy (.lst l), toPy (.lst m), ?_, dp_of rb h.2.1, h.1.2, h.2.2, P.here st rep_bl q⟩
  unfold toPy
  exact .lst (.inl (.inl h1)) (dpL_of rl (by
    have z := h.1.1
    unfold plainD at z
    rw [Bool.and_eq_true] at z
    exact z.2))
/-! ### texts -/
theorem do_inS {c : Nat} {z : Str} (q : Φ (.bl (decide (c ∈ z.cps.toList))) S) : DO X (compareOp .In) (.str ⟨#[c]⟩) (.str z) S Φ := DO.of op_in_sign fun Zh H x y Q st ra rb P => ⟨c, z, ra.str, rb.str, P.here st rep_bl q⟩
theorem do_notInS {c : Nat} {z : Str} (q : Φ (.bl (!decide (c ∈ z.cps.toList))) S) : DO X (compareOp .NotIn) (.str ⟨#[c]⟩) (.str z) S Φ := DO.of op_notIn_sign fun Zh H x y Q st ra rb P => ⟨c, z, ra.str, rb.str, P.here st rep_bl q⟩
theorem de_join (hs : starEach [e] X.env = [(false, eval e X.env)]) (hbase : attributeBase o "join" X.env (eval o X.env) = eval o X.env) (hline : (apos.endLine == pos.line) = true)
    (h : DE X o ρ S fun c S1 => ∃ a, c = .str a ∧ DE X e ρ S1 fun d S2 => ∃ ys : List Str, d = .lst (ys.map D.str) ∧ (ys.map (·.length)).sum + ys.length * a.length ≤ 16777216 ∧ Φ (.str (Txt.join a ys)) S2) : DE X (.Call (.Attribute o "join" apos) [e] [] pos) ρ S Φ :=
  DE.of (pe_join pe_w pe_w hs hbase hline) fun Zh σ H Q ev P => h.bind ev fun v H1 c S1 k1 g1 E1 r1 h2 => by
    obtain ⟨a, rfl, h2⟩ := h2
    refine ⟨⟨a, r1.str⟩, h2.bind E1 fun u H2 d S2 k2 g2 E2 r2 h3 => ?_⟩
    obtain ⟨ys, rfl, hz, q⟩ := h3
    obtain ⟨p, vs, rfl, _, sq, rl⟩ := r2.lst
    rw [rl.strs] at sq
    exact ⟨a, p, ys, r1.str, rfl, .inl (.inl (.inl sq)), hz, ((P.next k1 g1).next k2 g2).here E2.st rep_str q⟩
theorem de_sindex (hs : starEach [e] X.env = [(false, eval e X.env)]) (hbase : attributeBase o "index" X.env (eval o X.env) = eval o X.env) (hline : (apos.endLine == pos.line) = true)
    (h : DE X o ρ S fun c S1 => ∃ a, c = .str a ∧ DE X e ρ S1 fun d S2 => ∃ b i rest, d = .str b ∧ Builtin.Str.occurrences a b 0 a.length 1 = i :: rest ∧ Φ (.int ((i : Nat) : Int)) S2) : DE X (.Call (.Attribute o "index" apos) [e] [] pos) ρ S Φ :=
  DE.of (pe_m1 PySem.F.slot_str_index PySem.F.type_str_index mt_sindex pe_w pe_w hs hbase hline) fun Zh σ H Q ev P => h.bind ev fun v H1 c S1 k1 g1 E1 r1 h2 => by
    obtain ⟨a, rfl, h2⟩ := h2
    refine ⟨⟨a, r1.str⟩, h2.bind E1 fun u H2 d S2 k2 g2 E2 r2 h3 => ?_⟩
    obtain ⟨b, i, rest, rfl, hz, q⟩ := h3
    exact ⟨a, b, i, rest, r1.str, by rw [r2.str], hz, ((P.next k1 g1).next k2 g2).here E2.st rep_int q⟩
/-! ### names of the module -/
def GlobD (K : PySem.W.Frag) (mg : Str → Option Value) (x : Str) (d : D) : Prop := ∃ u v, mg x = some u ∧ RelV v u ∧ ∀ Z H, Rep K Z H d v
theorem de_glob {x : Str} {d : D} (A : At X P w K mg base tb names k) (G : GlobD K mg x d) (hg : glB names x = true) (q : Φ d S) : DE X (.Name x pos) ρ S Φ := by
  obtain ⟨u, v, hm, rv, rep⟩ := G
  have z := glB_of hg
  exact DE.of (pe_glob (v := v) (A.gl _ z.2) (by rw [A.mg]; exact hm) rv (plain1 z.1).1) fun Zh σ H Q E P => P.here E.st (by rw [A.K]; exact rep _ _) q
def DictG (K : PySem.W.Frag) (w : World) (mg : Str → Option Value) (x : Str) (f : Str → Option D) : Prop := ∃ a, mg x = some (.ref a) ∧ ∀ z d, f z = some d → ∃ v, KDct K w a z v ∧ ∀ Z H, Rep K Z H d v
theorem de_kd {x : Str} {f : Str → Option D} {px : Pos} (A : At X P w K mg base tb names k) (G : DictG K w mg x f) (hg : glB names x = true) (hp : PlainIx e) (h : DE X e ρ S fun d S1 => ∃ z r, d = .str z ∧ f z = some r ∧ Φ r S1) : DE X (.Subscript (.Name x px) e pos) ρ S Φ := by
  obtain ⟨a, hm, hf⟩ := G
  have z := glB_of hg
  exact DE.of (pe_ix ix_kdict (pe_glob (v := .ref a) (A.gl _ z.2) (by rw [A.mg]; exact hm) rfl (plain1 z.1).1) pe_w hp) fun Zh σ H Q E P => h.bind E fun v H1 d S1 k1 g1 E1 r1 h1 => by
    obtain ⟨z, r, rfl, hz, q⟩ := h1
    obtain ⟨u, hk, rep⟩ := hf z r hz
    refine ⟨a, z, u, rfl, r1.str, ?_, (P.next k1 g1).here E1.st (by rw [A.K]; exact rep _ _) q⟩
    rw [A.K, A.w]
    exact hk
end
end Ar
namespace Ar
open PySem PySem.Spec PyProof.Rows L2
def isStar (e : Expr) : Bool := match e with | .Starred .. => true | _ => false
/-- two values are put on the stack and stored from its top -/
theorem sw_some2 {env : Env} {x y : Str} {px py pt pt2 : Pos} {a b : Expr} {kt k2} (hb : env.blockKind = .function) (kx : env.kindOf x = some .local) (ky : env.kindOf y = some .local) (hl : (py.line == px.line) = true) (hxy : (y == x) = false) (hf : ([a, b].all (foldedForSure 8)) = false) (hc : ([a, b].all (constantsAlone 8)) = false) (hs : ([a, b].any isStar) = false) :
    swappedStores [.Tuple [.Name x px, .Name y py] kt pt] (.Tuple [a, b] k2 pt2) env = pure (some [x, y]) := by
  have e1 : ([x, y] : List Str).eraseDups.length = 2 := by
    simp [List.eraseDups_cons, hxy]
  have hl2 := eq_of_beq hl
  unfold swappedStores
  simp only [hf, hc]
  split
  · rename_i h
    exact absurd h (by simp [hb])
  · split
    · rename_i h
      have h2 : ([a, b].any isStar) = true := h
      rw [hs] at h2
      cases h2
    · split
      · rename_i h
        revert h
        simp [kx, ky, Expr.pos, hl2, e1]
      · simp [kx, ky, Expr.pos, hl2]
theorem sw_some3 {env : Env} {x y z : Str} {px py pz pt pt2 : Pos} {a b c : Expr} {kt k2} (hb : env.blockKind = .function) (kx : env.kindOf x = some .local) (ky : env.kindOf y = some .local) (kz : env.kindOf z = some .local) (hl : (py.line == px.line) = true) (hl3 : (pz.line == px.line) = true) (hxy : (y == x) = false) (hxz : (z == x) = false) (hyz : (z == y) = false) (hf : ([a, b, c].all (foldedForSure 8)) = false) (hc : ([a, b, c].all (constantsAlone 8)) = false) (hs : ([a, b, c].any isStar) = false) :
    swappedStores [.Tuple [.Name x px, .Name y py, .Name z pz] kt pt] (.Tuple [a, b, c] k2 pt2) env = pure (some [x, y, z]) := by
  have e1 : ([x, y, z] : List Str).eraseDups.length = 3 := by
    simp [List.eraseDups_cons, hxy, hxz, hyz]
  have hl2 := eq_of_beq hl
  have hl4 := eq_of_beq hl3
  unfold swappedStores
  simp only [hf, hc]
  split
  · rename_i h
    exact absurd h (by simp [hb])
  · split
    · rename_i h
      have h2 : ([a, b, c].any isStar) = true := h
      rw [hs] at h2
      cases h2
    · split
      · rename_i h
        revert h
        simp [kx, ky, kz, Expr.pos, hl2, hl4, e1]
      · simp [kx, ky, kz, Expr.pos, hl2, hl4]
theorem sw_fold {env : Env} {ts vs : List Expr} {pt pt2 : Pos} {kt k2} (hf : (vs.all (foldedForSure 8)) = true) :
    swappedStores [.Tuple ts kt pt] (.Tuple vs k2 pt2) env = pure none := by
  unfold swappedStores
  simp only [hf]
  split
  · rfl
  · split
    · rfl
    · split
      · rfl
      · rfl
/-- one of two is no local -/
theorem sw_cell2 {env : Env} {x y : Str} {px py pt pt2 : Pos} {vs : List Expr} {kt k2} (h : (env.kindOf x == some .local) = false ∨ (env.kindOf y == some .local) = false) :
    swappedStores [.Tuple [.Name x px, .Name y py] kt pt] (.Tuple vs k2 pt2) env = pure none := by
  unfold swappedStores
  simp only []
  split
  · rfl
  · split
    · rfl
    · split
      · rfl
      · rename_i h3
        exfalso
        apply h3
        rw [Bool.or_eq_true]
        left
        simp only [List.filterMap_cons, List.filterMap_nil]
        rcases h with h | h <;> simp only [h, Bool.false_and] <;> split <;> simp_all <;> (try (split <;> simp_all))
/-! ### the same rules, their names' facts given -/
structure Var (tb : List (Str × Nat)) (names : List (Str × NameKind)) (x : Str) (i : Nat) : Prop where
  look : tb.lookup x = some i
  vis : (plainName x && visB (names.lookup x)) = true
structure Stv (tb : List (Str × Nat)) (names : List (Str × NameKind)) (x : Str) (i : Nat) : Prop where
  look : tb.lookup x = some i
  st : stB (names.lookup x) = true
structure Lcv (tb : List (Str × Nat)) (names : List (Str × NameKind)) (x : Str) (i : Nat) : Prop where
  look : tb.lookup x = some i
  lc : locB names x = true
structure Glo (names : List (Str × NameKind)) (x : Str) : Prop where
  g : glB names x = true
def varB (tb : List (Str × Nat)) (names : List (Str × NameKind)) (x : Str) (i : Nat) : Bool := decide (tb.lookup x = some i) && (plainName x && visB (names.lookup x))
def stvB (tb : List (Str × Nat)) (names : List (Str × NameKind)) (x : Str) (i : Nat) : Bool := decide (tb.lookup x = some i) && stB (names.lookup x)
def lcvB (tb : List (Str × Nat)) (names : List (Str × NameKind)) (x : Str) (i : Nat) : Bool := decide (tb.lookup x = some i) && locB names x
section
variable {X : Cx} {ρ : Ro} {S : Sto} {Φ : D → Sto → Prop} {P : Program} {w : World} {K : PySem.W.Frag} {mg : Str → Option Value} {base : Heap} {tb : List (Str × Nat)} {names : List (Str × NameKind)} {k : Nat} {pos p px py pz pt spos : Pos} {e e2 : Expr} {es : List Expr} {x y z : Str} {i j l : Nat} {E : DEnds}
theorem At.var (A : At X P w K mg base tb names k) (x : Str) (i : Nat) (h : varB tb names x i = true) : Var tb names x i := by
  unfold varB at h
  rw [Bool.and_eq_true] at h
  exact ⟨of_decide_eq_true h.1, h.2⟩
theorem At.stv (A : At X P w K mg base tb names k) (x : Str) (i : Nat) (h : stvB tb names x i = true) : Stv tb names x i := by
  unfold stvB at h
  rw [Bool.and_eq_true] at h
  exact ⟨of_decide_eq_true h.1, h.2⟩
theorem At.lcv (A : At X P w K mg base tb names k) (x : Str) (i : Nat) (h : lcvB tb names x i = true) : Lcv tb names x i := by
  unfold lcvB at h
  rw [Bool.and_eq_true] at h
  exact ⟨of_decide_eq_true h.1, h.2⟩
theorem At.glo (A : At X P w K mg base tb names k) (x : Str) (h : glB names x = true) : Glo names x := ⟨h⟩
theorem vName (A : At X P w K mg base tb names k) (v : Var tb names x i) (h : ∃ d, ρ[i]? = some (some d) ∧ Φ d S) : DE X (.Name x pos) ρ S Φ := by
  obtain ⟨d, h, q⟩ := h
  exact de_name A ⟨i, d, v.look, v.vis, h, q⟩
theorem vSet (A : At X P w K mg base tb names k) (v : Stv tb names x i) (hs : swapsWith e (some (.Name x p)) pos.line X.env = pure false) (h : DE X e ρ S fun d S1 => Nx E (ρ.set i (some d)) S1) : DS X (.Assign [.Name x p] e pos) ρ S E := ds_set A hs ⟨i, v.look, v.st, h⟩
theorem vCell (A : At X P w K mg base tb names k) (v : Stv tb names x i) (hs : swapsWith e (some (.Name x p)) pos.line X.env = pure false) (h : DN X e ρ S fun l S1 => ∀ c, Nx E (ρ.set i (some (.cell c))) (S1 ++ [(c, l)])) : DS X (.Assign [.Name x p] e pos) ρ S E := ds_setCell A hs ⟨i, v.look, v.st, h⟩
theorem At.bk (A : At X P w K mg base tb names k) : X.env.blockKind = .function := by
  unfold Env.blockKind
  rw [A.kind]
  rfl
def par2B (px py : Pos) (x y : Str) (a b : Expr) : Bool := (py.line == px.line) && !(y == x) && !([a, b].all (foldedForSure 8)) && !([a, b].all (constantsAlone 8)) && !([a, b].any isStar)
def par3B (px py pz : Pos) (x y z : Str) (a b c : Expr) : Bool := (py.line == px.line) && (pz.line == px.line) && !(y == x) && !(z == x) && !(z == y) && !([a, b, c].all (foldedForSure 8)) && !([a, b, c].all (constantsAlone 8)) && !([a, b, c].any isStar)
theorem vPar {a b : Expr} {kt k2 pt2} (A : At X P w K mg base tb names k) (v : Lcv tb names x i) (u : Lcv tb names y j) (hp : par2B px py x y a b = true)
    (hs : swapsWithSole [.Tuple [.Name x px, .Name y py] kt pt] (.Tuple [a, b] k2 pt2) pos.line X.env = pure false) (hij : Nat.beq i j = false)
    (h : DA X [a, b] ρ S fun ds S1 => ∃ c d, ds = [c, d] ∧ Nx E ((ρ.set i (some c)).set j (some d)) S1) : DS X (.Assign [.Tuple [.Name x px, .Name y py] kt pt] (.Tuple [a, b] k2 pt2) pos) ρ S E := by
  unfold par2B at hp
  simp only [Bool.and_eq_true, Bool.not_eq_true'] at hp
  obtain ⟨⟨⟨⟨h1, h2⟩, h3⟩, h4⟩, h5⟩ := hp
  exact ds_par A (sw_some2 A.bk (A.loc _ (locB_of v.lc)) (A.loc _ (locB_of u.lc)) h1 h2 h3 h4 h5) hs ⟨i, j, v.look, u.look, hij, by rw [v.lc, u.lc]; rfl, h⟩
theorem vPar3 {a b c : Expr} {kt k2 pt2} (A : At X P w K mg base tb names k) (v : Lcv tb names x i) (u : Lcv tb names y j) (t : Lcv tb names z l) (hp : par3B px py pz x y z a b c = true)
    (hs : swapsWithSole [.Tuple [.Name x px, .Name y py, .Name z pz] kt pt] (.Tuple [a, b, c] k2 pt2) pos.line X.env = pure false) (hij : Nat.beq i j = false ∧ Nat.beq i l = false ∧ Nat.beq j l = false)
    (h : DA X [a, b, c] ρ S fun ds S1 => ∃ a b c, ds = [a, b, c] ∧ Nx E (((ρ.set i (some a)).set j (some b)).set l (some c)) S1) : DS X (.Assign [.Tuple [.Name x px, .Name y py, .Name z pz] kt pt] (.Tuple [a, b, c] k2 pt2) pos) ρ S E := by
  unfold par3B at hp
  simp only [Bool.and_eq_true, Bool.not_eq_true'] at hp
  obtain ⟨⟨⟨⟨⟨⟨⟨h1, h2⟩, h3⟩, h4⟩, h5⟩, h6⟩, h7⟩, h8⟩ := hp
  exact ds_par3 A (sw_some3 A.bk (A.loc _ (locB_of v.lc)) (A.loc _ (locB_of u.lc)) (A.loc _ (locB_of t.lc)) h1 h2 h3 h4 h5 h6 h7 h8) hs ⟨i, j, l, v.look, u.look, t.look, hij, by rw [v.lc, u.lc, t.lc]; rfl, h⟩
/-- constants alone -/
theorem vAsgF {ts vs : List Expr} {kt k2 pt2} (hf : (vs.all (foldedForSure 8)) = true) (hs : swapsWithSole [.Tuple ts kt pt] (.Tuple vs k2 pt2) pos.line X.env = pure false) (h1 : (assignEach [.Tuple ts kt pt] X.env).map (·.2) = [assign (.Tuple ts kt pt) X.env])
    (h : DE X (.Tuple vs k2 pt2) ρ S fun d S1 => DG X (fun _ => true) (.Tuple ts kt pt) d ρ S1 E.nx) : DS X (.Assign [.Tuple ts kt pt] (.Tuple vs k2 pt2) pos) ρ S E := ds_asg hs (sw_fold hf) h1 h
/-- one of two targets is a cell of the def -/
theorem vAsgC {vs : List Expr} {kt k2 pt2} (A : At X P w K mg base tb names k) (hc : (cfB (names.lookup x) || cfB (names.lookup y)) = true) (hs : swapsWithSole [.Tuple [.Name x px, .Name y py] kt pt] (.Tuple vs k2 pt2) pos.line X.env = pure false) (h1 : (assignEach [.Tuple [.Name x px, .Name y py] kt pt] X.env).map (·.2) = [assign (.Tuple [.Name x px, .Name y py] kt pt) X.env])
    (h : DE X (.Tuple vs k2 pt2) ρ S fun d S1 => DG X (fun _ => true) (.Tuple [.Name x px, .Name y py] kt pt) d ρ S1 E.nx) : DS X (.Assign [.Tuple [.Name x px, .Name y py] kt pt] (.Tuple vs k2 pt2) pos) ρ S E := by
  have no : ∀ z, cfB (names.lookup z) = true → (X.env.kindOf z == some .local) = false := fun z hz => by
    rcases A.cf z hz with q | q
    · show (X.env.scope.names.lookup z == some .local) = false
      rw [q]
      rfl
    · show (X.env.scope.names.lookup z == some .local) = false
      rw [q]
      rfl
  rw [Bool.or_eq_true] at hc
  exact ds_asg hs (sw_cell2 (hc.imp (no x) (no y))) h1 h
theorem vG {ok : Nat → Bool} {d : D} {Φ : Ro → Sto → Prop} (A : At X P w K mg base tb names k) (v : Stv tb names x i) (hok : ok i = true) (h : NxG Φ (ρ.set i (some d)) S) : DG X ok (.Name x pos) d ρ S Φ := dg_name A ⟨i, v.look, by rw [v.st, hok]; rfl, h⟩
theorem vAug {op : Operator} (A : At X P w K mg base tb names k) (v : Stv tb names x i) (h : ∃ d, ρ[i]? = some (some d) ∧ DE X e ρ S fun c S1 => DO X (inplaceOp op) d c S1 fun r S2 => Nx E (ρ.set i (some r)) S2) : DS X (.AugAssign (.Name x p) op e pos) ρ S E := by
  obtain ⟨d, h1, h2⟩ := h
  exact ds_aug A ⟨i, d, v.look, v.st, h1, h2⟩
theorem vSetLc {scope : Scope} {own : List (Str × Nat)} {tg iter elt : Expr} {ifs : List Expr} (A : At X P w K mg base tb names k) (v : Lcv tb names y i) (hk : scope.kind = .function) (hb : blkD tb names scope.names own = true) (hs : ∀ x, foldedSetIterable iter X.env x = pure x)
    (hl : (py.line == pos.line) = true) (ha : (scope.names.any fun (n, k) => n == y && (k == .local || k == .cell)) = false)
    (h : DI X tg iter ρ S fun ds S1 => ds.length ≤ sizeLine ∧ LcN X scope (okOf own) tg ifs elt ds (wipeR ρ (own.map (·.2))) S1 fun d S2 => Nx E (ρ.set i (some d)) S2) : DS X (.Assign [.Name y py] (.ListComp elt [⟨tg, iter, ifs, 0⟩] scope pos) spos) ρ S E :=
  ds_setLc A hk hb hs hl ha v.lc ⟨i, v.look, h⟩
theorem vCall {n j : Nat} {B : Spec} (A : At X P w K mg base tb names k) (F : Fn P w K mg base x n j B) (g : Glo names x) (hc : (Nat.ble j k && Nat.beq (e :: es).length n) = true)
    (he : starEach (e :: es) X.env = (false, eval e X.env) :: starEach es X.env) (hpl : (backTo pos (starEach es X.env)).any (·.1) = false)
    (h : DA X (e :: es) ρ S fun ds S1 => B ds S1 Φ) : DE X (.Call (.Name x p) (e :: es) [] pos) ρ S Φ := de_call A F (by rw [hc, g.g]; rfl) he hpl h
theorem vNCall {n j : Nat} {B : SpecN} {Φ : List D → Sto → Prop} (A : At X P w K mg base tb names k) (F : FnN P w K mg base x n j B) (g : Glo names x) (hc : (Nat.ble j k && Nat.beq (e :: es).length n) = true)
    (he : starEach (e :: es) X.env = (false, eval e X.env) :: starEach es X.env) (hpl : (backTo pos (starEach es X.env)).any (·.1) = false)
    (h : DA X (e :: es) ρ S fun ds S1 => B ds S1 Φ) : DN X (.Call (.Name x p) (e :: es) [] pos) ρ S Φ := dn_call A F (by rw [hc, g.g]; rfl) he hpl h
theorem vIsi {T : String} {f : D → Bool} (A : At X P w K mg base tb names k) (G : NoB mg) (t : TyG x T f) (g : Glo names x) (g2 : Glo names "isinstance")
    (he : starEach [e, .Name x px] X.env = (false, eval e X.env) :: starEach [.Name x px] X.env)
    (h : DE X e ρ S fun d S1 => OkC S1 d ∧ Φ (.bl (f d)) S1) : DE X (.Call (.Name "isinstance" p) [e, .Name x px] [] pos) ρ S Φ := de_isi A G t (by rw [g.g, g2.g]; rfl) he h
theorem vIsi2 {T T2 : String} {f f2 : D → Bool} {x2 : Str} {px2 : Pos} {kk} (A : At X P w K mg base tb names k) (G : NoB mg) (t : TyG x T f) (t' : TyG x2 T2 f2) (g : Glo names x) (g2 : Glo names "isinstance") (g3 : Glo names x2)
    (he : starEach [e, .Tuple [.Name x px, .Name x2 px2] kk pt] X.env = (false, eval e X.env) :: starEach [.Tuple [.Name x px, .Name x2 px2] kk pt] X.env)
    (h : DE X e ρ S fun d S1 => OkC S1 d ∧ Φ (.bl (f d || f2 d)) S1) : DE X (.Call (.Name "isinstance" p) [e, .Tuple [.Name x px, .Name x2 px2] kk pt] [] pos) ρ S Φ := de_isi2 A G t t' (by rw [g.g, g2.g, g3.g]; rfl) he h
/-- [elt for x in iter], nothing else changed -/
theorem vLc {scope : Scope} {own : List (Str × Nat)} {tg iter elt : Expr} {ifs : List Expr} (A : At X P w K mg base tb names k) (hk : scope.kind = .function) (hb : blkD tb names scope.names own = true) (hs : ∀ x, foldedSetIterable iter X.env x = pure x)
    (h : DI X tg iter ρ S fun ds S1 => ds.length ≤ sizeLine ∧ LcN X scope (okOf own) tg ifs elt ds (wipeR ρ (own.map (·.2))) S1 Φ) : DE X (.ListComp elt [⟨tg, iter, ifs, 0⟩] scope pos) ρ S Φ := de_lc A hk hb hs h
end
end Ar
namespace Ar
open PySem PySem.Spec PyProof.Rows L2
/-! ### contracts by data, of the package's functions -/
abbrev t3 (x y z : Int) : D := .tup [.int x, .int y, .int z]
/-- what a law's file needs of a def -/
def Has (K : PySem.W.Frag) (mg : Str → Option Value) (x : Str) (st : Stmt) (ps : List Str) : Prop := ∃ f fd, Fun K x x st f fd ∧ mg x = some (.ref f) ∧ Binds K fd ps []
theorem Has.fn {P : Program} {w : World} {K : PySem.W.Frag} {mg : Str → Option Value} {base : Heap} {tb : List (Str × Nat)} {x : Str} {st : Stmt} {N ps : List Str} {k n : Nat} {names : List (Str × NameKind)} {B : Spec} (F : Has K mg x st ps) (Sc : FnScope N ps (defScope st)) (hn : ps.length = n) (hnm : (defScope st).names = names) (ht : tbOk N tb = true)
    (body : ∀ X, At X P w K mg base tb names k → ∀ ds S Φ, ds.length = n → B ds S Φ → DSs X (defBody st) (ds.map some ++ List.replicate (N.length - ds.length) none) S { nx := fun _ S' => RetP S Φ .non S', rt := RetP S Φ }) : Fn P w K mg base x n (k + 1) B := by
  obtain ⟨f, fd, F, hm, hb⟩ := F
  exact fn_data F Sc hn hnm ht hm hb body
theorem Has.fnN {P : Program} {w : World} {K : PySem.W.Frag} {mg : Str → Option Value} {base : Heap} {tb : List (Str × Nat)} {x : Str} {st : Stmt} {N ps : List Str} {k n : Nat} {names : List (Str × NameKind)} {B : SpecN} (F : Has K mg x st ps) (Sc : FnScope N ps (defScope st)) (hn : ps.length = n) (hnm : (defScope st).names = names) (ht : tbOk N tb = true)
    (body : ∀ X, At X P w K mg base tb names k → ∀ ds S Φ, ds.length = n → B ds S Φ → DSs X (defBody st) (ds.map some ++ List.replicate (N.length - ds.length) none) S { nx := fun _ _ => False, rt := RetC S Φ }) : FnN P w K mg base x n (k + 1) B := by
  obtain ⟨f, fd, F, hm, hb⟩ := F
  exact fnN_data F Sc hn hnm ht hm hb body
theorem dss_norm {X : Cx} {st : List Stmt} {ρ ρ' : Ro} {S : Sto} {E : DEnds} (e : ρ = ρ') (h : DSs X st ρ' S E) : DSs X st ρ S E := by
  rw [e]
  exact h
theorem asg_list {X : Cx} {x : Str} {p q pos : Pos} {es : List Expr} {ρ : Ro} {S : Sto} {E : DEnds} (h : DS X (.Assign [.Name x p] (.List es q) pos) ρ S E) : DS X (.Assign [.Name x p] (.List es q) pos) ρ S E := h

theorem ble_self (n : Nat) : Nat.ble n n = true := Nat.ble_eq.mpr (Nat.le_refl n)
section
variable {X : Cx} {ρ : Ro} {S : Sto}
theorem de_norm {ρ' : Ro} {e : Expr} {Φ : D → Sto → Prop} (q : ρ = ρ') (h : DE X e ρ' S Φ) : DE X e ρ S Φ := by
  rw [q]
  exact h
theorem dg_norm {ρ' : Ro} {ok : Nat → Bool} {e : Expr} {d : D} {Φ : Ro → Sto → Prop} (q : ρ = ρ') (h : DG X ok e d ρ' S Φ) : DG X ok e d ρ S Φ := by
  rw [q]
  exact h
theorem de_id {e : Expr} {Φ : D → Sto → Prop} (h : DE X e ρ S Φ) : DE X e ρ S Φ := h
theorem de_callId {f : Expr} {es : List Expr} {ks pos} {Φ : D → Sto → Prop} (h : DE X (.Call f es ks pos) ρ S Φ) : DE X (.Call f es ks pos) ρ S Φ := h
theorem do_id {f : Value → Value → Sem Value} {a b : D} {Φ : D → Sto → Prop} (h : DO X f a b S Φ) : DO X f a b S Φ := h
theorem dt_id {e : Expr} {Φ : Bool → Sto → Prop} (h : DT X e ρ S Φ) : DT X e ρ S Φ := h
theorem dw_id {e : Expr} {Φ : Bool → Sto → Prop} (h : DW X e ρ S Φ) : DW X e ρ S Φ := h
theorem ds_id {st : Stmt} {E : DEnds} (h : DS X st ρ S E) : DS X st ρ S E := h
theorem dg_id {ok : Nat → Bool} {e : Expr} {d : D} {Φ : Ro → Sto → Prop} (h : DG X ok e d ρ S Φ) : DG X ok e d ρ S Φ := h
end
theorem okc_and {S : Sto} {d : D} {A : Prop} (h : OkC S d) (q : A) : OkC S d ∧ A := ⟨h, q⟩
def isNumB : D → Bool
  | .int _ => true
  | .rng _ _ => true
  | _ => false
def isTupB : D → Bool
  | .tup _ => true
  | _ => false
def isLongB : D → Int → Bool
  | .tup l, n => decide ((l.length : Int) = n)
  | _, _ => false
def areNumB : D → Bool
  | .tup l => l.all isNumB
  | _ => false
def isTripB (d : D) : Bool := isLongB d 3 && areNumB d
mutual
/-- lists as tuples, at every depth -/
def nrm : D → D
  | .tup l => .tup (nrmL l)
  | .lst l => .tup (nrmL l)
  | .frz l => .tup (nrmL l)
  | d => d
def nrmL : List D → List D
  | [] => []
  | d :: l => nrm d :: nrmL l
end
mutual
/-- of depth at most n, rows within the line, no cells -/
def fitD : Nat → D → Bool
  | n + 1, .tup l => Nat.ble l.length sizeLine && fitL n l
  | n + 1, .lst l => Nat.ble l.length sizeLine && fitL n l
  | n + 1, .frz l => Nat.ble l.length sizeLine && fitL n l
  | 0, .tup _ => false
  | 0, .lst _ => false
  | 0, .frz _ => false
  | _, .cell _ => false
  | _, .dct _ _ => false
  | _, .rng _ _ => false
  | _, _ => true
def fitL : Nat → List D → Bool
  | _, [] => true
  | n, d :: l => fitD n d && fitL n l
end
def cIsNumber : Spec := fun ds S Φ => ∃ d, ds = [d] ∧ OkC S d ∧ Φ (.bl (isNumB d)) S
theorem cIsNumber_i {d : D} {S : Sto} {Φ} (h : OkC S d) (q : Φ (.bl (isNumB d)) S) : cIsNumber [d] S Φ := ⟨d, rfl, h, q⟩
def cIsLong : Spec := fun ds S Φ => ∃ d n, ds = [d, .int n] ∧ OkC S d ∧ Φ (.bl (isLongB d n)) S
theorem cIsLong_i {d : D} {n : Int} {S : Sto} {Φ} (h : OkC S d) (q : Φ (.bl (isLongB d n)) S) : cIsLong [d, .int n] S Φ := ⟨d, n, rfl, h, q⟩
/-! loops and comprehensions -/
/-- a statement that is not opened -/
inductive Box (A : Prop) : Prop where
  | mk (h : A) : Box A
  | mk2 (h : A) : Box A
theorem Box.get {A : Prop} : Box A → A
  | .mk h => h
  | .mk2 h => h
structure RngOk (i : Int) : Prop where
  lo : -(2 ^ 62) ≤ i
  hi : i < 2 ^ 62
section
variable {X : Cx} {ρ : Ro} {S : Sto} {P : Program} {w : World} {K : PySem.W.Frag} {mg : Str → Option Value} {base : Heap} {tb : List (Str × Nat)} {names : List (Str × NameKind)} {k : Nat} {pos p tpos : Pos}
theorem for_ind {tg : Expr} {body : List Stmt} {E : DEnds} (I : List D → Ro → Sto → Prop) (step : ∀ d ds ρ S, I (d :: ds) ρ S → DG X (fun _ => true) tg d ρ S fun ρ1 S1 => DSs X body ρ1 S1 { nx := fun r s => Box (I ds r s), rt := E.rt, bk := E.nx, ct := fun r s => Box (I ds r s) }) (fin : ∀ ρ S, I [] ρ S → E.nx ρ S) : ∀ {ds : List D} {ρ : Ro} {S : Sto}, I ds ρ S → ForD X tg body ds ρ S E
  | [], ρ, S, h => fin ρ S h
  | d :: ds, ρ, S, h => fun Zh pins s σ H v u Q I' ev r rv k => step d ds ρ S h Zh pins s σ H v u Q I' ev r rv fun σ' H' ρ' S' a b c e f q => k σ' H' ρ' S' a b c e f (q.mono (fun _ _ z => for_ind I step fin z.get) (fun _ _ z => z) (fun _ _ z => z) (fun _ _ z => for_ind I step fin z.get))
theorem lc_ind {b : Bl} {ok : Nat → Bool} {tg elt : Expr} {Φ : D → Sto → Prop} (I : List D → Sto → List D → Prop) (step : ∀ d ds S acc, I (d :: ds) S acc → ∀ X', b X' → DG X' ok tg d ρ S fun ρ2 S2 => Box (∀ X', b X' → DE X' elt ρ2 S2 fun y S4 => Box (I ds S4 (acc ++ [y])))) (fin : ∀ S acc, I [] S acc → Φ (.lst acc) S) : ∀ {ds : List D} {S : Sto} {acc : List D}, I ds S acc → LcD b ok tg [] elt ds ρ S acc Φ
  | [], S, acc, h => fin S acc h
  | d :: ds, S, acc, h => lc_cons fun X' hX => fun Zh pins s σ H v u Q I' ev r rv k => step d ds S acc h X' hX Zh pins s σ H v u Q I' ev r rv fun σ' H' ρ' S' a b c e f q => k σ' H' ρ' S' a b c e f fun X2 hX2 => (q.get X2 hX2).mono fun y S4 z => lc_ind I step fin z.get
theorem lc_mapN {scope : Scope} {own : List (Str × Nat)} {x : Str} {elt : Expr} {i : Nat} {f : D → D} {Φ : D → Sto → Prop} {ds : List D} (A : At X P w K mg base tb names k) (hk : scope.kind = .function) (hx : tb.lookup x = some i) (hv : (stB (scope.names.lookup x) && okOf own i) = true)
    (h : ∀ d, d ∈ ds → ∀ X', At X' P w K mg base tb scope.names k → ∀ Ξ : D → Sto → Prop, Ξ (f d) S → DE X' elt (ρ.set i (some d)) S Ξ) (q : Φ (.lst (ds.map f)) S) : LcD (blks X scope) (okOf own) (.Name x p) [] elt ds ρ S [] Φ :=
  lc_map (f := f) (fun d hd X' hX Ψ hΨ => dg_name (A.blk hk hX) ⟨i, hx, hv, hΨ _ fun X2 hX2 Ξ hΞ => h d hd X2 (A.blk hk hX2) Ξ hΞ⟩) q
theorem lc_mapP {scope : Scope} {own : List (Str × Nat)} {x y : Str} {px py : Pos} {kk : Nat} {elt : Expr} {i j : Nat} {f : D → D} {Φ : D → Sto → Prop} {ds : List D} (A : At X P w K mg base tb names k) (hk : scope.kind = .function) (hx : tb.lookup x = some i) (hv : (stB (scope.names.lookup x) && okOf own i) = true)
    (hy : tb.lookup y = some j) (hw : (stB (scope.names.lookup y) && okOf own j) = true)
    (h : ∀ d, d ∈ ds → ∃ a b, d = .tup [a, b] ∧ ∀ X', At X' P w K mg base tb scope.names k → ∀ Ξ : D → Sto → Prop, Ξ (f d) S → DE X' elt ((ρ.set i (some a)).set j (some b)) S Ξ) (q : Φ (.lst (ds.map f)) S) : LcD (blks X scope) (okOf own) (.Tuple [.Name x px, .Name y py] kk p) [] elt ds ρ S [] Φ :=
  lc_map (f := f) (fun d hd X' hX Ψ hΨ => by
    obtain ⟨a, b, rfl, h⟩ := h d hd
    have A' := A.blk hk hX
    refine dg_tup (n := 2) A' rfl rfl ⟨_, rfl, rfl, dgs_cons rfl (dg_name A' ⟨i, hx, hv, ?_⟩)⟩
    refine dgs_cons rfl (dg_name A' ⟨j, hy, hw, dgs_nil ?_⟩)
    exact hΨ _ fun X2 hX2 Ξ hΞ => h X2 (A.blk hk hX2) Ξ hΞ) q
/-- [elt for x in iter], nothing else changed -/
theorem de_lcN {scope : Scope} {own : List (Str × Nat)} {x : Str} {iter elt : Expr} {Φ : D → Sto → Prop} (i : Nat) (f : D → D) (A : At X P w K mg base tb names k) (hk : scope.kind = .function) (hb : blkD tb names scope.names own = true) (hs : ∀ x, foldedSetIterable iter X.env x = pure x) (hx : tb.lookup x = some i) (hv : (stB (scope.names.lookup x) && okOf own i) = true)
    (h : DI X (.Name x p) iter ρ S fun ds S1 => ds.length ≤ sizeLine ∧ (∀ d, d ∈ ds → ∀ X', At X' P w K mg base tb scope.names k → ∀ Ξ : D → Sto → Prop, Ξ (f d) S1 → DE X' elt ((wipeR ρ (own.map (·.2))).set i (some d)) S1 Ξ) ∧ Φ (.lst (ds.map f)) S1) : DE X (.ListComp elt [⟨.Name x p, iter, [], 0⟩] scope pos) ρ S Φ :=
  de_lc (own := own) A hk hb hs (DI.mono h fun ds S1 ⟨h1, h2, h3⟩ => ⟨h1, lc_mapN A hk hx hv h2 h3⟩)
theorem de_lcP {scope : Scope} {own : List (Str × Nat)} {x y : Str} {px py : Pos} {kk : Nat} {iter elt : Expr} {Φ : D → Sto → Prop} (i j : Nat) (f : D → D) (A : At X P w K mg base tb names k) (hk : scope.kind = .function) (hb : blkD tb names scope.names own = true) (hs : ∀ x, foldedSetIterable iter X.env x = pure x) (hx : tb.lookup x = some i) (hv : (stB (scope.names.lookup x) && okOf own i) = true)
    (hy : tb.lookup y = some j) (hw : (stB (scope.names.lookup y) && okOf own j) = true)
    (h : DI X (.Tuple [.Name x px, .Name y py] kk p) iter ρ S fun ds S1 => ds.length ≤ sizeLine ∧ (∀ d, d ∈ ds → ∃ a b, d = .tup [a, b] ∧ ∀ X', At X' P w K mg base tb scope.names k → ∀ Ξ : D → Sto → Prop, Ξ (f d) S1 → DE X' elt (((wipeR ρ (own.map (·.2))).set i (some a)).set j (some b)) S1 Ξ) ∧ Φ (.lst (ds.map f)) S1) : DE X (.ListComp elt [⟨.Tuple [.Name x px, .Name y py] kk p, iter, [], 0⟩] scope pos) ρ S Φ :=
  de_lc (own := own) A hk hb hs (DI.mono h fun ds S1 ⟨h1, h2, h3⟩ => ⟨h1, lc_mapP A hk hx hv hy hw h2 h3⟩)
theorem vRange1 {e tg : Expr} {Φ : List D → Sto → Prop} (A : At X P w K mg base tb names k) (G : NoB mg) (g : Glo names "range") (hs : starEach [e] X.env = [(false, eval e X.env)]) (h : DE X e ρ S fun d S1 => ∃ i, d = .int i ∧ RngOk i ∧ Φ (rangeD 0 i.toNat) S1) : DI X tg (.Call (.Name "range" p) [e] [] pos) ρ S Φ :=
  di_range1 A (G.no _ rfl) g.g hs (h.mono fun d S1 ⟨i, e, r, q⟩ => ⟨i, e, ⟨r.lo, r.hi⟩, q⟩) hs
theorem vRange2 {e e2 tg : Expr} {Φ : List D → Sto → Prop} (A : At X P w K mg base tb names k) (G : NoB mg) (g : Glo names "range") (hs : starEach [e, e2] X.env = [(false, eval e X.env), (false, eval e2 X.env)]) (hs2 : starEach [e2] X.env = [(false, eval e2 X.env)])
    (hs3 : starEach (e :: [e2]) X.env = (false, eval e X.env) :: starEach [e2] X.env) (h : DE X e ρ S fun d S1 => DE X e2 ρ S1 fun c S2 => ∃ i j, d = .int i ∧ c = .int j ∧ RngOk i ∧ RngOk j ∧ Φ (rangeD i (j - i).toNat) S2) : DI X tg (.Call (.Name "range" p) [e, e2] [] pos) ρ S Φ :=
  di_range2 A (G.no _ rfl) g.g hs hs2 hs3 hs2 (h.mono fun d S1 h => h.mono fun c S2 ⟨i, j, e1, e2, r1, r2, q⟩ => ⟨i, j, e1, e2, ⟨r1.lo, r1.hi, r2.lo, r2.hi⟩, q⟩)
theorem rng_and {i : Int} {B : Prop} (h : RngOk i) (q : B) : RngOk i ∧ B := ⟨h, q⟩
theorem bls_map {f : D → Bool} {l : List D} : l.map (fun d => D.bl (f d)) = (l.map f).map D.bl := by
  rw [List.map_map]
  rfl
theorem plain_ok {d : D} (h : plainD d = true) : OkC S d := by
  cases d with
  | cell p => unfold plainD at h; cases h
  | _ => exact trivial
theorem plain_in {l : List D} (h : plainL l = true) : ∀ d, d ∈ l → plainD d = true := fun d hd => by
  induction l with
  | nil => cases hd
  | cons c l ih =>
    unfold plainL at h
    rw [Bool.and_eq_true] at h
    rcases List.mem_cons.mp hd with e | e
    · rw [e]; exact h.1
    · exact ih h.2 e
theorem plain_tup {l : List D} (h : plainD (.tup l) = true) : l.length ≤ sizeLine ∧ plainL l = true := by
  unfold plainD at h
  rw [Bool.and_eq_true] at h
  exact ⟨Nat.le_of_ble_eq_true h.1, h.2⟩
end
theorem fit_in {n : Nat} {l : List D} (h : fitL n l = true) : ∀ d, d ∈ l → fitD n d = true := fun d hd => by
  induction l with
  | nil => cases hd
  | cons c l ih =>
    unfold fitL at h
    rw [Bool.and_eq_true] at h
    rcases List.mem_cons.mp hd with e | e
    · rw [e]; exact h.1
    · exact ih h.2 e
theorem nrmL_map : ∀ {l : List D}, nrmL l = l.map nrm
  | [] => by unfold nrmL; rfl
  | d :: l => by unfold nrmL; rw [List.map_cons, nrmL_map]
def cTupled (n : Nat) : Spec := fun ds S Φ => ∃ d, ds = [d] ∧ fitD n d = true ∧ Φ (nrm d) S
theorem cTupled_i {n : Nat} {d : D} {S : Sto} {Φ} (h : fitD n d = true) (q : Φ (nrm d) S) : cTupled n [d] S Φ := ⟨d, rfl, h, q⟩
def cPlain1 (f : D → D) : Spec := fun ds S Φ => ∃ d, ds = [d] ∧ plainD d = true ∧ Φ (f d) S
theorem cPlain1_i {f : D → D} {d : D} {S : Sto} {Φ} (h : plainD d = true) (q : Φ (f d) S) : cPlain1 f [d] S Φ := ⟨d, rfl, h, q⟩
def cRowOf : Spec := fun ds S Φ => ∃ d n, ds = [d, .int n, .non] ∧ plainD d = true ∧ Φ (.bl (isLongB d n && areNumB d)) S
theorem cRowOf_i {d : D} {n : Int} {S : Sto} {Φ} (h : plainD d = true) (q : Φ (.bl (isLongB d n && areNumB d)) S) : cRowOf [d, .int n, .non] S Φ := ⟨d, n, rfl, h, q⟩
/-- an argument that is a deed, as it is or with a list in the tuple's place -/
def IsDeed (d : D) (x y z : Int) : Prop := d = t3 x y z
def cSureDeed : Spec := fun ds S Φ => ∃ x y z, ds = [t3 x y z] ∧ Φ (t3 x y z) S
theorem cSureDeed_i {x y z : Int} {S : Sto} {Φ} (q : Φ (t3 x y z) S) : cSureDeed [t3 x y z] S Φ := ⟨x, y, z, rfl, q⟩
def cSureNumber : Spec := fun ds S Φ => ∃ x, ds = [.int x] ∧ Φ (.int x) S
theorem cSureNumber_i {x : Int} {S : Sto} {Φ} (q : Φ (.int x) S) : cSureNumber [.int x] S Φ := ⟨x, rfl, q⟩
/-! deeds -/
abbrev fJoin (x y z p q s : Int) : D := t3 (x + p) (y + q) (z + s + x * q)
abbrev fUndo (x y z : Int) : D := t3 (-x) (-y) (x * y - z)
abbrev fTimes (x y z k : Int) : D := t3 (k * x) (k * y) (k * z + k * (k - 1) / 2 * x * y)
abbrev fCross (x y _z p q _s : Int) : D := .int (x * q - y * p)
abbrev fTrip (x y _z p q _s : Int) : D := t3 0 0 (x * q - y * p)
abbrev fLed (x y z p q _s : Int) : D := t3 x y (z + (p * y - q * x))
abbrev fSteps (x y z p q s : Int) : D := t3 (-x + p) (-y + q) (x * y - z + s + -x * q)
abbrev fTilt (x y z : Int) : D := .int (2 * z - x * y)
abbrev fMir (x y z : Int) : D := t3 (-x) y (-z)
abbrev fRead (x y z : Int) : D := t3 x y (x * y - z)
def cD1 (N : Nat) (f : Int → Int → Int → D) : Spec := fun ds S Φ => ∃ x y z, ds = [t3 x y z] ∧ (Bd N x ∧ Bd N y ∧ Bd N z) ∧ Φ (f x y z) S
theorem cD1_i {N : Nat} {f : Int → Int → Int → D} {x y z : Int} {S : Sto} {Φ} (h1 : Bd N x) (h2 : Bd N y) (h3 : Bd N z) (q : Φ (f x y z) S) : cD1 N f [t3 x y z] S Φ := ⟨x, y, z, rfl, ⟨h1, h2, h3⟩, q⟩
def cD2 (N : Nat) (f : Int → Int → Int → Int → Int → Int → D) : Spec := fun ds S Φ => ∃ x y z p q s, ds = [t3 x y z, t3 p q s] ∧ (Bd N x ∧ Bd N y ∧ Bd N z) ∧ (Bd N p ∧ Bd N q ∧ Bd N s) ∧ Φ (f x y z p q s) S
theorem cD2_i {N : Nat} {f : Int → Int → Int → Int → Int → Int → D} {x y z p q s : Int} {S : Sto} {Φ} (h1 : Bd N x) (h2 : Bd N y) (h3 : Bd N z) (h4 : Bd N p) (h5 : Bd N q) (h6 : Bd N s) (k : Φ (f x y z p q s) S) : cD2 N f [t3 x y z, t3 p q s] S Φ := ⟨x, y, z, p, q, s, rfl, ⟨h1, h2, h3⟩, ⟨h4, h5, h6⟩, k⟩
def cDI (N : Nat) (f : Int → Int → Int → Int → D) : Spec := fun ds S Φ => ∃ x y z k, ds = [t3 x y z, .int k] ∧ (Bd N x ∧ Bd N y ∧ Bd N z) ∧ Bd N k ∧ Φ (f x y z k) S
theorem cDI_i {N : Nat} {f : Int → Int → Int → Int → D} {x y z k : Int} {S : Sto} {Φ} (h1 : Bd N x) (h2 : Bd N y) (h3 : Bd N z) (h4 : Bd N k) (q : Φ (f x y z k) S) : cDI N f [t3 x y z, .int k] S Φ := ⟨x, y, z, k, rfl, ⟨h1, h2, h3⟩, h4, q⟩
def cI1 (N : Nat) (f : Int → D) : Spec := fun ds S Φ => ∃ k, ds = [.int k] ∧ Bd N k ∧ Φ (f k) S
theorem cI1_i {N : Nat} {f : Int → D} {k : Int} {S : Sto} {Φ} (h4 : Bd N k) (q : Φ (f k) S) : cI1 N f [.int k] S Φ := ⟨k, rfl, h4, q⟩
end Ar
namespace Ar
open PySem PySem.Spec PyProof.Rows L2
/-! ### deeds in rows -/
abbrev T3 := Int × Int × Int
abbrev d3 (t : T3) : D := t3 t.1 t.2.1 t.2.2
def Bd3 (N : Nat) (t : T3) : Prop := Bd N t.1 ∧ Bd N t.2.1 ∧ Bd N t.2.2
abbrev joinT (t u : T3) : T3 := (t.1 + u.1, t.2.1 + u.2.1, t.2.2 + u.2.2 + t.1 * u.2.1)
def cAllJoined : Spec := fun ds S Φ => ∃ l : List T3, ds = [.tup (l.map d3)] ∧ l.length ≤ 1000 ∧ (∀ t, t ∈ l → Bd3 1200 t) ∧ Φ (d3 (l.foldl joinT (0, 0, 0))) S
theorem cAllJoined_i {ds : List D} {S : Sto} {Φ} (l : List T3) (e : ds = l.map d3) (hl : l.length ≤ 1000) (h : ∀ t, t ∈ l → Bd3 1200 t) (q : Φ (d3 (l.foldl joinT (0, 0, 0))) S) : cAllJoined [.tup ds] S Φ := ⟨l, by rw [e], hl, h, q⟩
def cSureDeeds : Spec := fun ds S Φ => ∃ l : List T3, ds = [.tup (l.map d3)] ∧ l.length ≤ 1000 ∧ Φ (.tup (l.map d3)) S
theorem cSureDeeds_i {S : Sto} {Φ} (l : List T3) (hl : l.length ≤ 1000) (q : Φ (.tup (l.map d3)) S) : cSureDeeds [.tup (l.map d3)] S Φ := ⟨l, rfl, hl, q⟩
theorem nrm_t3 {x y z : Int} : nrm (t3 x y z) = t3 x y z := by
  simp [nrm, nrmL]
theorem nrm_d3s : ∀ l : List T3, nrmL (l.map d3) = l.map d3
  | [] => by simp [nrmL]
  | t :: l => by
    rw [List.map_cons]
    unfold nrmL
    rw [nrm_d3s l]
    rw [show nrm (d3 t) = d3 t from nrm_t3]
theorem fit_d3s : ∀ l : List T3, fitL 1 (l.map d3) = true
  | [] => by simp [fitL]
  | t :: l => by
    rw [List.map_cons]
    unfold fitL
    rw [fit_d3s l]
    rfl
theorem plain_d3s : ∀ l : List T3, plainL (l.map d3) = true
  | [] => by simp [plainL]
  | t :: l => by
    rw [List.map_cons]
    unfold plainL
    rw [plain_d3s l]
    rfl
theorem le_line {n m : Nat} (h : n ≤ m) (k : Nat.ble m 1000000 = true) : n ≤ sizeLine := by
  have := Nat.le_of_ble_eq_true k
  have e : sizeLine = sizeLine := rfl
  unfold sizeLine
  omega
def turnN : Nat → T3 → T3
  | 0, t => t
  | n + 1, t => turnN n (-t.2.1, t.1, t.2.2 - t.1 * t.2.1)
abbrev fTurn (x y z k : Int) : D := d3 (turnN (k % 4).toNat (x, y, z))
/-! ### words -/
abbrev ch (c : Nat) : D := .str ⟨#[c]⟩
abbrev wd (cs : List Nat) : Str := ⟨cs.toArray⟩
def Ltr (c : Nat) : Prop := c = 114 ∨ c = 117 ∨ c = 108 ∨ c = 100
def LetW (cs : List Nat) : Prop := ∀ c, c ∈ cs → Ltr c
theorem chars_wd (cs : List Nat) : charsD (wd cs) = cs.map ch := by
  unfold charsD
  simp
def dx (c : Nat) : Int := if c = 114 then 1 else if c = 108 then -1 else 0
def dy (c : Nat) : Int := if c = 117 then 1 else if c = 100 then -1 else 0
def doW : List Nat → T3 → T3
  | [], t => t
  | c :: cs, t => doW cs (t.1 + dx c, t.2.1 + dy c, t.2.2 + t.1 * dy c)
def stepF (z : Str) : Option D := match z.cps.toList with
  | [114] => some (.tup [.int 1, .int 0])
  | [117] => some (.tup [.int 0, .int 1])
  | [108] => some (.tup [.int (-1), .int 0])
  | [100] => some (.tup [.int 0, .int (-1)])
  | _ => none
def cRoute (f : List Nat → D) : Spec := fun ds S Φ => ∃ cs, ds = [.str (wd cs)] ∧ LetW cs ∧ cs.length ≤ 1000 ∧ Φ (f cs) S
theorem cRoute_i {f : List Nat → D} {cs : List Nat} {S : Sto} {Φ} (h : LetW cs) (hl : cs.length ≤ 1000) (q : Φ (f cs) S) : cRoute f [.str (wd cs)] S Φ := ⟨cs, rfl, h, hl, q⟩
def cRoute2 (f : List Nat → List Nat → D) : Spec := fun ds S Φ => ∃ cs es, ds = [.str (wd cs), .str (wd es)] ∧ (LetW cs ∧ cs.length ≤ 1000) ∧ (LetW es ∧ es.length ≤ 1000) ∧ Φ (f cs es) S
theorem cRoute2_i {f : List Nat → List Nat → D} {cs es : List Nat} {S : Sto} {Φ} (h : LetW cs) (hl : cs.length ≤ 1000) (h2 : LetW es) (hl2 : es.length ≤ 1000) (q : Φ (f cs es) S) : cRoute2 f [.str (wd cs), .str (wd es)] S Φ := ⟨cs, es, rfl, ⟨h, hl⟩, ⟨h2, hl2⟩, q⟩
theorem LetW.tail {c : Nat} {cs : List Nat} (h : LetW (c :: cs)) : LetW cs := fun d hd => h d (List.mem_cons_of_mem _ hd)
theorem LetW.head {c : Nat} {cs : List Nat} (h : LetW (c :: cs)) : Ltr c := h c List.mem_cons_self
/-! ### the law's draws -/
/-- the source of draws: at most b drawn -/
def Tin (b : Nat) (l : List D) : Prop := ∃ a q c : Int, l = [.int a, .int q, .int c] ∧ 0 ≤ a ∧ 0 ≤ q ∧ Bd 80 q ∧ 0 ≤ c ∧ c ≤ b
theorem Bd.nat {b : Nat} {c : Int} (h0 : 0 ≤ c) (h : c ≤ b) (k : b ≤ 1000000000) : Bd 30 c := by
  constructor
  have e : (2 : Nat) ^ 30 = 1073741824 := rfl
  omega
def cTake : Spec := fun ds S Φ => ∃ p b l R n, ds = [.cell p, .int n] ∧ S = (p, l) :: R ∧ Tin b l ∧ b ≤ 1000000000 ∧ 0 < n ∧ Bd 8000 n ∧ ∀ r l', 0 ≤ r → r < n → Tin (b + 1) l' → Φ (.int r) ((p, l') :: R)
theorem cTake_i {p : Addr} {b : Nat} {l : List D} {R : Sto} {n : Int} {Φ} (h : Tin b l) (hb : b ≤ 1000000000) (h0 : 0 < n) (h1 : Bd 8000 n) (q : ∀ r l', 0 ≤ r → r < n → Tin (b + 1) l' → Φ (.int r) ((p, l') :: R)) : cTake [.cell p, .int n] ((p, l) :: R) Φ := ⟨p, b, l, R, n, rfl, rfl, h, hb, h0, h1, q⟩
section
variable {X : Cx} {ρ : Ro} {S : Sto} {pos tpos : Pos} {e o i : Expr} {E : DEnds}
theorem ds_storeH (hs : swapsWithSole [.Subscript o i tpos] e pos.line X.env = pure false) (hw : swappedStores [.Subscript o i tpos] e X.env = pure none) (h1 : (assignEach [.Subscript o i tpos] X.env).map (·.2) = [assign (.Subscript o i tpos) X.env])
    (ha : ∀ v, assign (.Subscript o i tpos) X.env v = (do
      let ov ← holding [v] (eval o X.env)
      let iv ← holding [v, ov] (eval i X.env)
      standAt tpos
      holding [v, ov, iv] (setItem ov iv v)
      release [v, ov, iv] []))
    (h : DE X e ρ S fun d S1 => DE X o ρ S1 fun c S2 => DE X i ρ S2 fun j S3 => ∃ p l B n m, c = .cell p ∧ S3 = (p, l) :: B ∧ j = .int n ∧ ixN l.length n = some m ∧ E.nx ρ ((p, l.set m d) :: B)) : DS X (.Assign [.Subscript o i tpos] e pos) ρ S E :=
  ds_store hs hw h1 ha (h.mono fun d S1 h => h.mono fun c S2 h => h.mono fun j S3 ⟨p, l, B, n, m, e1, e2, e3, e4, q⟩ => ⟨p, [], l, B, n, m, e1, e2, e3, e4, q⟩)
end
theorem Bd.ofBool {c : Bool} : Bd 64 (if c = true then 1 else 0) := by
  cases c <;> exact Bd.lit rfl
def cBoxN : SpecN := fun ds S Φ => ∃ (is : List Int) (k : Int), ds = [.lst (is.map D.int), .int k] ∧ 0 ≤ k ∧ k < 100 ∧ is.length ≤ 100 ∧ ∀ l', Tin 0 l' → Φ l' S
def cCells : Spec := fun ds S Φ => ∃ (is : List Int) (n : Int), ds = [.frz (is.map D.int), .int n] ∧ 0 < n ∧ n < 64 ∧ is.length ≤ 63 ∧ ∀ js : List Int, js.length ≤ 63 → Φ (.lst (js.map D.int)) S
def cOf : Spec := fun ds S Φ => ∃ p b l R g n, ds = [.cell p, g] ∧ S = (p, l) :: R ∧ Tin b l ∧ b ≤ 1000000000 ∧ OkC [] g ∧ LenD [] g n ∧ 0 < n ∧ n < 1000000 ∧ ∀ (r : Int) l', 0 ≤ r → r < n → Tin (b + 1) l' → ∃ e, IxD [] g (.int r) e ∧ Φ e ((p, l') :: R)
def cWhole : Spec := fun ds S Φ => ∃ p b l R n, ds = [.cell p, .int n] ∧ S = (p, l) :: R ∧ Tin b l ∧ b ≤ 1000000 ∧ 0 ≤ n ∧ Bd 1000 n ∧ ∀ r l', Bd 1100 r → (n < 100000000 → -n ≤ r ∧ r ≤ n) → Tin (b + 2) l' → Φ (.int r) ((p, l') :: R)
theorem cWhole_i {p : Addr} {b : Nat} {l : List D} {R : Sto} {n : Int} {Φ} (h : Tin b l) (hb : b ≤ 1000000) (h0 : 0 ≤ n) (h1 : Bd 1000 n) (q : ∀ r l', Bd 1100 r → (n < 100000000 → -n ≤ r ∧ r ≤ n) → Tin (b + 2) l' → Φ (.int r) ((p, l') :: R)) : cWhole [.cell p, .int n] ((p, l) :: R) Φ := ⟨p, b, l, R, n, rfl, rfl, h, hb, h0, h1, q⟩
def cDeed : Spec := fun ds S Φ => ∃ p b l R n, ds = [.cell p, .int n] ∧ S = (p, l) :: R ∧ Tin b l ∧ b ≤ 100000 ∧ 0 ≤ n ∧ Bd 1000 n ∧ ∀ x y z l', Bd 1100 x → Bd 1100 y → Bd 1100 z → Tin (b + 6) l' → Φ (t3 x y z) ((p, l') :: R)
theorem cDeed_i {p : Addr} {b : Nat} {l : List D} {R : Sto} {n : Int} {Φ} (h : Tin b l) (hb : b ≤ 100000) (h0 : 0 ≤ n) (h1 : Bd 1000 n) (q : ∀ x y z l', Bd 1100 x → Bd 1100 y → Bd 1100 z → Tin (b + 6) l' → Φ (t3 x y z) ((p, l') :: R)) : cDeed [.cell p, .int n] ((p, l) :: R) Φ := ⟨p, b, l, R, n, rfl, rfl, h, hb, h0, h1, q⟩
def cWord : Spec := fun ds S Φ => ∃ p b l R n, ds = [.cell p, .int n] ∧ S = (p, l) :: R ∧ Tin b l ∧ b ≤ 100000 ∧ 0 ≤ n ∧ n ≤ 1000 ∧ ∀ cs l', LetW cs → (cs.length : Int) = n → Tin (b + n.toNat) l' → Φ (.str (wd cs)) ((p, l') :: R)
mutual
def noFrz : D → Bool
  | .frz _ => false
  | .tup l => noFrzL l
  | .lst l => noFrzL l
  | _ => true
def noFrzL : List D → Bool
  | [] => true
  | d :: l => noFrz d && noFrzL l
end
def cSame (n : Nat) : Spec := fun ds S Φ => ∃ d, ds = [d, d] ∧ fitD n d = true ∧ noFrz d = true ∧ Φ (.bl true) S
theorem cSame_i {n : Nat} {d d' : D} {S : Sto} {Φ} (e : d = d') (h : fitD n d = true) (h2 : noFrz d = true) (q : Φ (.bl true) S) : cSame n [d, d'] S Φ := ⟨d, by rw [e], h, h2, q⟩
section
variable {X : Cx} {ρ : Ro} {S : Sto} {Φ : D → Sto → Prop} {P : Program} {w : World} {K : PySem.W.Frag} {mg : Str → Option Value} {base : Heap} {tb : List (Str × Nat)} {names : List (Str × NameKind)} {k : Nat}
theorem eqv_t3 {x y z p q s : Int} : PyData.eqv (toPy (t3 x y z)) (toPy (t3 p q s)) = decide ((x, y, z) = (p, q, s)) := by
  simp only [toPy, toPyL, PyData.eqv, PyData.eqvAll]
  by_cases h1 : x = p <;> by_cases h2 : y = q <;> by_cases h3 : z = s <;> simp [h1, h2, h3]
theorem do_eqT3 {x y z p q s : Int} (A : At X P w K mg base tb names k) (h : Φ (.bl (decide ((x, y, z) = (p, q, s)))) S) : DO X (compareOp .Eq) (t3 x y z) (t3 p q s) S Φ := do_eqD A rfl (by rw [eqv_t3]; exact h)
/-- a written list against [] -/
theorem do_neNil {c : Addr} (A : At X P w K mg base tb names k) (h : ∃ l, (c, l) ∈ S ∧ eqOk (.lst l) = true ∧ Φ (.bl (!l.isEmpty)) S) : DO X (compareOp .NotEq) (.cell c) (.lst []) S Φ := by
  obtain ⟨l, hm, he, q⟩ := h
  refine do_neC A ⟨l, hm, by rw [he]; rfl, ?_⟩
  have e : PyData.eqv (toPy (.lst l)) (toPy (.lst [])) = l.isEmpty := by
    cases l with
    | nil => simp [toPy, toPyL, PyData.eqv, PyData.eqvAll]
    | cons d l => simp [toPy, toPyL, PyData.eqv, PyData.eqvAll]
  rw [e]
  exact q
end
theorem ltr_ruld {c : Nat} (h : Ltr c) : decide (c ∈ (Str.ofString "ruld").cps.toList) = true := by
  rcases h with rfl | rfl | rfl | rfl <;> rfl
/-! ### runs -/
abbrev Run := Nat × Int
abbrev rn (r : Run) : D := .tup [ch r.1, .int r.2]
abbrev sRun (a b : Nat) (m : Int) : Run := (if 0 ≤ m then a else b, if 0 ≤ m then m else -m)
def runTog : List Run → List Run → List Run
  | acc, [] => acc
  | acc, r :: l => if 0 < r.2 then (match acc.getLast? with
      | some u => if u.1 = r.1 then runTog (acc.dropLast ++ [(r.1, u.2 + r.2)]) l else runTog (acc ++ [r]) l
      | none => runTog (acc ++ [r]) l) else runTog acc l
def doR : List Run → T3 → T3
  | [], t => t
  | r :: l, t => doR l (t.1 + dx r.1 * r.2, t.2.1 + dy r.1 * r.2, t.2.2 + t.1 * dy r.1 * r.2)
def LetR (l : List Run) : Prop := ∀ r, r ∈ l → Ltr r.1
/-- good runs: at most 200, letters, positive, neighbours unlike -/
def GoodR (l : List Run) : Prop := l.length ≤ 200 ∧ (∀ r, r ∈ l → Ltr r.1 ∧ 0 < r.2) ∧ ∀ i r u, l[i]? = some r → l[i + 1]? = some u → r.1 ≠ u.1
def cSigned : Spec := fun ds S Φ => ∃ a b m, ds = [.str ⟨#[a, b]⟩, .int m] ∧ Φ (rn (sRun a b m)) S
def cTogether : Spec := fun ds S Φ => ∃ l : List Run, ds = [.lst (l.map rn)] ∧ l.length ≤ 100 ∧ LetR l ∧ Φ (.tup ((runTog [] l).map rn)) S
def cByRuns : Spec := fun ds S Φ => ∃ l : List Run, ds = [.tup (l.map rn)] ∧ l.length ≤ 200 ∧ (∀ r, r ∈ l → Ltr r.1 ∧ Bd 2000 r.2) ∧ Φ (d3 (doR l (0, 0, 0))) S
def cGoodR (f : List Run → D) : Spec := fun ds S Φ => ∃ l : List Run, ds = [.tup (l.map rn)] ∧ GoodR l ∧ (∀ r, r ∈ l → Bd 2000 r.2) ∧ Φ (f l) S
def rowsOf (x y z : Int) : List Run := [sRun 117 100 y, sRun 114 108 x] ++ (if z ≠ 0 then [(114, 1), sRun 117 100 z, (108, 1), sRun 100 117 z] else [])
theorem runTog_skip {acc : List Run} {r : Run} {l : List Run} (h : ¬ 0 < r.2) : runTog acc (r :: l) = runTog acc l := by
  rw [runTog, if_neg h]
theorem runTog_nil {r : Run} {l : List Run} (h : 0 < r.2) : runTog [] (r :: l) = runTog [r] l := by
  rw [runTog, if_pos h]
  rfl
theorem runTog_eq {ini : List Run} {u r : Run} {l : List Run} (h : 0 < r.2) (e : u.1 = r.1) : runTog (ini ++ [u]) (r :: l) = runTog (ini ++ [(r.1, u.2 + r.2)]) l := by
  rw [runTog, if_pos h, List.getLast?_concat]
  simp only [e, if_true, List.dropLast_concat]
theorem runTog_ne {ini : List Run} {u r : Run} {l : List Run} (h : 0 < r.2) (e : u.1 ≠ r.1) : runTog (ini ++ [u]) (r :: l) = runTog (ini ++ [u] ++ [r]) l := by
  rw [runTog, if_pos h, List.getLast?_concat]
  simp only [e, if_false]
theorem ixN_last {α : Type} {ini : List α} {u : α} : ixN (ini ++ [u]).length (-1) = some ini.length := by
  unfold ixN
  rw [List.length_append, List.length_singleton, if_neg (by omega), if_pos (by omega)]
  congr 1
  omega
theorem atI_last {α : Type} {ini : List α} {u : α} : atI (ini ++ [u]) (-1) = some u := by
  unfold atI
  rw [ixN_last]
  show (ini ++ [u])[ini.length]? = some u
  rw [List.getElem?_append_right (Nat.le_refl _), Nat.sub_self]
  rfl
theorem set_last {α : Type} {ini : List α} {u v : α} : (ini ++ [u]).set ini.length v = ini ++ [v] := by
  rw [List.set_append_right _ _ (Nat.le_refl _), Nat.sub_self]
  rfl
theorem ltr_small {c : Nat} (h : Ltr c) : decide (c < 0x110000) = true := by
  rcases h with rfl | rfl | rfl | rfl <;> rfl
theorem runs_plain : ∀ {l : List Run}, plainL (l.map rn) = true
  | [] => by simp [plainL]
  | r :: l => by
    rw [List.map_cons]
    unfold plainL
    rw [runs_plain (l := l)]
    rfl
theorem runs_lay : ∀ {l : List Run}, LetR l → PyData.canLayAll0 (toPyL (l.map rn)) = true
  | [], _ => by simp [toPyL, PyData.canLayAll0]
  | r :: l, h => by
    rw [List.map_cons]
    have h1 := ltr_small (h r List.mem_cons_self)
    have h2 := runs_lay (l := l) fun u hu => h u (List.mem_cons_of_mem _ hu)
    simp only [toPyL, PyData.canLayAll0, h2, Bool.and_true]
    show PyData.canLay0 (toPy (rn r)) = true
    have h3 := of_decide_eq_true h1
    simp [toPy, toPyL, PyData.canLay0, PyData.canLayAll0, PyData.strOk, h3]
theorem runs_depth : ∀ {l : List Run}, PyData.depthAll (toPyL (l.map rn)) ≤ 1
  | [] => by simp [toPyL, PyData.depthAll]
  | r :: l => by
    have h := runs_depth (l := l)
    rw [List.map_cons]
    simp only [toPyL, PyData.depthAll]
    have e : PyData.depth (toPy (rn r)) = 1 := by simp [toPy, toPyL, PyData.depth, PyData.depthAll]
    rw [e]
    omega
theorem runs_ok {l : List Run} (h : LetR l) (hl : l.length ≤ 1000) : eqOk (.lst (l.map rn)) = true := by
  unfold eqOk
  rw [Bool.and_eq_true]
  constructor
  · unfold plainD
    rw [runs_plain, Bool.and_true]
    exact Nat.ble_eq.mpr (le_line (m := 1000) (by rw [List.length_map]; exact hl) rfl)
  · unfold SeqAt.shaped
    rw [Bool.and_eq_true]
    constructor
    · show PyData.canLayAll0 (toPyL (l.map rn)) = true
      exact runs_lay h
    · have := runs_depth (l := l)
      refine decide_eq_true ?_
      show PyData.depthAll (toPyL (l.map rn)) + 1 ≤ 64
      omega
theorem lt_line {n m : Nat} (h : n ≤ m) (k : Nat.ble m 1000000 = true) : n < sizeLine := by
  have := Nat.le_of_ble_eq_true k
  unfold sizeLine
  omega
theorem len_and {n : Nat} {B : Prop} (h : n < sizeLine) (q : B) : n < sizeLine ∧ B := ⟨h, q⟩
theorem le_and {n : Nat} {B : Prop} (h : n ≤ sizeLine) (q : B) : n ≤ sizeLine ∧ B := ⟨h, q⟩
theorem nil_or_last {α : Type} (l : List α) : l = [] ∨ ∃ ini u, l = ini ++ [u] := by
  cases l with
  | nil => exact .inl rfl
  | cons a l => exact .inr ⟨_, _, (List.dropLast_concat_getLast (List.cons_ne_nil a l)).symm⟩
theorem Bd.add2 {n : Nat} {x y : Int} (h : Bd n x) (k : Bd n y) : Bd (n + 1) (x + y) := by
  have z := h.add k
  rw [Nat.max_self] at z
  exact z
theorem Bd.dxm {n c : Nat} {k : Int} (h : Ltr c) (b : Bd n k) : Bd n (dx c * k) := by
  rcases h with rfl | rfl | rfl | rfl
  · show Bd n (1 * k)
    rw [Int.one_mul]
    exact b
  · show Bd n (0 * k)
    rw [Int.zero_mul]
    exact ⟨Nat.pow_pos (by decide)⟩
  · show Bd n (-1 * k)
    rw [Int.neg_one_mul]
    exact b.neg
  · show Bd n (0 * k)
    rw [Int.zero_mul]
    exact ⟨Nat.pow_pos (by decide)⟩
/-- a written list is read only from here on -/
theorem Ev.freeze {K : PySem.W.Frag} {Zh : List Addr} {H : Hp} {σ : L2.St} {ρ : Ro} {A B : Sto} {c : Addr} {l : List D} {i : Nat} (E : Ev K Zh H σ ρ (A ++ (c, l) :: B)) (h : ρ[i]? = some (some (.cell c))) : Ev K Zh H σ (ρ.set i (some (.lst l))) (A ++ B) := by
  have kk : keys (A ++ (c, l) :: B) = keys A ++ c :: keys B := by rw [keys_append]; rfl
  have sub : ∀ p, p ∈ keys (A ++ B) ++ Zh → p ∈ keys (A ++ (c, l) :: B) ++ Zh := fun p m => by
    rw [kk]
    rw [keys_append] at m
    rcases List.mem_append.mp m with m | m
    · rcases List.mem_append.mp m with m | m
      · exact List.mem_append_left _ (List.mem_append_left _ m)
      · exact List.mem_append_left _ (List.mem_append_right _ (List.mem_cons_of_mem _ m))
    · exact List.mem_append_right _ m
  have nd := E.st.nd
  rw [kk, List.nodup_append] at nd
  obtain ⟨n1, n2, n3⟩ := nd
  have n4 : c ∉ keys B ∧ (keys B).Nodup := List.nodup_cons.mp n2
  have hin : (c, l) ∈ A ++ (c, l) :: B := List.mem_append_right _ List.mem_cons_self
  refine ⟨⟨?_, fun p m hm => ?_, fun p hp => ?_⟩, by rw [List.length_set]; exact E.len, fun j d hj => ?_⟩
  · rw [keys_append, List.nodup_append]
    exact ⟨n1, n4.2, fun a ha b hb => n3 a ha b (List.mem_cons_of_mem _ hb)⟩
  · obtain ⟨vs, a, b⟩ := E.st.st p m (by
      rcases List.mem_append.mp hm with q | q
      · exact List.mem_append_left _ q
      · exact List.mem_append_right _ (List.mem_cons_of_mem _ q))
    exact ⟨vs, a, b.shrink sub⟩
  · obtain ⟨n, vs, e⟩ := E.st.hid p hp
    refine ⟨fun m => n ?_, vs, e⟩
    rw [keys_append] at m
    rw [kk]
    rcases List.mem_append.mp m with m | m
    · exact List.mem_append_left _ m
    · exact List.mem_append_right _ (List.mem_cons_of_mem _ m)
  · by_cases e : i = j
    · subst e
      obtain ⟨v, ev, rv⟩ := E.var i _ h
      have hl : i < ρ.length := (List.getElem?_eq_some_iff.mp h).1
      rw [List.getElem?_set_self hl] at hj
      cases hj
      refine ⟨v, ev, ?_⟩
      rw [rv.cell]
      obtain ⟨vs, a, b⟩ := E.st.st c l hin
      unfold Rep
      refine ⟨c, vs, rfl, fun m => ?_, a, b.shrink sub⟩
      rcases List.mem_append.mp m with m | m
      · rw [keys_append] at m
        rcases List.mem_append.mp m with m | m
        · exact n3 c m c List.mem_cons_self rfl
        · exact n4.1 m
      · exact (E.st.hid c m).1 (by rw [kk]; exact List.mem_append_right _ List.mem_cons_self)
    · rw [List.getElem?_set_ne e] at hj
      obtain ⟨v, ev, rv⟩ := E.var j d hj
      exact ⟨v, ev, rv.shrink sub⟩
theorem dss_freeze {X : Cx} {sts : List Stmt} {ρ : Ro} {A B : Sto} {c : Addr} {l : List D} {E : DEnds} (i : Nat) (h : ρ[i]? = some (some (.cell c))) (q : DSs X sts (ρ.set i (some (.lst l))) (A ++ B) E) : DSs X sts ρ (A ++ (c, l) :: B) E := fun Zh pins s σ H Dn I ev k => by
  have st : Step (A ++ (c, l) :: B) H (A ++ B) H := ⟨Grow.refl, fun p m => .inl (by
    rw [keys_append] at m ⊢
    rcases List.mem_append.mp m with m | m
    · exact List.mem_append_left _ m
    · exact List.mem_append_right _ (List.mem_cons_of_mem _ m))⟩
  exact q Zh pins s σ H Dn I (ev.freeze h) (k.next st)
theorem stepF_ltr {c : Nat} (h : Ltr c) : stepF ⟨#[c]⟩ = some (.tup [.int (dx c), .int (dy c)]) := by
  rcases h with rfl | rfl | rfl | rfl <;> rfl
theorem bd_dx {c : Nat} (h : Ltr c) : Bd 64 (dx c) := by
  rcases h with rfl | rfl | rfl | rfl <;> exact Bd.lit rfl
theorem bd_dy {c : Nat} (h : Ltr c) : Bd 64 (dy c) := by
  rcases h with rfl | rfl | rfl | rfl <;> exact Bd.lit rfl
theorem cut1 {α : Type} {f : α → D} {l : List α} : cutD (l.map f) (some 1) none = (l.drop 1).map f := by
  unfold cutD
  rw [← List.map_drop]
  cases l with
  | nil => simp [HT.sIx]
  | cons a l =>
    have e : HT.sIx (List.map f (a :: l)).length 0 (some 1) = 1 := by
      simp [HT.sIx]
    have e2 : HT.sIx (List.map f (a :: l)).length (List.map f (a :: l)).length none = (List.map f (a :: l)).length := rfl
    rw [e, e2, List.drop_one, List.length_map, List.length_cons, Nat.add_sub_cancel]
    show List.take l.length (l.map f) = l.map f
    exact List.take_of_length_le (by rw [List.length_map]; exact Nat.le_refl _)
theorem zip_next {f : Run → D} : ∀ {l : List Run} {d : D}, d ∈ zipD (l.map f) ((l.drop 1).map f) → ∃ i r u, l[i]? = some r ∧ l[i + 1]? = some u ∧ d = .tup [f r, f u]
  | [], d, h => by cases h
  | [a], d, h => by cases h
  | a :: b :: l, d, h => by
    have h2 : d = .tup [f a, f b] ∨ d ∈ zipD ((b :: l).map f) (((b :: l).drop 1).map f) := List.mem_cons.mp h
    rcases h2 with e | h2
    · exact ⟨0, a, b, rfl, rfl, e⟩
    · obtain ⟨i, r, u, h3, h4, h5⟩ := zip_next h2
      exact ⟨i + 1, r, u, h3, h4, h5⟩
theorem dss_box {X : Cx} {st : Stmt} {sts : List Stmt} {ρ : Ro} {S : Sto} {E : DEnds} (h : DS X st ρ S { E with nx := fun r s => Box (DSs X sts r s E) }) : DSs X (st :: sts) ρ S E :=
  ds_cons (h.mono (fun _ _ z => z.get) (fun _ _ z => z) (fun _ _ z => z) (fun _ _ z => z))
theorem nrm_runs : ∀ l : List Run, nrmL (l.map rn) = l.map rn
  | [] => by simp [nrmL]
  | t :: l => by
    rw [List.map_cons]
    unfold nrmL
    rw [nrm_runs l]
    rw [show nrm (rn t) = rn t by simp [nrm, nrmL]]
theorem fit_runs : ∀ l : List Run, fitL 1 (l.map rn) = true
  | [] => by simp [fitL]
  | t :: l => by
    rw [List.map_cons]
    unfold fitL
    rw [fit_runs l]
    rfl
theorem runs_plainT {l : List Run} (h : l.length ≤ 1000) : plainD (.tup (l.map rn)) = true := by
  unfold plainD
  rw [runs_plain, Bool.and_true]
  exact Nat.ble_eq.mpr (le_line (m := 1000) (by rw [List.length_map]; exact h) rfl)
theorem ltr_sRun {a b : Nat} {m : Int} (ha : Ltr a) (hb : Ltr b) : Ltr (sRun a b m).1 := by
  show Ltr (if 0 ≤ m then a else b)
  split
  · exact ha
  · exact hb
theorem ltr_rows {x y z : Int} : LetR (rowsOf x y z) := by
  have r : Ltr 114 := .inl rfl
  have u : Ltr 117 := .inr (.inl rfl)
  have l : Ltr 108 := .inr (.inr (.inl rfl))
  have d : Ltr 100 := .inr (.inr (.inr rfl))
  unfold rowsOf
  intro t ht
  split at ht
  · simp only [List.cons_append, List.nil_append, List.mem_cons, List.not_mem_nil, or_false] at ht
    rcases ht with rfl | rfl | rfl | rfl | rfl | rfl
    · exact ltr_sRun u d
    · exact ltr_sRun r l
    · exact r
    · exact ltr_sRun u d
    · exact l
    · exact ltr_sRun d u
  · simp only [List.append_nil, List.mem_cons, List.not_mem_nil, or_false] at ht
    rcases ht with rfl | rfl
    · exact ltr_sRun u d
    · exact ltr_sRun r l
theorem rows_len {x y z : Int} : (rowsOf x y z).length ≤ 6 := by
  unfold rowsOf
  split <;> simp
theorem le_line6 {n : Nat} (h : n ≤ 1000000) : n ≤ sizeLine := le_line h rfl
theorem lt_line6 {n : Nat} (h : n ≤ 1000000) : n < sizeLine := lt_line h rfl
section
variable {X : Cx} {S : Sto} {Φ : D → Sto → Prop}
theorem do_p7 (q : Φ (.int 10000000) S) : DO X (binaryOp .Pow) (.int 10) (.int 7) S Φ := do_pow ⟨by decide, by decide, by decide⟩ q
theorem do_p8 (q : Φ (.int 100000000) S) : DO X (binaryOp .Pow) (.int 10) (.int 8) S Φ := do_pow ⟨by decide, by decide, by decide⟩ q
theorem do_p18 (q : Φ (.int 1000000000000000000) S) : DO X (binaryOp .Pow) (.int 10) (.int 18) S Φ := do_pow ⟨by decide, by decide, by decide⟩ q
theorem do_p20 (q : Φ (.int 100000000000000000000) S) : DO X (binaryOp .Pow) (.int 10) (.int 20) S Φ := do_pow ⟨by decide, by decide, by decide⟩ q
theorem do_p29 (q : Φ (.int 100000000000000000000000000000) S) : DO X (binaryOp .Pow) (.int 10) (.int 29) S Φ := do_pow ⟨by decide, by decide, by decide⟩ q
end
theorem Bd.emod {n : Nat} {x y : Int} (h0 : 0 < y) (h : Bd n y) : Bd n (x % y) := Bd.lt2 (Int.emod_nonneg _ (by omega)) (Int.emod_lt_of_pos _ h0) h
theorem LenD.nil {S : Sto} {g : D} {n : Nat} (h : LenD [] g n) : LenD S g n := by
  cases g with
  | cell p =>
    obtain ⟨l, m, _⟩ := h
    cases m
  | _ => exact h
theorem IxD.nil {S : Sto} {g e : D} {i : D} (h : IxD [] g i e) : IxD S g i e := by
  cases i with
  | int i =>
    cases g with
    | cell p =>
      obtain ⟨l, m, _⟩ := h
      cases m
    | _ => exact h
  | _ => cases g <;> exact (show False from h).elim
abbrev fLead (x y z p q s : Int) : D := t3 (p + x + -p) (q + y + -q) (s + z + p * y + (p * q - s) + (p + x) * -q)
theorem str_one {c : Nat} {cs : List Nat} : (⟨#[c]⟩ : Str) ++ wd cs = wd (c :: cs) := by
  show (⟨#[c] ++ cs.toArray⟩ : Str) = _
  congr 1
  simp
theorem str_nil {x : Str} : x ++ (Str.ofString "") = x := by
  obtain ⟨a⟩ := x
  show (⟨a ++ (Str.ofString "").cps⟩ : Str) = _
  have e : (Str.ofString "").cps = #[] := by rfl
  rw [e, Array.append_empty]
theorem sjoin_wd : ∀ cs : List Nat, Str.join (Str.ofString "") (cs.map fun c => (⟨#[c]⟩ : Str)) = wd cs
  | [] => rfl
  | [c] => rfl
  | c :: d :: cs => by
    show (⟨#[c]⟩ : Str) ++ (Str.ofString "") ++ Str.join (Str.ofString "") ((d :: cs).map fun c => (⟨#[c]⟩ : Str)) = _
    rw [sjoin_wd (d :: cs), str_nil, str_one]
theorem join_wd (cs : List Nat) : Txt.join (Str.ofString "") (cs.map fun c => (⟨#[c]⟩ : Str)) = wd cs := by
  show Builtin.Str.glued (Str.ofString "") _ = _
  rw [StrLaws.glued_eq_join]
  exact sjoin_wd cs
theorem sum_ones : ∀ cs : List Nat, ((cs.map fun c => (⟨#[c]⟩ : Str)).map (·.length)).sum = cs.length
  | [] => rfl
  | c :: cs => by
    have := sum_ones cs
    simp only [List.map_cons, List.sum_cons, List.length_cons, this]
    show 1 + cs.length = cs.length + 1
    omega
theorem zip_self : ∀ {l : List D} {d : D}, d ∈ zipD l l → ∃ x, x ∈ l ∧ d = .tup [x, x]
  | [], d, h => by cases h
  | a :: l, d, h => by
    have h2 : d = .tup [a, a] ∨ d ∈ zipD l l := List.mem_cons.mp h
    rcases h2 with e | h2
    · exact ⟨a, List.mem_cons_self, e⟩
    · obtain ⟨x, h3, h4⟩ := zip_self h2
      exact ⟨x, List.mem_cons_of_mem _ h3, h4⟩
theorem noFrz_in {l : List D} (h : noFrzL l = true) : ∀ d, d ∈ l → noFrz d = true := fun d hd => by
  induction l with
  | nil => cases hd
  | cons c l ih =>
    unfold noFrzL at h
    rw [Bool.and_eq_true] at h
    rcases List.mem_cons.mp hd with e | e
    · rw [e]; exact h.1
    · exact ih h.2 e
theorem all_true {α : Type} (l : List α) : (l.map fun _ => true).all id = true := by
  rw [List.all_map, List.all_eq_true]
  intro t _
  rfl
theorem ds_retCN {X : Cx} {ρ : Ro} {S S0 : Sto} {Φ : List D → Sto → Prop} {e : Expr} {pos : Pos} {nx bk ct : Ro → Sto → Prop} (h : DN X e ρ S fun l S1 => ∀ c, RetC S0 Φ (.cell c) (S1 ++ [(c, l)])) : DS X (.Return (some e) pos) ρ S ⟨nx, RetC S0 Φ, bk, ct⟩ := ds_retCell h
theorem atI_ok {α : Type} {l : List α} {k : Int} (h0 : 0 ≤ k) (h : k < l.length) : ∃ x, l[k.toNat]? = some x ∧ atI l k = some x := by
  have hk : k.toNat < l.length := by omega
  refine ⟨l[k.toNat], List.getElem?_eq_getElem hk, ?_⟩
  unfold atI ixN
  rw [if_pos h0, if_pos h]
  exact List.getElem?_eq_getElem hk
theorem ixN_ok {n : Nat} {k : Int} (h0 : 0 ≤ k) (h : k < n) : ixN n k = some k.toNat := by
  unfold ixN
  rw [if_pos h0, if_pos h]
theorem enum_ints : ∀ {is : List Int} {n : Nat} {d : D}, d ∈ enumD n (is.map D.int) → ∃ (j : Nat) (x : Int), d = .tup [.int (j : Int), .int x] ∧ n ≤ j ∧ j < n + is.length
  | [], n, d, h => by cases h
  | a :: l, n, d, h => by
    have h2 : d = .tup [.int (n : Int), .int a] ∨ d ∈ enumD (n + 1) (l.map D.int) := List.mem_cons.mp h
    rw [List.length_cons]
    rcases h2 with e | h2
    · exact ⟨n, a, e, Nat.le_refl _, by omega⟩
    · obtain ⟨j, x, e, h3, h4⟩ := enum_ints h2
      exact ⟨j, x, e, by omega, by omega⟩
theorem cut_hi {is : List Int} {n : Int} (h : 0 ≤ n) : ∃ js : List Int, cutD (is.map D.int) none (some n) = js.map D.int ∧ js.length = min n.toNat is.length := by
  unfold cutD
  rw [← List.map_drop, ← List.map_take]
  refine ⟨_, rfl, ?_⟩
  have e1 : HT.sIx (is.map D.int).length 0 none = 0 := rfl
  have e2 : HT.sIx (is.map D.int).length (is.map D.int).length (some n) = min n.toNat (is.map D.int).length := by
    show (if n < 0 then _ else _) = _
    rw [if_neg (by omega)]
  rw [e1, e2, List.length_take, List.length_drop, List.length_map]
  omega
theorem cut_mid {is : List Int} {n m : Int} (h : 0 ≤ n) : ∃ js : List Int, cutD (is.map D.int) (some n) (some m) = js.map D.int ∧ js.length ≤ is.length - n.toNat := by
  unfold cutD
  rw [← List.map_drop, ← List.map_take]
  refine ⟨_, rfl, ?_⟩
  have e1 : HT.sIx (is.map D.int).length 0 (some n) = min n.toNat (is.map D.int).length := by
    show (if n < 0 then _ else _) = _
    rw [if_neg (by omega)]
  rw [e1, List.length_take, List.length_drop, List.length_map]
  omega
theorem DN.mono {X : Cx} {ρ : Ro} {S : Sto} {e : Expr} {Φ Ψ : List D → Sto → Prop} (h : DN X e ρ S Φ) (k : ∀ l S1, Φ l S1 → Ψ l S1) : DN X e ρ S Ψ := fun Zh pins s σ H Q I E P => h Zh pins s σ H Q I E fun c vs H' l S' k1 g s1 hc h1 r q => P c vs H' l S' k1 g s1 hc h1 r (k _ _ q)
theorem int_mem {js : List Int} {k : Nat} {d : D} (h : (js.map D.int)[k]? = some d) : ∃ x, d = .int x := by
  rw [List.getElem?_map] at h
  cases e : js[k]? with
  | none => rw [e] at h; cases h
  | some x =>
    rw [e] at h
    exact ⟨x, (Option.some.inj h).symm⟩
end Ar
namespace Ar
open PySem PySem.Spec PyProof.Rows L2
/-! ### text[::-1] -/
theorem pe_revS {X : Cx} {e : Expr} {te : TE} {k : Nat} {p1 p2 p3 pos : Pos} (he : PE X e te) : PE X (.Subscript e (.Slice none none (some (.UnaryOp .USub (.Constant (.int 1) k p1) p2)) p3) pos) (fun σ H Q => te σ H fun x H1 => ∃ z, x = .str z ∧ z.length ≤ sizeLine ∧ Q (.str ⟨z.cps.toList.reverse.toArray⟩) H1) := by
  refine ⟨fun pins s σ H Q I h => ?_⟩
  refine Subscript_ (thn (he.run pins s σ H _ I h) fun v s1 ⟨x, H1, I1, r1, q1⟩ => ?_)
  obtain ⟨z, ex, hz, q⟩ := q1
  subst ex
  obtain ⟨t, rfl⟩ := r1
  have hst : PO X (some (.UnaryOp .USub (.Constant (.int 1) k p1) p2)) (tPart (tUn (rU fun i => .int (-i)) (tC (.int 1)))) := po_some (pe_un un_neg pe_int)
  refine wpAny_Slice (thn (po_none.run pins s1 σ H1 (fun o H2 => o = none ∧ H2 = H1) I1 ⟨rfl, rfl⟩) fun vl s2 ⟨l, H2, I2, pl, el, e2⟩ => ?_)
  subst el e2
  refine thn (po_none.run pins s2 σ H2 (fun o H3 => o = none ∧ H3 = H2) I2 ⟨rfl, rfl⟩) fun vu s3 ⟨u, H3, I3, pu, eu, e3⟩ => ?_
  subst eu e3
  refine thn (hst.run pins s3 σ H3 (fun o H4 => o = some (-1) ∧ H4 = H3) I3 ⟨1, rfl, -1, rfl, rfl, rfl⟩) fun vs s4 ⟨o, H4, I4, ps, eo, e4⟩ => ?_
  subst eo e4
  have I5 : Inv X pins σ H4 { s4 with heap := s4.heap.push { cls := .type "slice", data := .fields #[vl, vu, vs] } } := I4.kept (t' := s4.toks) fun b ob q => Heap.get?_push_of_some _ q
  show wpAny (model X.prog X.w) X.A (subscriptTail e (.Slice none none (some (.UnaryOp .USub (.Constant (.int 1) k p1) p2)) p3) (.str z t) (.ref s4.heap.objs.size)) (EP X pins σ Q) X.xe { s4 with heap := s4.heap.push { cls := .type "slice", data := .fields #[vl, vu, vs] } }
  refine tail_any (ops := [.str z t, .ref s4.heap.objs.size]) (typeIs_str _ _ _) (PySem.F.slot_str_getitem.lookup) ?_ (by with_unfolding_all rfl)
  obtain ⟨l, rfl, hl⟩ := IsPart.raw pl
  obtain ⟨u, rfl, hu⟩ := IsPart.raw pu
  obtain ⟨st, rfl, hs⟩ := IsPart.raw ps
  cases l with
  | some l => cases hl
  | none =>
    cases u with
    | some u => cases hu
    | none =>
      cases st with
      | none => cases hs
      | some st =>
        obtain ⟨i, ti⟩ := st
        have hi : i = -1 := Option.some.inj hs
        subst hi
        obtain ⟨os, hos, hcs, hds⟩ := Heap.IsSliceOf.new s4.heap (partValue none) (partValue none) (partValue (some (-1, ti)))
        refine wpAny_getItem_str_slice (l := none) (u := none) (st := some (-1, ti)) ⟨os, hos, hcs, hds⟩ rfl ?_
        have e1 : (slicePicked z none none (some (-1, ti))).filterMap (z.cps[·]?) = z.cps.toList.reverse := by
          unfold slicePicked
          show (Builtin.Str.strSliceIndices none none (-1) z.length).filterMap (z.cps[·]?) = _
          rw [picked_rev, filterMap_get _ _ (fun i hi => by
            obtain ⟨k, hk, rfl⟩ := List.mem_map.mp hi
            have := List.mem_range.mp hk
            show z.length - 1 - k < z.length
            omega)]
          rw [List.map_map]
          apply List.ext_getElem
          · simp [Str.length]
          · intro j h1 h2
            have hj : j < z.cps.size := by simpa [Str.length] using h1
            simp only [List.getElem_map, List.getElem_range, Function.comp_apply, List.getElem_reverse, Array.getElem_toList, Array.length_toList]
            show z.cps.getD (z.cps.size - 1 - j) 0 = _
            simp [Array.getD, show z.cps.size - 1 - j < z.cps.size by omega]
        unfold sliceMade
        rw [e1]
        rw [if_neg (by simp)]
        exact ⟨by show z.cps.toList.reverse.toArray.size ≤ _; rw [List.size_toArray, List.length_reverse, Array.length_toList]; exact hz, .str _, H4, I5.tok _, ⟨_, rfl⟩, q⟩
section
variable {X : Cx} {ρ : Ro} {S : Sto} {Φ : D → Sto → Prop} {P : Program} {w : World} {K : PySem.W.Frag} {mg : Str → Option Value} {base : Heap} {tb : List (Str × Nat)} {names : List (Str × NameKind)} {k : Nat} {pos p1 p2 p3 : Pos} {e : Expr} {kk : Nat}
theorem de_revS (h : DE X e ρ S fun d S1 => ∃ z, d = .str z ∧ z.length ≤ sizeLine ∧ Φ (.str ⟨z.cps.toList.reverse.toArray⟩) S1) : DE X (.Subscript e (.Slice none none (some (.UnaryOp .USub (.Constant (.int 1) kk p1) p2)) p3) pos) ρ S Φ := DE.of (pe_revS pe_w) fun Zh σ H Q E P => h.bind E fun v H1 d S1 k1 g1 E1 r1 h1 => by
  obtain ⟨z, rfl, hz, q⟩ := h1
  exact ⟨z, r1.str, hz, (P.next k1 g1).here E1.st rep_str q⟩
/-! ### {"a": "b", ..}[e], four pairs -/
theorem dlit4 {a1 a2 a3 a4 b1 b2 b3 b4 : Str} {i1 i2 i3 i4 j1 j2 j3 j4 : Nat} {s1 s2 s3 s4 t1 t2 t3 t4 dp : Pos} : PE X (.Dict [some (.Constant (.str a1) i1 s1), some (.Constant (.str a2) i2 s2), some (.Constant (.str a3) i3 s3), some (.Constant (.str a4) i4 s4)] [.Constant (.str b1) j1 t1, .Constant (.str b2) j2 t2, .Constant (.str b3) j3 t3, .Constant (.str b4) j4 t4] dp)
   (tDisp [(tC (.str a1), tC (.str b1)), (tC (.str a2), tC (.str b2)), (tC (.str a3), tC (.str b3)), (tC (.str a4), tC (.str b4))]) :=
  pe_disp (pps_cons pe_str pe_str (pps_cons pe_str pe_str (pps_cons pe_str pe_str (pps_cons pe_str pe_str pps_nil)))) rfl rfl (List.cons_ne_nil _ _) (Nat.le_of_ble_eq_true rfl)
theorem disp4 {a1 a2 a3 a4 b1 b2 b3 b4 : Str} {σ : L2.St} {H : Hp} {Q : VK} (h : ∀ p, H p = none → Q (.ref p) (upd (upd H p (.dK [])) p (.dK (mergeK [] [(Sum.inr a1, V.str b1), (Sum.inr a2, V.str b2), (Sum.inr a3, V.str b3), (Sum.inr a4, V.str b4)])))) :
  tDisp [(tC (.str a1), tC (.str b1)), (tC (.str a2), tC (.str b2)), (tC (.str a3), tC (.str b3)), (tC (.str a4), tC (.str b4))] σ H Q := fun p hp => ⟨upd_same, [(Sum.inr a1, V.str b1), (Sum.inr a2, V.str b2), (Sum.inr a3, V.str b3), (Sum.inr a4, V.str b4)], rfl, Nat.le_of_ble_eq_true rfl, h p hp⟩
/-! ### {"a": "b", ..}[e], four pairs -/
theorem tA {o : Expr} {td : TE} (p0 : PE X o td) (hs : NoSl e) (hu : X.A.units + 1 < cLine) : PE X (.Subscript o e pos) (tDGet td (tW X e)) := pe_dget hu p0 pe_w hs
theorem tB {o : Expr} {td : TE} (p0 : PE X o td) (hs : NoSl e) (hu : X.A.units + 1 < cLine) (h : ∀ Zh σ H Q, Ev X.K Zh H σ ρ S → Post X.K Zh H S Φ Q → tDGet td (tW X e) σ H Q) : DE X (.Subscript o e pos) ρ S Φ := DE.of (tA p0 hs hu) h
theorem de_dlit4 {a1 a2 a3 a4 b1 b2 b3 b4 : Str} {i1 i2 i3 i4 j1 j2 j3 j4 : Nat} {s1 s2 s3 s4 t1 t2 t3 t4 dp : Pos} (A : At X P w K mg base tb names k) (hs : NoSl e)
    (h : DE X e ρ S fun d S1 => ∃ z r, d = .str z ∧ valV (mergeK [] [(Sum.inr a1, V.str b1), (Sum.inr a2, V.str b2), (Sum.inr a3, V.str b3), (Sum.inr a4, V.str b4)]) (Sum.inr z) = some (V.str r) ∧ Φ (.str r) S1) :
    DE X (.Subscript (.Dict [some (.Constant (.str a1) i1 s1), some (.Constant (.str a2) i2 s2), some (.Constant (.str a3) i3 s3), some (.Constant (.str a4) i4 s4)] [.Constant (.str b1) j1 t1, .Constant (.str b2) j2 t2, .Constant (.str b3) j3 t3, .Constant (.str b4) j4 t4] dp) e pos) ρ S Φ := by
  have hu : X.A.units + 1 < cLine := Nat.lt_of_le_of_lt (Nat.add_le_add_left (Nat.le_of_ble_eq_true rfl) _) A.room.units
  have p0 := @dlit4 X a1 a2 a3 a4 b1 b2 b3 b4 i1 i2 i3 i4 j1 j2 j3 j4 s1 s2 s3 s4 t1 t2 t3 t4 dp
  generalize Expr.Dict _ _ _ = o at p0 ⊢
  refine tB p0 hs hu fun Zh σ H Q E P => ?_
  generalize hm : mergeK [] [(Sum.inr a1, V.str b1), (Sum.inr a2, V.str b2), (Sum.inr a3, V.str b3), (Sum.inr a4, V.str b4)] = m at h
  refine disp4 fun p hp => ?_
  rw [hm]
  have g0 : Grow (keys S) H (upd (upd H p (.dK [])) p (.dK m)) := fun b x n hb => by
    rw [upd_ne (ne_of_none hb hp), upd_ne (ne_of_none hb hp)]
    exact hb
  have st1 := E.st.keep (H' := upd (upd H p (.dK [])) p (.dK m)) fun b x hb => by
    rw [upd_ne (ne_of_none hb hp), upd_ne (ne_of_none hb hp)]
    exact hb
  have hpk : p ∉ keys S := fun m => by
    obtain ⟨vs, e1⟩ := E.st.zl p m
    rw [hp] at e1
    cases e1
  refine h.bind (E.next rfl g0 st1) fun v H1 d S1 k1 g1 E1 r1 h1 => ?_
  obtain ⟨z, r, rfl, hz, q⟩ := h1
  refine ⟨p, .str r, rfl, ?_, ((P.next rfl g0).next k1 g1).here E1.st rep_str q⟩
  rw [r1.str, ← hz]
  exact DGet.k (k := Sum.inr z) (g1 _ _ hpk upd_same)
end
end Ar
namespace Ar
open PySem PySem.Spec PyProof.Rows L2
/-! ### the plain law of k03 -/
abbrev Pr (k : Int) : Int := k * (k - 1) / 2
theorem pr_two (k : Int) : 2 * Pr k = k * (k - 1) := by
  have h : k * (k - 1) % 2 = 0 := by
    have h2 : k % 2 = 0 ∨ k % 2 = 1 := by omega
    rw [Int.mul_emod]
    rcases h2 with h2 | h2
    · rw [h2, Int.zero_mul]
      rfl
    · have : (k - 1) % 2 = 0 := by omega
      rw [this, Int.mul_zero]
      rfl
  show 2 * (k * (k - 1) / 2) = _
  omega
theorem pr_add (a b : Int) : Pr (a + b) = Pr a + Pr b + a * b := by
  have h1 := pr_two (a + b)
  have h2 := pr_two a
  have h3 := pr_two b
  have h : 2 * Pr (a + b) = 2 * (Pr a + Pr b + a * b) := by grind
  omega
theorem pr_three (a : Int) : Pr (3 * a) = 3 * Pr a + 3 * (a * a) := by
  have h1 := pr_two (3 * a)
  have h2 := pr_two a
  have h : 2 * Pr (3 * a) = 2 * (3 * Pr a + 3 * (a * a)) := by grind
  omega
theorem pr_neg (a : Int) : Pr (-a) = Pr a + a := by
  have h1 := pr_two (-a)
  have h2 := pr_two a
  have h : 2 * Pr (-a) = 2 * (Pr a + a) := by grind
  omega
/-! runs that do a deed -/
theorem doR_append : ∀ (l m : List Run) (t : T3), doR (l ++ m) t = doR m (doR l t)
  | [], m, t => rfl
  | r :: l, m, t => doR_append l m _
/-- two runs with one letter do as one -/
theorem doR_two {c : Nat} {a b : Int} {l : List Run} {t : T3} (h : Ltr c) : doR ((c, a + b) :: l) t = doR ((c, a) :: (c, b) :: l) t := by
  obtain ⟨x, y, z⟩ := t
  simp only [doR]
  congr 1
  rcases h with rfl | rfl | rfl | rfl <;> simp [dx, dy] <;> grind
theorem doR_tog : ∀ (l acc : List Run), LetR l → (∀ r, r ∈ l → 0 ≤ r.2) → LetR acc → doR (runTog acc l) (0, 0, 0) = doR (acc ++ l) (0, 0, 0)
  | [], acc, _, _, _ => by simp [runTog]
  | r :: l, acc, hl, h0, ha => by
    have hl' : LetR l := fun u hu => hl u (List.mem_cons_of_mem _ hu)
    have h0' : ∀ u, u ∈ l → 0 ≤ u.2 := fun u hu => h0 u (List.mem_cons_of_mem _ hu)
    have hr : Ltr r.1 := hl r List.mem_cons_self
    by_cases hk : 0 < r.2
    · rcases nil_or_last acc with rfl | ⟨ini, u, rfl⟩
      · rw [runTog_nil hk, doR_tog l [r] hl' h0' (fun v hv => by rw [List.mem_singleton.mp hv]; exact hr)]
        rfl
      · by_cases e : u.1 = r.1
        · rw [runTog_eq hk e, doR_tog l _ hl' h0' (fun v hv => by
            rcases List.mem_append.mp hv with q | q
            · exact ha v (List.mem_append_left _ q)
            · rw [List.mem_singleton.mp q]
              exact hr)]
          simp only [List.append_assoc, List.cons_append, List.nil_append, doR_append]
          show doR ((r.1, u.2 + r.2) :: l) _ = doR (u :: r :: l) _
          rw [doR_two hr]
          obtain ⟨a, b⟩ := u
          obtain ⟨c, d⟩ := r
          cases (show a = c from e)
          rfl
        · rw [runTog_ne hk e, doR_tog l _ hl' h0' (fun v hv => by
            rcases List.mem_append.mp hv with q | q
            · exact ha v q
            · rw [List.mem_singleton.mp q]
              exact hr)]
          rw [List.append_assoc]
          rfl
    · have hz : r.2 = 0 := by
        have := h0 r List.mem_cons_self
        omega
      rw [runTog_skip hk, doR_tog l acc hl' h0' ha, doR_append, doR_append]
      obtain ⟨a, b⟩ := r
      cases (show b = 0 from hz)
      show _ = doR l _
      simp
theorem rows_do (x y z : Int) : doR (rowsOf x y z) (0, 0, 0) = (x, y, z) := by
  unfold rowsOf sRun
  by_cases hx : 0 ≤ x <;> by_cases hy : 0 ≤ y <;> by_cases hz : 0 ≤ z <;> by_cases h0 : z = 0 <;> simp [hx, hy, hz, h0, doR, dx, dy] <;> grind
def Nb (l : List Nat) : Prop := ∀ (i : Nat) (a b : Nat), l[i]? = some a → l[i + 1]? = some b → a ≠ b
theorem nb_snoc {ini : List Nat} {a b : Nat} (h : Nb (ini ++ [a])) (hab : a ≠ b) : Nb (ini ++ [a] ++ [b]) := fun i c d h1 h2 => by
  by_cases hi : i + 1 < (ini ++ [a]).length
  · rw [List.getElem?_append_left (by omega)] at h1
    rw [List.getElem?_append_left hi] at h2
    exact h i c d h1 h2
  · have hl : i + 1 < (ini ++ [a] ++ [b]).length := (List.getElem?_eq_some_iff.mp h2).1
    simp only [List.length_append, List.length_cons, List.length_nil] at hi hl
    have hi2 : i = ini.length := by omega
    subst hi2
    have e1 : (ini ++ [a] ++ [b])[ini.length]? = some a := by
      rw [List.getElem?_append_left (by simp), List.getElem?_append_right (Nat.le_refl _), Nat.sub_self]
      rfl
    have e2 : (ini ++ [a] ++ [b])[ini.length + 1]? = some b := by
      rw [List.getElem?_append_right (by simp)]
      simp
    rw [e1] at h1
    rw [e2] at h2
    cases h1
    cases h2
    exact hab
structure Gd (N : Nat) (l : List Run) : Prop where
  each : ∀ r, r ∈ l → Ltr r.1 ∧ 0 < r.2 ∧ Bd N r.2
  nb : Nb (l.map (·.1))
theorem tog_good : ∀ (l acc : List Run) (N : Nat), (∀ r, r ∈ l → Ltr r.1 ∧ Bd N r.2) → Gd N acc → Gd (N + l.length) (runTog acc l) ∧ (runTog acc l).length ≤ acc.length + l.length
  | [], acc, N, _, ha => ⟨by simpa [runTog] using ha, by simp [runTog]⟩
  | r :: l, acc, N, hl, ha => by
    have hl' : ∀ u, u ∈ l → Ltr u.1 ∧ Bd (N + 1) u.2 := fun u hu => ⟨(hl u (List.mem_cons_of_mem _ hu)).1, (hl u (List.mem_cons_of_mem _ hu)).2.mono (by omega)⟩
    obtain ⟨hr, hb⟩ := hl r List.mem_cons_self
    have ha1 : Gd (N + 1) acc := ⟨fun u hu => ⟨(ha.each u hu).1, (ha.each u hu).2.1, (ha.each u hu).2.2.mono (by omega)⟩, ha.nb⟩
    have fin : ∀ acc1 : List Run, acc1.length ≤ acc.length + 1 → Gd (N + 1) acc1 → Gd (N + (r :: l).length) (runTog acc1 l) ∧ (runTog acc1 l).length ≤ acc.length + (r :: l).length := fun acc1 h1 h2 => by
      obtain ⟨a, b⟩ := tog_good l acc1 (N + 1) hl' h2
      rw [List.length_cons]
      refine ⟨?_, by omega⟩
      rw [show N + (l.length + 1) = N + 1 + l.length by omega]
      exact a
    by_cases hk : 0 < r.2
    · rcases nil_or_last acc with rfl | ⟨ini, u, rfl⟩
      · rw [runTog_nil hk]
        refine fin _ (by simp) ⟨fun v hv => ?_, fun i a b h1 h2 => ?_⟩
        · rw [List.mem_singleton.mp hv]
          exact ⟨hr, hk, hb.mono (by omega)⟩
        · have := (List.getElem?_eq_some_iff.mp h2).1
          simp at this
      · by_cases e : u.1 = r.1
        · rw [runTog_eq hk e]
          have hu := ha.each u (List.mem_append_right _ (List.mem_singleton.mpr rfl))
          refine fin _ (by simp) ⟨fun v hv => ?_, ?_⟩
          · rcases List.mem_append.mp hv with q | q
            · exact ha1.each v (List.mem_append_left _ q)
            · rw [List.mem_singleton.mp q]
              exact ⟨hr, by have := hu.2.1; show 0 < u.2 + r.2; omega, hu.2.2.add2 hb⟩
          · have hn := ha.nb
            rw [List.map_append] at hn ⊢
            show Nb (ini.map (·.1) ++ [r.1])
            rw [← e]
            exact hn
        · rw [runTog_ne hk e]
          refine fin _ (by simp) ⟨fun v hv => ?_, ?_⟩
          · rcases List.mem_append.mp hv with q | q
            · exact ha1.each v q
            · rw [List.mem_singleton.mp q]
              exact ⟨hr, hk, hb.mono (by omega)⟩
          · have hn := ha.nb
            rw [List.map_append] at hn
            rw [List.map_append, List.map_append]
            exact nb_snoc hn e
    · rw [runTog_skip hk]
      exact fin _ (by omega) ha1
theorem gd_good {N : Nat} {l : List Run} (h : Gd N l) (hl : l.length ≤ 200) : GoodR l := ⟨hl, fun r hr => ⟨(h.each r hr).1, (h.each r hr).2.1⟩, fun i r u h1 h2 => h.nb i r.1 u.1 (by rw [List.getElem?_map, h1]; rfl) (by rw [List.getElem?_map, h2]; rfl)⟩
theorem rows_each {N : Nat} {x y z : Int} (h64 : 1 ≤ N) (hx : Bd N x) (hy : Bd N y) (hz : Bd N z) : ∀ r, r ∈ rowsOf x y z → (Ltr r.1 ∧ Bd N r.2) ∧ 0 ≤ r.2 := fun r hr => by
  have abs : ∀ m : Int, Bd N m → Bd N (if 0 ≤ m then m else -m) ∧ 0 ≤ (if 0 ≤ m then m else -m) := fun m hm => by
    split
    · exact ⟨hm, by omega⟩
    · exact ⟨hm.neg, by omega⟩
  have one : Bd N 1 := (Bd.lit (n := 1) rfl).mono h64
  have l := ltr_rows r hr
  suffices h : Bd N r.2 ∧ 0 ≤ r.2 from ⟨⟨l, h.1⟩, h.2⟩
  unfold rowsOf at hr
  split at hr
  · simp only [List.cons_append, List.nil_append, List.mem_cons, List.not_mem_nil, or_false] at hr
    rcases hr with rfl | rfl | rfl | rfl | rfl | rfl
    · exact abs y hy
    · exact abs x hx
    · exact ⟨one, by decide⟩
    · exact abs z hz
    · exact ⟨one, by decide⟩
    · exact abs z hz
  · simp only [List.append_nil, List.mem_cons, List.not_mem_nil, or_false] at hr
    rcases hr with rfl | rfl
    · exact abs y hy
    · exact abs x hx
/-- what a law needs of plain runs -/
theorem plain_good {x y z : Int} (hx : Bd 1500 x) (hy : Bd 1500 y) (hz : Bd 1500 z) : GoodR (runTog [] (rowsOf x y z)) ∧ (∀ r, r ∈ runTog [] (rowsOf x y z) → Bd 2000 r.2) ∧ doR (runTog [] (rowsOf x y z)) (0, 0, 0) = (x, y, z) := by
  have he := rows_each (N := 1500) (by decide) hx hy hz
  have hl := rows_len (x := x) (y := y) (z := z)
  obtain ⟨a, b⟩ := tog_good (rowsOf x y z) [] 1500 (fun r hr => (he r hr).1) ⟨(by intro r hr; cases hr), (by intro i a b h1 h2; simp at h1)⟩
  rw [List.length_nil] at b
  refine ⟨gd_good a (by omega), fun r hr => (a.each r hr).2.2.mono (by omega), ?_⟩
  rw [doR_tog _ _ (fun r hr => (he r hr).1.1) (fun r hr => (he r hr).2) (by intro r hr; cases hr)]
  exact rows_do x y z
/-! letters turned, mirrored, read back -/
abbrev trn (t : T3) : T3 := (-t.2.1, t.1, t.2.2 - t.1 * t.2.1)
def spin1 (c : Nat) : Nat := if c = 114 then 117 else if c = 117 then 108 else if c = 108 then 100 else 114
def spinN : Nat → Nat → Nat
  | 0, c => c
  | n + 1, c => spinN n (spin1 c)
theorem ltr_spin1 {c : Nat} (h : Ltr c) : Ltr (spin1 c) := by
  rcases h with rfl | rfl | rfl | rfl
  · exact .inr (.inl rfl)
  · exact .inr (.inr (.inl rfl))
  · exact .inr (.inr (.inr rfl))
  · exact .inl rfl
theorem doW_spin1 : ∀ (cs : List Nat) (t : T3), LetW cs → doW (cs.map spin1) (trn t) = trn (doW cs t)
  | [], t, _ => rfl
  | c :: cs, t, h => by
    have ih := doW_spin1 cs (t.1 + dx c, t.2.1 + dy c, t.2.2 + t.1 * dy c) h.tail
    obtain ⟨x, y, z⟩ := t
    rw [List.map_cons, doW, doW, ← ih]
    congr 1
    rcases h.head with rfl | rfl | rfl | rfl <;> simp [dx, dy, spin1, trn] <;> grind
theorem turnN_trn : ∀ (n : Nat) (t : T3), turnN n t = trn (turnN n t) ∨ True := fun _ _ => .inr trivial
theorem letW_map {f : Nat → Nat} (hf : ∀ c, Ltr c → Ltr (f c)) {cs : List Nat} (h : LetW cs) : LetW (cs.map f) := fun d hd => by
  obtain ⟨c, hc, rfl⟩ := List.mem_map.mp hd
  exact hf c (h c hc)
theorem doW_spin : ∀ (n : Nat) (cs : List Nat), LetW cs → doW (cs.map (spinN n)) (0, 0, 0) = turnN n (doW cs (0, 0, 0))
  | 0, cs, _ => by
    have e : spinN 0 = id := by funext c; rfl
    rw [e, List.map_id]
    rfl
  | n + 1, cs, h => by
    have e : cs.map (spinN (n + 1)) = (cs.map spin1).map (spinN n) := by
      rw [List.map_map]
      rfl
    rw [e, doW_spin n _ (letW_map (fun _ => ltr_spin1) h)]
    have z := doW_spin1 cs (0, 0, 0) h
    have e0 : trn (0, 0, 0) = (0, 0, 0) := by decide
    rw [e0] at z
    rw [z]
    rfl
def flip1 (c : Nat) : Nat := if c = 114 then 108 else if c = 108 then 114 else c
theorem ltr_flip1 {c : Nat} (h : Ltr c) : Ltr (flip1 c) := by
  rcases h with rfl | rfl | rfl | rfl
  · exact .inr (.inr (.inl rfl))
  · exact .inr (.inl rfl)
  · exact .inl rfl
  · exact .inr (.inr (.inr rfl))
theorem doW_flip : ∀ (cs : List Nat) (t : T3), LetW cs → doW (cs.map flip1) (-t.1, t.2.1, -t.2.2) = (-(doW cs t).1, (doW cs t).2.1, -(doW cs t).2.2)
  | [], t, _ => rfl
  | c :: cs, t, h => by
    have ih := doW_flip cs (t.1 + dx c, t.2.1 + dy c, t.2.2 + t.1 * dy c) h.tail
    obtain ⟨x, y, z⟩ := t
    rw [List.map_cons, doW, doW, ← ih]
    congr 1
    rcases h.head with rfl | rfl | rfl | rfl <;> simp [dx, dy, flip1] <;> grind
theorem doW_from : ∀ (cs : List Nat) (t : T3), doW cs t = joinT t (doW cs (0, 0, 0))
  | [], t => by
    obtain ⟨x, y, z⟩ := t
    simp [doW, joinT]
  | c :: cs, t => by
    obtain ⟨x, y, z⟩ := t
    have h1 := doW_from cs (x + dx c, y + dy c, z + x * dy c)
    have h2 := doW_from cs (0 + dx c, 0 + dy c, 0 + 0 * dy c)
    show doW cs (x + dx c, y + dy c, z + x * dy c) = joinT (x, y, z) (doW cs (0 + dx c, 0 + dy c, 0 + 0 * dy c))
    rw [h1, h2]
    simp only [joinT]
    generalize doW cs (0, 0, 0) = u
    obtain ⟨p, q, s⟩ := u
    refine Prod.ext ?_ (Prod.ext ?_ ?_) <;> grind
theorem doW_append : ∀ (cs es : List Nat) (t : T3), doW (cs ++ es) t = doW es (doW cs t)
  | [], es, t => rfl
  | c :: cs, es, t => doW_append cs es _
theorem dxdy {c : Nat} (h : Ltr c) : dx c * dy c = 0 := by
  rcases h with rfl | rfl | rfl | rfl <;> rfl
theorem doW_rev : ∀ (cs : List Nat), LetW cs → doW cs.reverse (0, 0, 0) = ((doW cs (0, 0, 0)).1, (doW cs (0, 0, 0)).2.1, (doW cs (0, 0, 0)).1 * (doW cs (0, 0, 0)).2.1 - (doW cs (0, 0, 0)).2.2)
  | [], _ => rfl
  | c :: cs, h => by
    have hd := dxdy h.head
    have h2 := doW_from cs (0 + dx c, 0 + dy c, 0 + 0 * dy c)
    have h3 : doW (c :: cs) (0, 0, 0) = doW cs (0 + dx c, 0 + dy c, 0 + 0 * dy c) := rfl
    rw [List.reverse_cons, doW_append, doW_rev cs h.tail, h3, h2]
    simp only [joinT, doW]
    clear h2 h3 h
    generalize doW cs (0, 0, 0) = u
    obtain ⟨p, q, s⟩ := u
    refine Prod.ext ?_ (Prod.ext ?_ ?_) <;> grind
/-- the law, behind its module -/
def cLaw : Spec := fun ds S Φ => ∃ is : List Int, ds = [.frz (is.map D.int)] ∧ is.length ≤ 63 ∧ S = [] ∧ ∀ S', Φ (.bl true) S'
theorem ite_merge {X : Cx} {a b : Expr} {ρ : Ro} {S : Sto} {Φ : D → Sto → Prop} {c : Bool} (Ψ : D → Sto → Prop) (h1 : c = true → DE X a ρ S Ψ) (h2 : c = false → DE X b ρ S Ψ) (k : ∀ d S1, Ψ d S1 → Φ d S1) : if c = true then DE X a ρ S Φ else DE X b ρ S Φ := by
  cases c with
  | true => exact (h1 rfl).mono k
  | false => exact (h2 rfl).mono k
def idxR (c : Nat) : Nat := if c = 114 then 0 else if c = 117 then 1 else if c = 108 then 2 else 3
theorem occ_ltr {c : Nat} (h : Ltr c) : Builtin.Str.occurrences (Str.ofString "ruld") ⟨#[c]⟩ 0 (Str.ofString "ruld").length 1 = [idxR c] := by
  rcases h with rfl | rfl | rfl | rfl <;> decide +kernel
theorem spin_at {c : Nat} (h : Ltr c) (q : Int) : atI (Str.ofString "ruld").cps.toList (((idxR c : Int) + q) % 4) = some (spinN (q % 4).toNat c) := by
  have h0 := Int.emod_nonneg q (b := 4) (by decide)
  have h1 := Int.emod_lt_of_pos q (b := 4) (by decide)
  have hq : q % 4 = 0 ∨ q % 4 = 1 ∨ q % 4 = 2 ∨ q % 4 = 3 := by omega
  have e : ((idxR c : Int) + q) % 4 = ((idxR c : Int) + q % 4) % 4 := by omega
  rw [e]
  rcases h with rfl | rfl | rfl | rfl <;> rcases hq with hq | hq | hq | hq <;> rw [hq] <;> decide +kernel
theorem ltr_spinN : ∀ (n : Nat) {c : Nat}, Ltr c → Ltr (spinN n c)
  | 0, _, h => h
  | n + 1, _, h => ltr_spinN n (ltr_spin1 h)
def fD (g : Nat → Nat) (d : D) : D := match d with
  | .str z => ch (g (z.cps.getD 0 0))
  | d => d
theorem fD_map {g : Nat → Nat} {cs : List Nat} : (charsD (wd cs)).map (fD g) = ((cs.map g).map fun c => (⟨#[c]⟩ : Str)).map D.str := by
  rw [chars_wd, List.map_map, List.map_map, List.map_map]
  rfl
theorem val_ltr {c : Nat} (h : Ltr c) : valV (mergeK [] [(Sum.inr (Str.ofString "r"), V.str (Str.ofString "l")), (Sum.inr (Str.ofString "l"), V.str (Str.ofString "r")), (Sum.inr (Str.ofString "u"), V.str (Str.ofString "u")), (Sum.inr (Str.ofString "d"), V.str (Str.ofString "d"))]) (Sum.inr (⟨#[c]⟩ : Str)) = some (V.str ⟨#[flip1 c]⟩) := by
  rcases h with rfl | rfl | rfl | rfl <;> rfl
theorem bd_doW : ∀ (cs : List Nat) (t : T3) (n : Nat), LetW cs → n + cs.length ≤ 1000 → Bd (10 + n) t.1 → Bd (10 + n) t.2.1 → Bd (100 + 2 * n) t.2.2 → Bd3 3000 (doW cs t)
  | [], t, n, _, hl, h1, h2, h3 => by
    rw [List.length_nil] at hl
    exact ⟨h1.mono (by omega), h2.mono (by omega), h3.mono (by omega)⟩
  | c :: cs, t, n, hw, hl, h1, h2, h3 => by
    rw [List.length_cons] at hl
    have hc := hw.head
    have bx : Bd 10 (dx c) := by rcases hc with rfl | rfl | rfl | rfl <;> exact Bd.lit rfl
    have by_ : Bd 10 (dy c) := by rcases hc with rfl | rfl | rfl | rfl <;> exact Bd.lit rfl
    refine bd_doW cs _ (n + 1) hw.tail (by omega) (h1.add2 (bx.mono (by omega))) (h2.add2 (by_.mono (by omega))) ?_
    have hm : Bd (100 + 2 * n) (t.1 * dy c) := (h1.mul by_).mono (by omega)
    exact (h3.add2 hm).mono (by omega)
theorem cutS_wd {cs : List Nat} {lo hi : Option Int} (h : LetW cs) : ∃ es, cutS (wd cs) lo hi = wd es ∧ LetW es ∧ es.length ≤ cs.length := by
  refine ⟨_, rfl, fun c hc => h c ?_, ?_⟩
  · have := List.mem_of_mem_take hc
    have := List.mem_of_mem_drop this
    simpa using this
  · rw [List.length_take, List.length_drop]
    simp
    omega
theorem wd_len {cs : List Nat} : (wd cs).length = cs.length := by
  show cs.toArray.size = _
  simp
theorem wd_append {cs es : List Nat} : wd cs ++ wd es = wd (cs ++ es) := by
  show (⟨cs.toArray ++ es.toArray⟩ : Str) = _
  simp
theorem LetW.append {cs es : List Nat} (h : LetW cs) (k : LetW es) : LetW (cs ++ es) := fun c hc => (List.mem_append.mp hc).elim (h c) (k c)
end Ar
namespace Ar
open PySem PySem.Spec PyProof.Rows L2
/-! ### t[::-1] -/
section
variable {prog : Program} {w : World} {A : Around} {E : Value → Shared → Prop} {s : Shared}
theorem applied_rev {sl : Addr} {vl vu vs : Value} {n : Nat} {Q : Int × Int × Nat → Shared → Prop} (hs : s.heap.IsSliceOf sl vl vu vs) (pl : IsPart vl none) (pu : IsPart vu none) (ps : IsPart vs (some (-1)))
    (h : Q ((n : Int) - 1, -1, n) s) : wpAny (model prog w) A (Builtin.Slice.sliceApplied (.ref sl) (pure (n : Int))) Q E s := by
  obtain ⟨os, hos, hcs, hds⟩ := id hs
  unfold Builtin.Slice.sliceApplied Builtin.Slice.sliceFields
  refine wpAny_bind (wpAny_bind (wpAny_field hos hds (x := vl) rfl (wpAny_bind (wpAny_field hos hds (x := vu) rfl (wpAny_bind (wpAny_field hos hds (x := vs) rfl (wpAny_pure ?_)))))))
  refine wpAny_bind (HT.slicePart_ ps ?_)
  show wpAny _ _ (if ((-1 : Int) == 0) = true then _ else _) _ _ s
  rw [if_neg (by decide)]
  refine wpAny_bind (HT.slicePart_ pl (wpAny_bind (HT.slicePart_ pu (wpAny_bind (wpAny_pure ?_)))))
  have e1 : Builtin.Slice.sliceAdjust none none (-1) (n : Int) = ((n : Int) - 1, -1) := rfl
  show wpAny _ _ (match Builtin.Slice.sliceAdjust none none (-1) (n : Int) with | (lo, hi) => pure (lo, (-1 : Int), Builtin.Slice.slicePlaces lo hi (-1))) _ _ s
  rw [e1]
  have e2 : Builtin.Slice.slicePlaces ((n : Int) - 1) (-1) (-1) = n := by
    unfold Builtin.Slice.slicePlaces
    rw [if_neg (by omega)]
    split
    · show (((n : Int) - 1 - -1 - 1) / 1 + 1).toNat = n
      rw [Int.ediv_one]
      omega
    · show (0 : Int).toNat = n
      have : (0 : Int).toNat = 0 := rfl
      omega
  show wpAny _ _ (pure ((n : Int) - 1, (-1 : Int), Builtin.Slice.slicePlaces ((n : Int) - 1) (-1) (-1))) _ _ s
  rw [e2]
  exact wpAny_pure h
theorem fm_get (c : Array Value) (g : Nat → Nat) : ∀ l : List Nat, (∀ i, i ∈ l → g i < c.size) → l.filterMap (fun (m : Nat) => c[g m]?) = l.map (fun m => c.getD (g m) .none)
  | [], _ => rfl
  | i :: r, h => by
    have hi := h i List.mem_cons_self
    have e : c[g i]? = some (c.getD (g i) .none) := by simp [Array.getD, hi]
    rw [List.filterMap_cons, e, List.map_cons, fm_get c g r fun j hj => h j (List.mem_cons_of_mem _ hj)]
theorem pick_rev0 (xs : Array Value) : ((List.range xs.size).filterMap fun (m : Nat) => xs[(((xs.size : Nat) : Int) - 1 + (m : Int) * -1).toNat]?) = xs.toList.reverse := by
  rw [fm_get xs (fun m => (((xs.size : Nat) : Int) - 1 + (m : Int) * -1).toNat) _ (fun i hi => by
    have := List.mem_range.mp hi
    omega)]
  apply List.ext_getElem
  · simp
  · intro j h1 h2
    have hj : j < xs.size := by simpa using h1
    have e2 : (((xs.size : Nat) : Int) - 1 + (j : Int) * -1).toNat = xs.size - 1 - j := by omega
    simp only [List.getElem_map, List.getElem_range, List.getElem_reverse, Array.getElem_toList, Array.length_toList, e2]
    simp [Array.getD, show xs.size - 1 - j < xs.size by omega]
theorem pick_rev (xs : Array Value) : ((List.range xs.size).filterMap fun (m : Nat) => xs[(((xs.size : Nat) : Int) - 1 + (m : Int) * -1).toNat]?).toArray = xs.toList.reverse.toArray := by
  rw [pick_rev0]
theorem getItem_tuple_rev {t sl : Addr} {items : Array Value} {vl vu vs : Value} {Q : Value → Shared → Prop} (ht : IsTup s.heap t items) (hs : s.heap.IsSliceOf sl vl vu vs) (pl : IsPart vl none) (pu : IsPart vu none) (ps : IsPart vs (some (-1)))
    (h : Q (.ref s.heap.objs.size) { s with heap := s.heap.push { cls := .type "tuple", data := .seq items.toList.reverse.toArray } })
    (hsz : items.size ≤ sizeLine) : wpAny (model prog w) A (getItem (.ref t) (.ref sl)) Q E s := by
  have htake : sizeOk (.seq items.toList.reverse.toArray) := by
    show items.toList.reverse.toArray.size ≤ sizeLine
    rw [List.size_toArray, List.length_reverse, Array.length_toList]
    exact hsz
  obtain ⟨os, hos, hcs, hds⟩ := id hs
  have hTs : s.TypeIs (.ref sl) "slice" := ⟨os, hos, hcs⟩
  unfold getItem
  try with_reducible refine wpAny_holding ?_
  first | refine wpAny_bind (wpAny_pure ?_) | skip
  refine wpAny_bind (wpAny_sequenceKey ht.typeIs (by decide) ?_)
  refine wpAny_bind (wpAny_callSpecial?_slot (name := Str.ofString "__getitem__") ht.typeIs PyProof.Rows.slot_tuple_getitem
    (wpAny_call_entry PyProof.Rows.slot_tuple_getitem ht.typeIs PyProof.Rows.entry_tuple_getitem ?_ (PyProof.Rows.args_tuple_getitem _ _)))
  show wpAny _ _ (Builtin.Tuple.tupleItemsOf (.ref t) >>= _) _ _ s
  refine wpAny_bind (PyProof.Rows.tupleItemsOf_ ht ?_)
  refine wpAny_bind (wpAny_typeOf hTs ?_)
  rw [if_pos (by decide)]
  refine wpAny_bind (applied_rev hs pl pu ps ?_)
  have hno : ¬ ((((items.size : Nat) : Int) - 1 == 0 && (-1 : Int) == 1 && items.size == items.size) = true) := by
    intro q
    rw [Bool.and_eq_true, Bool.and_eq_true] at q
    exact absurd q.1.2 (by decide)
  show wpAny _ _ (if (((items.size : Nat) : Int) - 1 == 0 && (-1 : Int) == 1 && items.size == items.size) = true then _ else _) _ _ s
  rw [if_neg hno, pick_rev]
  first
    | exact wpAny_bind (m := Builtin.Tuple.tupleExact _) (wpAny_newObj_type (wpAny_pure ⟨_, rfl, wpAny_pure h⟩) htake)
    | exact wpAny_bind (m := Builtin.Tuple.tupleExact _) (wpAny_newObj_type (wpAny_bind (wpAny_pure (wpAny_pure ⟨_, rfl, wpAny_pure h⟩))) htake)
    | exact wpAny_bind (wpAny_bind (m := Builtin.Tuple.tupleExact _) (wpAny_newObj_type (wpAny_pure (wpAny_pure ⟨_, rfl, wpAny_pure h⟩)) htake))
    | exact wpAny_bind (wpAny_bind (m := Builtin.Tuple.tupleExact _) (wpAny_newObj_type (wpAny_pure ⟨_, rfl, wpAny_pure h⟩) htake))
end
theorem pe_revT {X : Cx} {e : Expr} {te : TE} {k : Nat} {p1 p2 p3 pos : Pos} (he : PE X e te) : PE X (.Subscript e (.Slice none none (some (.UnaryOp .USub (.Constant (.int 1) k p1) p2)) p3) pos) (fun σ H Q => te σ H fun x H1 => ∃ a xs, x = .ref a ∧ SqT X.K H1 a xs ∧ ∀ p, H1 p = none → Q (.ref p) (upd H1 p (.tup xs.reverse))) := by
  refine ⟨fun pins s σ H Q I h => ?_⟩
  refine Subscript_ (thn (he.run pins s σ H _ I h) fun v s1 ⟨x, H1, I1, r1, q1⟩ => ?_)
  obtain ⟨a, xs, ex, hx, q⟩ := q1
  subst ex
  cases r1
  have hst : PO X (some (.UnaryOp .USub (.Constant (.int 1) k p1) p2)) (tPart (tUn (rU fun i => .int (-i)) (tC (.int 1)))) := po_some (pe_un un_neg pe_int)
  refine wpAny_Slice (thn (po_none.run pins s1 σ H1 (fun o H2 => o = none ∧ H2 = H1) I1 ⟨rfl, rfl⟩) fun vl s2 ⟨l, H2, I2, pl, el, e2⟩ => ?_)
  subst el e2
  refine thn (po_none.run pins s2 σ H2 (fun o H3 => o = none ∧ H3 = H2) I2 ⟨rfl, rfl⟩) fun vu s3 ⟨u, H3, I3, pu, eu, e3⟩ => ?_
  subst eu e3
  refine thn (hst.run pins s3 σ H3 (fun o H4 => o = some (-1) ∧ H4 = H3) I3 ⟨1, rfl, -1, rfl, rfl, rfl⟩) fun vs s4 ⟨o, H4, I4, ps, eo, e4⟩ => ?_
  subst eo e4
  have I5 : Inv X pins σ H4 { s4 with heap := s4.heap.push { cls := .type "slice", data := .fields #[vl, vu, vs] } } := I4.kept (t' := s4.toks) fun b ob q => Heap.get?_push_of_some _ q
  obtain ⟨its, r, ht, hz⟩ := I5.tuple hx
  have hlen := r.length
  show wpAny (model X.prog X.w) X.A (subscriptTail e (.Slice none none (some (.UnaryOp .USub (.Constant (.int 1) k p1) p2)) p3) (.ref a) (.ref s4.heap.objs.size)) (EP X pins σ Q) X.xe { s4 with heap := s4.heap.push { cls := .type "slice", data := .fields #[vl, vu, vs] } }
  refine tail_any (ops := [.ref a, .ref s4.heap.objs.size]) ht.typeIs (PyProof.Rows.slot_tuple_getitem.lookup) ?_ (by with_unfolding_all rfl)
  refine getItem_tuple_rev ht (Heap.IsSliceOf.new _ vl vu vs) pl pu ps ?_ (by rw [List.size_toArray]; omega)
  refine ⟨.ref _, _, I5.laid (t' := s4.toks) (o := .tup xs.reverse) (fun b ob q => Heap.get?_push_of_some _ q) (Nat.le_refl _) ?_, rfl, q _ (I5.hok.fresh (Nat.le_refl _))⟩
  exact ⟨by rw [List.length_reverse]; exact hz, _, r.reverse, IsTup.new _ _⟩


theorem RepL.rev {K : PySem.W.Frag} {Z : List Addr} {H : Hp} : ∀ {l : List D} {vs : List V}, RepL K Z H l vs → RepL K Z H l.reverse vs.reverse
  | [], vs, h => by
    rw [h.un0]
    exact .nil
  | d :: l, vs, h => by
    obtain ⟨v, r, rfl, h1, h2⟩ := h.uncons
    rw [List.reverse_cons, List.reverse_cons]
    exact (RepL.rev h2).append (.one h1)
section
variable {X : Cx} {ρ : Ro} {S : Sto} {Φ : D → Sto → Prop} {P : Program} {w : World} {K : PySem.W.Frag} {mg : Str → Option Value} {base : Heap} {tb : List (Str × Nat)} {names : List (Str × NameKind)} {k : Nat} {pos p p1 p2 p3 : Pos} {e e2 : Expr} {kk : Nat}
theorem de_revT (h : DE X e ρ S fun d S1 => ∃ l, d = .tup l ∧ Φ (.tup l.reverse) S1) : DE X (.Subscript e (.Slice none none (some (.UnaryOp .USub (.Constant (.int 1) kk p1) p2)) p3) pos) ρ S Φ := DE.of (pe_revT pe_w) fun Zh σ H Q E P => h.bind E fun v H1 d S1 k1 g1 E1 r1 h1 => by
  obtain ⟨l, rfl, q⟩ := h1
  obtain ⟨a, vs, rfl, sq, rl⟩ := r1.tup
  exact ⟨a, vs, rfl, sq, fun z hz => (P.next k1 g1).tup E1.st (RepL.rev rl) q hz⟩
/-! ### sums, the less of two -/
theorem da_two (he : starEach (e :: [e2]) X.env = (false, eval e X.env) :: starEach [e2] X.env) (he2 : starEach [e2] X.env = [(false, eval e2 X.env)]) {Ψ : List D → Sto → Prop} (h : DE X e ρ S fun d S1 => DE X e2 ρ S1 fun d2 S2 => Ψ [d, d2] S2) : DA X [e, e2] ρ S Ψ :=
  da_cons (DE.mono h fun d S1 h => da_one he2 h) he
theorem de_min2 (A : At X P w K mg base tb names k) (G : NoB mg) (hg : glB names "min" = true) (he : starEach (e :: [e2]) X.env = (false, eval e X.env) :: starEach [e2] X.env) (he2 : starEach [e2] X.env = [(false, eval e2 X.env)]) (hpl : (backTo pos (starEach [e2] X.env)).any (·.1) = false)
    (h : DE X e ρ S fun d S1 => DE X e2 ρ S1 fun d2 S2 => ∃ i j, d = .int i ∧ d2 = .int j ∧ Φ (.int (min i j)) S2) : DE X (.Call (.Name "min" p) [e, e2] [] pos) ρ S Φ := by
  refine de_cB A G (call_min2 A.calm) rfl (by rw [hg]; rfl) he hpl (da_two he he2 (DE.mono h fun d S1 h => DE.mono h fun d2 S2 ⟨i, j, e1, e2, q⟩ Zh H vs Q s r P => ?_))
  subst e1 e2
  obtain ⟨v, r1, rfl, rv, r⟩ := r.uncons
  obtain ⟨u, r2, rfl, ru, r⟩ := r.uncons
  cases r.un0
  refine ⟨i, j, by rw [rv.int, ru.int], P.here s rep_int ?_⟩
  have : (if j < i then j else i) = min i j := by
    by_cases h : j < i
    · rw [if_pos h]; omega
    · rw [if_neg h]; omega
  rw [this]
  exact q
theorem op_mulS : OpR X (binaryOp .Mult) (fun x y H Q => ∃ z n, x = .str z ∧ y = .int n ∧ MulOk z n ∧ Q (.str (Txt.mul z n)) H) := by
  intro pins s σ H x y v u Q I rx ry h
  obtain ⟨z, n, rfl, rfl, hok, q⟩ := h
  obtain ⟨t, rfl⟩ := rx
  obtain ⟨t', rfl⟩ := ry
  exact SB.mul hok fun t2 k => ⟨.str _, H, I.tok _, ⟨_, rfl⟩, q⟩
theorem do_mulS {z : Str} {n : Int} (c : MulOk z n) (q : Φ (.str (Txt.mul z n)) S) : DO X (binaryOp .Mult) (.str z) (.int n) S Φ := DO.of op_mulS fun Zh H x y Q st ra rb P => ⟨z, n, ra.str, rb.int, c, P.here st rep_str q⟩
theorem do_catT {l m : List D} (c : l.length + m.length ≤ sizeLine) (q : Φ (.tup (l ++ m)) S) : DO X (binaryOp .Add) (.tup l) (.tup m) S Φ := DO.of op_catA fun Zh H x y Q st ra rb P => by
  obtain ⟨p, vs, rfl, h1, r1⟩ := ra.tup
  obtain ⟨p2, vs2, rfl, h2, r2⟩ := rb.tup
  refine ⟨p, p2, vs, vs2, rfl, rfl, h1, h2, by rw [r1.length, r2.length]; exact c, fun e => ?_, fun _ e => ?_, fun _ _ z hz => P.tup st (r1.append r2) q hz⟩
  · have : l = [] := List.eq_nil_of_length_eq_zero (by rw [← r1.length, e]; rfl)
    subst this
    exact P.here st rb q
  · have : m = [] := List.eq_nil_of_length_eq_zero (by rw [← r2.length, e]; rfl)
    subst this
    rw [List.append_nil] at q
    exact P.here st ra q
theorem do_eqC {p : Addr} {m : List D} (A : At X P w K mg base tb names k) (h : ∃ l, (p, l) ∈ S ∧ (eqOk (.lst l) && eqOk (.lst m)) = true ∧ Φ (.bl (PyData.eqv (toPy (.lst l)) (toPy (.lst m)))) S) : DO X (compareOp .Eq) (.cell p) (.lst m) S Φ := DO.of (op_eqD A.room.units) fun Zh H x y Q st ra rb P => by
  obtain ⟨l, hm, h, q⟩ := h
  unfold eqOk at h
  rw [Bool.and_eq_true, Bool.and_eq_true, Bool.and_eq_true] at h
  obtain ⟨vs, h1, rl⟩ := st.st p l hm
  rw [ra.cell]
  refine ⟨toPy (.lst l), toPy (.lst m), ?_, dp_of rb h.2.1, h.1.2, h.2.2, P.here st rep_bl q⟩
  unfold toPy
  exact .lst (.inl (.inl h1)) (dpL_of rl (by
    have z := h.1.1
    unfold plainD at z
    rw [Bool.and_eq_true] at z
    exact z.2))
/-! ### values and new cells, one after another -/
def PostC (K : PySem.W.Frag) (Zh : List Addr) (H : Hp) (S : Sto) (Φ : D → Sto → Prop) (Q : VK) : Prop :=
  ∀ v H' d S', Step S H S' H' → Store K Zh H' S' → (∀ σ ρ, Ev K Zh H σ ρ S → Ev K Zh H' σ ρ S') → Rep K (keys S' ++ Zh) H' d v → Φ d S' → Q v H'
def PostCL (K : PySem.W.Frag) (Zh : List Addr) (H : Hp) (S : Sto) (n : Nat) (Φ : List D → Sto → Prop) (Q : List V → Hp → Prop) : Prop :=
  ∀ vs H' ds S', Step S H S' H' → Store K Zh H' S' → (∀ σ ρ, Ev K Zh H σ ρ S → Ev K Zh H' σ ρ S') → RepL K (keys S' ++ Zh) H' ds vs → ds.length = n → Φ ds S' → Q vs H'
def DEc (X : Cx) (e : Expr) (ρ : Ro) (S : Sto) (Φ : D → Sto → Prop) : Prop :=
  ∀ (Zh : List Addr) (pins : List (Addr × Obj)) (s : Shared) (σ : L2.St) (H : Hp) (Q : VK), Inv X pins σ H s → Ev X.K Zh H σ ρ S → PostC X.K Zh H S Φ Q → wpAny (model X.prog X.w) X.A (eval e X.env) (EP X pins σ Q) X.xe s
def DAc (X : Cx) (es : List Expr) (ρ : Ro) (S : Sto) (Φ : List D → Sto → Prop) : Prop :=
  ∀ (Zh : List Addr) (pos : Pos) (pins : List (Addr × Obj)) (s : Shared) (σ : L2.St) (H : Hp) (Q : List V → Hp → Prop), Inv X pins σ H s → Ev X.K Zh H σ ρ S → PostCL X.K Zh H S es.length Φ Q → wpAny (model X.prog X.w) X.A (spliced (backTo pos (starEach es X.env))) (AP X pins σ Q) X.xe s
theorem DEc.tw {Zh : List Addr} {σ : L2.St} {H : Hp} {Q : VK} (h : DEc X e ρ S Φ) (E : Ev X.K Zh H σ ρ S) (q : PostC X.K Zh H S Φ Q) : tW X e σ H Q := fun pins s I => h Zh pins s σ H Q I E q
theorem DAc.tw {es : List Expr} {Φ : List D → Sto → Prop} {Zh : List Addr} {σ : L2.St} {H : Hp} {Q : List V → Hp → Prop} (h : DAc X es ρ S Φ) (E : Ev X.K Zh H σ ρ S) (q : PostCL X.K Zh H S es.length Φ Q) : taW X es σ H Q := fun pos pins s I => h Zh pos pins s σ H Q I E q
theorem dec_e (h : DE X e ρ S Φ) : DEc X e ρ S Φ := fun Zh pins s σ H Q I E P => h Zh pins s σ H Q I E fun v H' d S' k g s' r q => P v H' d S' (.of k g) s' (fun σ ρ E => E.next k g s') (by rw [k]; exact r) q
theorem dec_n (h : DN X e ρ S fun l S1 => ∀ c, Φ (.cell c) (S1 ++ [(c, l)])) : DEc X e ρ S Φ := fun Zh pins s σ H Q I E P => h Zh pins s σ H Q I E fun c vs H' l S' k g s' hc h' r q => by
  have z := E.cell k g s' hc h' r
  exact P (.ref c) H' (.cell c) _ z.2 z.1.st (fun σ ρ E => (E.cell k g s' hc h' r).1) (by unfold Rep; rfl) (q c)
theorem dac_nil {Φ : List D → Sto → Prop} (q : Φ [] S) : DAc X [] ρ S Φ := fun Zh pos pins s σ H Q I E P => (pa_nil (X := X)).run pos pins s σ H Q I (P [] H [] S Step.refl E.st (fun _ _ E => E) .nil rfl q)
theorem dac_cons {es : List Expr} {Φ : List D → Sto → Prop} (h : DEc X e ρ S fun d S1 => DAc X es ρ S1 fun ds S2 => Φ (d :: ds) S2) (hs : starEach (e :: es) X.env = (false, eval e X.env) :: starEach es X.env) : DAc X (e :: es) ρ S Φ :=
  fun Zh pos pins s σ H Q I E P => (pa_cons (X := X) pe_w pa_w hs).run pos pins s σ H Q I (h.tw E fun v H1 d S1 t1 s1 n1 r1 h1 => h1.tw (n1 _ _ E) fun vs H2 ds S2 t2 s2 n2 r2 l2 q2 =>
    P (v :: vs) H2 (d :: ds) S2 (t1.trans t2) s2 (fun σ ρ E => n2 _ _ (n1 _ _ E)) (.cons (Rep.step s1.zl t2 r1) r2) (by rw [List.length_cons, l2]; rfl) q2)
variable {x y z : Str} {px py pz pt : Pos} {i j l : Nat} {E : DEnds}
theorem ds_parC {a b : Expr} {kt k2 pt2} (A : At X P w K mg base tb names k) 
    (hw : swappedStores [.Tuple [.Name x px, .Name y py] kt pt] (.Tuple [a, b] k2 pt2) X.env = pure (some [x, y]))
    (hs : swapsWithSole [.Tuple [.Name x px, .Name y py] kt pt] (.Tuple [a, b] k2 pt2) pos.line X.env = pure false)
    (h : ∃ i j, tb.lookup x = some i ∧ tb.lookup y = some j ∧ Nat.beq i j = false ∧ (locB names x && locB names y) = true ∧
      DAc X [a, b] ρ S fun ds S1 => ∃ c d, ds = [c, d] ∧ Nx E ((ρ.set i (some c)).set j (some d)) S1) : DS X (.Assign [.Tuple [.Name x px, .Name y py] kt pt] (.Tuple [a, b] k2 pt2) pos) ρ S E := by
  obtain ⟨i, j, hi, hj, hij, hv, h⟩ := h
  rw [Bool.and_eq_true] at hv
  exact DS.of (ps_par A.calm A.nd (A.slot _ _ hi) (A.slot _ _ hj) (ne_of_beq hij) (A.loc _ (locB_of hv.1)) (A.loc _ (locB_of hv.2)) pa_w hw hs) fun Zh σ H Dn ev k => h.tw ev fun vs H' ds S' t s n r l q => by
    obtain ⟨c, d, rfl, q⟩ := q
    obtain ⟨v, r1, rfl, rv, r⟩ := r.uncons
    obtain ⟨u, r2, rfl, ru, r⟩ := r.uncons
    cases r.un0
    exact ⟨v, u, rfl, k.nx _ _ _ _ t (((n _ _ ev).put rv).put ru) q⟩
theorem ds_par3C {a b c : Expr} {kt k2 pt2} (A : At X P w K mg base tb names k) 
    (hw : swappedStores [.Tuple [.Name x px, .Name y py, .Name z pz] kt pt] (.Tuple [a, b, c] k2 pt2) X.env = pure (some [x, y, z]))
    (hs : swapsWithSole [.Tuple [.Name x px, .Name y py, .Name z pz] kt pt] (.Tuple [a, b, c] k2 pt2) pos.line X.env = pure false)
    (h : ∃ i j l, tb.lookup x = some i ∧ tb.lookup y = some j ∧ tb.lookup z = some l ∧ (Nat.beq i j = false ∧ Nat.beq i l = false ∧ Nat.beq j l = false) ∧ (locB names x && locB names y && locB names z) = true ∧
      DAc X [a, b, c] ρ S fun ds S1 => ∃ a b c, ds = [a, b, c] ∧ Nx E (((ρ.set i (some a)).set j (some b)).set l (some c)) S1) : DS X (.Assign [.Tuple [.Name x px, .Name y py, .Name z pz] kt pt] (.Tuple [a, b, c] k2 pt2) pos) ρ S E := by
  obtain ⟨i, j, l, hi, hj, hl, ⟨hij, hil, hjl⟩, hv, h⟩ := h
  rw [Bool.and_eq_true, Bool.and_eq_true] at hv
  exact DS.of (ps_par3 A.calm A.nd (A.slot _ _ hi) (A.slot _ _ hj) (A.slot _ _ hl) (ne_of_beq hij) (ne_of_beq hil) (ne_of_beq hjl) (A.loc _ (locB_of hv.1.1)) (A.loc _ (locB_of hv.1.2)) (A.loc _ (locB_of hv.2)) pa_w hw hs) fun Zh σ H Dn ev k => h.tw ev fun vs H' ds S' t s n r l q => by
    obtain ⟨a, b, c, rfl, q⟩ := q
    obtain ⟨v, r1, rfl, rv, r⟩ := r.uncons
    obtain ⟨u, r2, rfl, ru, r⟩ := r.uncons
    obtain ⟨u3, r3, rfl, ru3, r⟩ := r.uncons
    cases r.un0
    exact ⟨v, u, u3, rfl, k.nx _ _ _ _ t ((((n _ _ ev).put rv).put ru).put ru3) q⟩
theorem vParC {a b : Expr} {kt k2 pt2} (A : At X P w K mg base tb names k) (v : Lcv tb names x i) (u : Lcv tb names y j) (hp : par2B px py x y a b = true)
    (hs : swapsWithSole [.Tuple [.Name x px, .Name y py] kt pt] (.Tuple [a, b] k2 pt2) pos.line X.env = pure false) (hij : Nat.beq i j = false)
    (h : DAc X [a, b] ρ S fun ds S1 => ∃ c d, ds = [c, d] ∧ Nx E ((ρ.set i (some c)).set j (some d)) S1) : DS X (.Assign [.Tuple [.Name x px, .Name y py] kt pt] (.Tuple [a, b] k2 pt2) pos) ρ S E := by
  unfold par2B at hp
  simp only [Bool.and_eq_true, Bool.not_eq_true'] at hp
  obtain ⟨⟨⟨⟨h1, h2⟩, h3⟩, h4⟩, h5⟩ := hp
  exact ds_parC A (sw_some2 A.bk (A.loc _ (locB_of v.lc)) (A.loc _ (locB_of u.lc)) h1 h2 h3 h4 h5) hs ⟨i, j, v.look, u.look, hij, by rw [v.lc, u.lc]; rfl, h⟩
theorem vPar3C {a b c : Expr} {kt k2 pt2} (A : At X P w K mg base tb names k) (v : Lcv tb names x i) (u : Lcv tb names y j) (t : Lcv tb names z l) (hp : par3B px py pz x y z a b c = true)
    (hs : swapsWithSole [.Tuple [.Name x px, .Name y py, .Name z pz] kt pt] (.Tuple [a, b, c] k2 pt2) pos.line X.env = pure false) (hij : Nat.beq i j = false ∧ Nat.beq i l = false ∧ Nat.beq j l = false)
    (h : DAc X [a, b, c] ρ S fun ds S1 => ∃ a b c, ds = [a, b, c] ∧ Nx E (((ρ.set i (some a)).set j (some b)).set l (some c)) S1) : DS X (.Assign [.Tuple [.Name x px, .Name y py, .Name z pz] kt pt] (.Tuple [a, b, c] k2 pt2) pos) ρ S E := by
  unfold par3B at hp
  simp only [Bool.and_eq_true, Bool.not_eq_true'] at hp
  obtain ⟨⟨⟨⟨⟨⟨⟨h1, h2⟩, h3⟩, h4⟩, h5⟩, h6⟩, h7⟩, h8⟩ := hp
  exact ds_par3C A (sw_some3 A.bk (A.loc _ (locB_of v.lc)) (A.loc _ (locB_of u.lc)) (A.loc _ (locB_of t.lc)) h1 h2 h3 h4 h5 h6 h7 h8) hs ⟨i, j, l, v.look, u.look, t.look, hij, by rw [v.lc, u.lc, t.lc]; rfl, h⟩
/-! ### comprehensions with a test -/
theorem lcI_ind {b : Bl} {ok : Nat → Bool} {tg elt c : Expr} {Φ : D → Sto → Prop} (I : List D → Sto → List D → Prop) (step : ∀ d ds S acc, I (d :: ds) S acc → ∀ X', b X' → DG X' ok tg d ρ S fun ρ2 S2 => Box (∀ X', b X' → DT X' c ρ2 S2 fun k S3 => if k = true then Box (∀ X', b X' → DE X' elt ρ2 S3 fun y S4 => Box (I ds S4 (acc ++ [y]))) else Box (I ds S3 acc))) (fin : ∀ S acc, I [] S acc → Φ (.lst acc) S) : ∀ {ds : List D} {S : Sto} {acc : List D}, I ds S acc → LcD b ok tg [c] elt ds ρ S acc Φ
  | [], S, acc, h => fin S acc h
  | d :: ds, S, acc, h => fun X' hX Zh pins s σ H v u Q I' ev r rv k => step d ds S acc h X' hX Zh pins s σ H v u Q I' ev r rv fun σ' H' ρ' S' a b c e f q => k σ' H' ρ' S' a b c e f fun X2 hX2 => fun Zh pins s σ H Q I' ev P => (q.get X2 hX2) Zh pins s σ H Q I' ev fun bb H1 S1 k1 g1 s1 q1 => P bb H1 S1 k1 g1 s1 (by
    cases bb with
    | true =>
      have q2 : Box _ := q1
      exact fun X3 hX3 => (q2.get X3 hX3).mono fun y S4 z => lcI_ind I step fin z.get
    | false =>
      have q2 : Box _ := q1
      exact lcI_ind I step fin q2.get)
end
end Ar
namespace Ar
open PySem PySem.Spec PyProof.Rows L2
section
variable {X : Cx} {ρ : Ro} {S : Sto} {Φ : D → Sto → Prop} {P : Program} {w : World} {K : PySem.W.Frag} {mg : Str → Option Value} {base : Heap} {tb : List (Str × Nat)} {names : List (Str × NameKind)} {k : Nat} {pos p p1 p2 p3 : Pos} {e e2 : Expr} {kk : Nat}
/-! ### while -/
/-- by a word with a measure -/
theorem ds_while {c : Expr} {body : List Stmt} {E : DEnds} (A : At X P w K mg base tb names k) (I : Nat → Ro → Sto → Prop) {m0 : Nat} (h0 : I m0 ρ S)
    (step : ∀ m ρ S, I m ρ S → DT X c ρ S fun b S1 => if b = true then DSs X body ρ S1 { nx := fun r s => Box (∃ m', m' < m ∧ I m' r s), rt := E.rt, bk := E.nx, ct := fun r s => Box (∃ m', m' < m ∧ I m' r s) } else E.nx ρ S1) : DS X (.While c body [] pos) ρ S E :=
  DS.of (ps_while A.own pt_w pss_w) fun Zh σ H Dn ev kk => by
    refine ⟨fun m σ' H' => ∃ ρ' S', Step S H S' H' ∧ Ev X.K Zh H' σ' ρ' S' ∧ I m ρ' S', ⟨m0, ρ, S, Step.refl, ev, h0⟩, ?_⟩
    rintro m σ1 H1 ⟨ρ1, S1, t1, ev1, i1⟩
    refine (step m ρ1 S1 i1).tw ev1 fun b H2 S2 k2 g2 s2 q => ?_
    have ev2 := ev1.next k2 g2 s2
    have t2 := t1.trans (Step.of k2 g2)
    cases b with
    | true =>
      have q2 : DSs X body ρ1 S2 _ := q
      refine ⟨fun σ' H' => ∃ m', m' < m ∧ ∃ ρ' S', Step S H S' H' ∧ Ev X.K Zh H' σ' ρ' S' ∧ I m' ρ' S', ?_, ?_⟩
      · rintro σ' H' ⟨m', hm, ρ', S', t, e, i⟩
        exact ⟨m', hm, ρ', S', t, e, i⟩
      · refine q2.tw ev2 ⟨fun σ' H' ρ' S' t e q => ?_, fun v H' d S' t s r q => kk.rt v H' d S' (t2.trans t) s r q, fun σ' H' ρ' S' t e q => kk.nx σ' H' ρ' S' (t2.trans t) e q, fun σ' H' ρ' S' t e q => ?_⟩
        · obtain ⟨m', hm, i⟩ := q.get
          exact ⟨m', hm, ρ', S', t2.trans t, e, i⟩
        · obtain ⟨m', hm, i⟩ := q.get
          exact ⟨m', hm, ρ', S', t2.trans t, e, i⟩
    | false => exact kk.nx σ1 H2 ρ1 S2 t2 ev2 q
end
/-! ### a dict of written keys, never written again -/
mutual
def noDct : D → Bool
  | .dct _ _ => false
  | .tup l => noDctL l
  | .lst l => noDctL l
  | .frz l => noDctL l
  | _ => true
def noDctL : List D → Bool
  | [] => true
  | d :: l => noDct d && noDctL l
end
theorem ne_dK {H : Hp} {p q : Addr} {o : HO} {kvs : List (Key × V)} (h : H q = some o) (hp : H p = some (.dK kvs)) (n : o ≠ .dK kvs) : q ≠ p := fun e => by
  subst e
  rw [h] at hp
  exact n (Option.some.inj hp)
mutual
theorem Rep.keepP {K : PySem.W.Frag} {Z : List Addr} {H : Hp} {p : Addr} {kvs : List (Key × V)} {o : HO} (hp : H p = some (.dK kvs)) : ∀ {d : D} {v : V}, noDct d = true → Rep K Z H d v → Rep K Z (upd H p o) d v
  | .non, _, _, h => by unfold Rep at h ⊢; exact h
  | .bl _, _, _, h => by unfold Rep at h ⊢; exact h
  | .int _, _, _, h => by unfold Rep at h ⊢; exact h
  | .rng _ _, _, _, h => by unfold Rep at h ⊢; exact h
  | .str _, _, _, h => by unfold Rep at h ⊢; exact h
  | .cell _, _, _, h => by unfold Rep at h ⊢; exact h
  | .dct _ _, _, n, _ => by unfold noDct at n; cases n
  | .tup l, v, n, h => by
    unfold noDct at n
    unfold Rep at h ⊢
    obtain ⟨q, vs, e, s, r⟩ := h
    refine ⟨q, vs, e, ?_, RepL.keepP hp n r⟩
    rcases s with (s | ⟨o', s⟩) | s
    · exact .inl (.inl (by rw [upd_ne (ne_dK s hp (by intro z; cases z))]; exact s))
    · exact .inl (.inr ⟨o', by rw [upd_ne (ne_dK s hp (by intro z; cases z))]; exact s⟩)
    · exact .inr s
  | .lst l, v, n, h => by
    unfold noDct at n
    unfold Rep at h ⊢
    obtain ⟨q, vs, e, m, s, r⟩ := h
    exact ⟨q, vs, e, m, by rw [upd_ne (ne_dK s hp (by intro z; cases z))]; exact s, RepL.keepP hp n r⟩
  | .frz l, v, n, h => by
    unfold noDct at n
    unfold Rep at h ⊢
    obtain ⟨q, vs, e, s, r⟩ := h
    refine ⟨q, vs, e, ?_, RepL.keepP hp n r⟩
    rcases s with ⟨m, s | ⟨o', s⟩⟩ | s
    · exact .inl ⟨m, .inl (by rw [upd_ne (ne_dK s hp (by intro z; cases z))]; exact s)⟩
    · exact .inl ⟨m, .inr ⟨o', by rw [upd_ne (ne_dK s hp (by intro z; cases z))]; exact s⟩⟩
    · exact .inr s
theorem RepL.keepP {K : PySem.W.Frag} {Z : List Addr} {H : Hp} {p : Addr} {kvs : List (Key × V)} {o : HO} (hp : H p = some (.dK kvs)) : ∀ {l : List D} {vs : List V}, noDctL l = true → RepL K Z H l vs → RepL K Z (upd H p o) l vs
  | [], _, _, h => by unfold RepL at h ⊢; exact h
  | d :: l, vs, n, h => by
    unfold noDctL at n
    rw [Bool.and_eq_true] at n
    unfold RepL at h ⊢
    obtain ⟨v, r, e, h1, h2⟩ := h
    exact ⟨v, r, e, Rep.keepP hp n.1 h1, RepL.keepP hp n.2 h2⟩
end
def NoD (S : Sto) : Prop := ∀ p l, (p, l) ∈ S → noDctL l = true
theorem Store.keepP {K : PySem.W.Frag} {Zh : List Addr} {H : Hp} {S : Sto} {p : Addr} {kvs : List (Key × V)} {o : HO} (s : Store K Zh H S) (n : NoD S) (hp : H p = some (.dK kvs)) : Store K Zh (upd H p o) S := by
  refine ⟨s.nd, fun q l m => ?_, fun q hq => ?_⟩
  · obtain ⟨vs, h1, h2⟩ := s.st q l m
    exact ⟨vs, by rw [upd_ne (ne_dK h1 hp (by intro z; cases z))]; exact h1, RepL.keepP hp (n q l m) h2⟩
  · obtain ⟨h1, vs, h2⟩ := s.hid q hq
    exact ⟨h1, vs, by rw [upd_ne (ne_dK h2 hp (by intro z; cases z))]; exact h2⟩
section
variable {X : Cx} {ρ : Ro} {S : Sto} {Φ : D → Sto → Prop} {P : Program} {w : World} {K : PySem.W.Frag} {mg : Str → Option Value} {base : Heap} {tb : List (Str × Nat)} {names : List (Str × NameKind)} {k : Nat} {pos p p1 p2 p3 : Pos} {e e2 : Expr} {kk : Nat}
theorem de_dct4 {a1 a2 a3 a4 : Str} {i1 i2 i3 i4 : Nat} {s1 s2 s3 s4 dp : Pos} {e1 e2 e3 e4 : Expr} (hm : ∀ x y z w : V, mergeK [] [(Sum.inr a1, x), (Sum.inr a2, y), (Sum.inr a3, z), (Sum.inr a4, w)] = [(Sum.inr a1, x), (Sum.inr a2, y), (Sum.inr a3, z), (Sum.inr a4, w)])
    (h : DE X e1 ρ S fun d1 S1 => DE X e2 ρ S1 fun d2 S2 => DE X e3 ρ S2 fun d3 S3 => DE X e4 ρ S3 fun d4 S4 => NoD S4 ∧ (noDct d1 && noDct d2 && noDct d3 && noDct d4) = true ∧ Φ (.dct [a1, a2, a3, a4] [d1, d2, d3, d4]) S4) :
    DE X (.Dict [some (.Constant (.str a1) i1 s1), some (.Constant (.str a2) i2 s2), some (.Constant (.str a3) i3 s3), some (.Constant (.str a4) i4 s4)] [e1, e2, e3, e4] dp) ρ S Φ :=
  DE.of (pe_disp (pps_cons pe_str pe_w (pps_cons pe_str pe_w (pps_cons pe_str pe_w (pps_cons pe_str pe_w pps_nil)))) rfl rfl (List.cons_ne_nil _ _) (Nat.le_of_ble_eq_true rfl)) fun Zh σ H Q E P p hp => by
    have pS : p ∉ keys S := fun m => by
      obtain ⟨vs, e⟩ := E.st.zl p m
      rw [hp] at e
      cases e
    have pZ : p ∉ Zh := fun m => by
      obtain ⟨_, vs, e⟩ := E.st.hid p m
      rw [hp] at e
      cases e
    have g0 : Grow (keys S) H (upd H p (.dK [])) := Grow.new hp
    have E0 := E.next rfl g0 (E.st.new hp)
    have hp0 : (upd H p (.dK [])) p = some (.dK []) := upd_same
    refine h.bind E0 fun v1 H1 d1 S1 k1 g1 E1 r1 h1 => ?_
    refine h1.bind E1 fun v2 H2 d2 S2 k2 g2 E2 r2 h2 => ?_
    refine h2.bind E2 fun v3 H3 d3 S3 k3 g3 E3 r3 h3 => ?_
    refine h3.bind E3 fun v4 H4 d4 S4 k4 g4 E4 r4 h4 => ?_
    obtain ⟨nS, nd, q⟩ := h4
    rw [Bool.and_eq_true, Bool.and_eq_true, Bool.and_eq_true] at nd
    obtain ⟨⟨⟨n1, n2⟩, n3⟩, n4⟩ := nd
    have K2 : keys S2 = keys S := k2.trans k1
    have K3 : keys S3 = keys S := k3.trans K2
    have K4 : keys S4 = keys S := k4.trans K3
    have G4 : Grow (keys S) (upd H p (.dK [])) H4 := ((g1.trans (by rw [← k1]; exact g2)).trans (by rw [← K2]; exact g3)).trans (by rw [← K3]; exact g4)
    have hp4 : H4 p = some (.dK []) := G4 p _ pS hp0
    refine ⟨hp4, [(Sum.inr a1, v1), (Sum.inr a2, v2), (Sum.inr a3, v3), (Sum.inr a4, v4)], rfl, Nat.le_of_ble_eq_true rfl, ?_⟩
    rw [hm]
    have R1 : Rep X.K (keys S4 ++ Zh) H4 d1 v1 := by
      rw [K4]
      have z := E1.st.gr g2 r1
      rw [← k2] at z
      have z2 := E2.st.gr g3 z
      rw [← k3] at z2
      have z3 := E3.st.gr g4 z2
      rw [K3] at z3
      exact z3
    have R2 : Rep X.K (keys S4 ++ Zh) H4 d2 v2 := by
      rw [K4]
      have z2 := E2.st.gr g3 r2
      rw [← k3] at z2
      have z3 := E3.st.gr g4 z2
      rw [K3] at z3
      exact z3
    have R3 : Rep X.K (keys S4 ++ Zh) H4 d3 v3 := by
      rw [K4]
      have z3 := E3.st.gr g4 r3
      rw [K3] at z3
      exact z3
    refine P _ _ _ S4 K4 (fun b x nb hb => ?_) (E4.st.keepP nS hp4) ?_ q
    · have hne : b ≠ p := fun e => by rw [e, hp] at hb; cases hb
      rw [upd_ne hne]
      exact G4 b x nb (by rw [upd_ne hne]; exact hb)
    · unfold Rep
      refine ⟨p, [v1, v2, v3, v4], rfl, fun m => ?_, upd_same, ?_⟩
      · rcases List.mem_append.mp m with m | m
        · exact pS m
        · exact pZ m
      · rw [← K4]
        exact RepL.keepP hp4 (by unfold noDctL; rw [n1]; unfold noDctL; rw [n2]; unfold noDctL; rw [n3]; unfold noDctL; rw [n4]; unfold noDctL; rfl) (.cons R1 (.cons R2 (.cons R3 (.cons r4 .nil))))
theorem zip_val {K : PySem.W.Frag} {Z : List Addr} {H : Hp} {z : Str} {e : D} : ∀ {ks : List Str} {l : List D} {vs : List V}, RepL K Z H l vs → (ks.zip l).lookup z = some e → ∃ v, valV ((ks.map Sum.inr : List Key).zip vs) (Sum.inr z) = some v ∧ Rep K Z H e v
  | [], _, _, _, h => by simp at h
  | _ :: _, [], _, _, h => by simp at h
  | a :: ks, d :: l, vs, r, h => by
    obtain ⟨v, t, rfl, r1, r2⟩ := r.uncons
    rw [List.zip_cons_cons, List.lookup_cons] at h
    by_cases hz : z = a
    · subst hz
      rw [beq_self_eq_true] at h
      cases h
      exact ⟨v, valV_pos (p := ((Sum.inr z : Key), v)) rfl, r1⟩
    · have hb : (z == a) = false := by
        cases hq : z == a with
        | false => rfl
        | true => exact absurd (eq_of_beq hq) hz
      rw [hb] at h
      obtain ⟨u, h1, h2⟩ := zip_val (ks := ks) r2 h
      exact ⟨u, (valV_neg (p := ((Sum.inr a : Key), v)) (fun q => hz (Sum.inr.inj q).symm)).trans h1, h2⟩
theorem de_dctIx {o : Expr} (A : At X P w K mg base tb names k) (hs : NoSl e) (h : DE X o ρ S fun d S1 => DE X e ρ S1 fun c S2 => ∃ ks l z r, d = .dct ks l ∧ c = .str z ∧ (ks.zip l).lookup z = some r ∧ Φ r S2) : DE X (.Subscript o e pos) ρ S Φ := by
  have hu : X.A.units + 1 < cLine := Nat.lt_of_le_of_lt (Nat.add_le_add_left (Nat.le_of_ble_eq_true rfl) _) A.room.units
  exact DE.of (pe_dget hu pe_w pe_w hs) fun Zh σ H Q E P => h.bind E fun x H1 d S1 k1 g1 E1 r1 h1 => h1.bind E1 fun y H2 c S2 k2 g2 E2 r2 h2 => by
    obtain ⟨ks, l, z, r, rfl, rfl, hl, q⟩ := h2
    have r3 : Rep X.K (keys S2 ++ Zh) H2 (.dct ks l) x := by
      rw [k2]
      exact E1.st.gr g2 r1
    obtain ⟨p, vs, rfl, _, hp, rl⟩ := r3.dct
    obtain ⟨v, hv, rv⟩ := zip_val rl hl
    refine ⟨p, v, rfl, ?_, ((P.next k1 g1).next k2 g2).here E2.st rv q⟩
    rw [r2.str, ← hv]
    exact DGet.k (k := Sum.inr z) hp
def DctL (ks : List Str) (l : List D) (Φ : D → Sto → Prop) (c : D) (S : Sto) : Prop := ∃ z r, c = .str z ∧ (ks.zip l).lookup z = some r ∧ Φ r S
theorem DctL_i {ks : List Str} {l : List D} {z : Str} {r : D} (h : (ks.zip l).lookup z = some r) (q : Φ r S) : DctL ks l Φ (.str z) S := ⟨z, r, rfl, h, q⟩
theorem vDctIx {x : Str} {px : Pos} {i : Nat} (A : At X P w K mg base tb names k) (v : Var tb names x i) (hs : NoSl e) (h : ∃ ks l, ρ[i]? = some (some (.dct ks l)) ∧ DE X e ρ S fun c S2 => DctL ks l Φ c S2) : DE X (.Subscript (.Name x px) e pos) ρ S Φ := by
  obtain ⟨ks, l, hρ, h⟩ := h
  exact de_dctIx A hs (vName A v ⟨_, hρ, h.mono fun c S2 ⟨z, r, e1, e2, q⟩ => ⟨ks, l, z, r, rfl, e1, e2, q⟩⟩)
/-! ### in a row of ints; rows compared -/
theorem inV_ints {i : Int} : ∀ l : List Int, inV (.int i) (l.map V.int) = decide (i ∈ l)
  | [] => rfl
  | j :: l => by
    have h := inV_ints (i := i) l
    unfold inV at h ⊢
    rw [List.map_cons, List.any_cons, h]
    have e : eqV (V.int j) (V.int i) = decide (j = i) := rfl
    rw [e]
    by_cases hj : j = i
    · simp [hj]
    · have : i ≠ j := fun q => hj q.symm
      simp [hj, this]
theorem do_inT {i : Int} {l : List Int} (q : Φ (.bl (decide (i ∈ l))) S) : DO X (compareOp .In) (.int i) (.tup (l.map D.int)) S Φ := DO.of op_in_seq fun Zh H x y Q st ra rb P => by
  obtain ⟨p, vs, rfl, sq, rl⟩ := rb.tup
  rw [RepL.ints rl] at sq
  rw [ra.int]
  exact ⟨p, _, rfl, .inr sq, rfl, by rw [List.all_map]; exact List.all_eq_true.mpr fun _ _ => rfl, P.here st rep_bl (by rw [inV_ints]; exact q)⟩
theorem do_notInT {i : Int} {l : List Int} (q : Φ (.bl (!decide (i ∈ l))) S) : DO X (compareOp .NotIn) (.int i) (.tup (l.map D.int)) S Φ := DO.of op_notIn_seq fun Zh H x y Q st ra rb P => by
  obtain ⟨p, vs, rfl, sq, rl⟩ := rb.tup
  rw [RepL.ints rl] at sq
  rw [ra.int]
  exact ⟨p, _, rfl, .inr sq, rfl, by rw [List.all_map]; exact List.all_eq_true.mpr fun _ _ => rfl, P.here st rep_bl (by rw [inV_ints]; exact q)⟩
end
end Ar
namespace Ar
open PySem PySem.Spec PyProof.Rows L2

/-! ### what raises -/
abbrev Xi := Value → Sto → Prop
abbrev XiS := Value → Ro → Sto → Prop
def PostR (K : PySem.W.Frag) (Zh : List Addr) (σ : L2.St) (H : Hp) (S : Sto) (Ξ : Xi) (W : WX) : Prop :=
  ∀ cls H' S', keys S' = keys S → Grow (keys S) H H' → Store K Zh H' S' → Ξ cls S' → W cls none σ H'
def PostRS (K : PySem.W.Frag) (Zh : List Addr) (H : Hp) (S : Sto) (Ξ : XiS) (W : WX) : Prop :=
  ∀ cls σ' H' ρ' S', Step S H S' H' → Ev K Zh H' σ' ρ' S' → Ξ cls ρ' S' → W cls none σ' H'
theorem PostR.next {K : PySem.W.Frag} {Zh : List Addr} {σ : L2.St} {H H1 : Hp} {S S1 : Sto} {Ξ : Xi} {W : WX} (P : PostR K Zh σ H S Ξ W) (k : keys S1 = keys S) (g : Grow (keys S) H H1) : PostR K Zh σ H1 S1 Ξ W := fun c H' S' k' g' s' q =>
  P c H' S' (k'.trans k) (g.trans (by rw [← k]; exact g')) s' q
theorem PostRS.next {K : PySem.W.Frag} {Zh : List Addr} {H H1 : Hp} {S S1 : Sto} {Ξ : XiS} {W : WX} (P : PostRS K Zh H S Ξ W) (s : Step S H S1 H1) : PostRS K Zh H1 S1 Ξ W := fun c σ' H' ρ' S' t e q => P c σ' H' ρ' S' (s.trans t) e q
theorem PostRS.of {K : PySem.W.Frag} {Zh : List Addr} {σ : L2.St} {ρ : Ro} {H : Hp} {S : Sto} {Ξ : XiS} {W : WX} (P : PostRS K Zh H S Ξ W) (E : Ev K Zh H σ ρ S) : PostR K Zh σ H S (fun c S' => Ξ c ρ S') W := fun c H' S' k g s q =>
  P c σ H' ρ S' (.of k g) (E.next k g s) q
def DR (X : Cx) (W : WX) (e : Expr) (ρ : Ro) (S : Sto) (Ξ : Xi) : Prop :=
  ∀ (Zh : List Addr) (pins : List (Addr × Obj)) (s : Shared) (σ : L2.St) (H : Hp) (Q : VK), Inv X pins σ H s → Ev X.K Zh H σ ρ S → PostR X.K Zh σ H S Ξ W → wpAny (model X.prog X.w) X.A (eval e X.env) (EP X pins σ Q) X.xe s
def DRT (X : Cx) (W : WX) (e : Expr) (ρ : Ro) (S : Sto) (Ξ : Xi) : Prop :=
  ∀ (Zh : List Addr) (pins : List (Addr × Obj)) (s : Shared) (σ : L2.St) (H : Hp) (Q : Bool → Hp → Prop), Inv X pins σ H s → Ev X.K Zh H σ ρ S → PostR X.K Zh σ H S Ξ W → wpAny (model X.prog X.w) X.A (isTrue e X.env (eval e X.env)) (TP X pins σ Q) X.xe s
def DRA (X : Cx) (W : WX) (es : List Expr) (ρ : Ro) (S : Sto) (Ξ : Xi) : Prop :=
  ∀ (Zh : List Addr) (pos : Pos) (pins : List (Addr × Obj)) (s : Shared) (σ : L2.St) (H : Hp) (Q : List V → Hp → Prop), Inv X pins σ H s → Ev X.K Zh H σ ρ S → PostR X.K Zh σ H S Ξ W → wpAny (model X.prog X.w) X.A (spliced (backTo pos (starEach es X.env))) (AP X pins σ Q) X.xe s
def DRS (X : Cx) (W : WX) (st : Stmt) (ρ : Ro) (S : Sto) (Ξ : XiS) : Prop :=
  ∀ (Zh : List Addr) (pins : List (Addr × Obj)) (s : Shared) (σ : L2.St) (H : Hp) (Dn : Ends), Inv X pins σ H s → Ev X.K Zh H σ ρ S → PostRS X.K Zh H S Ξ W → wpAny (model X.prog X.w) X.A (exec st X.env) (SP X pins Dn) X.xe s
def DRSs (X : Cx) (W : WX) (st : List Stmt) (ρ : Ro) (S : Sto) (Ξ : XiS) : Prop :=
  ∀ (Zh : List Addr) (pins : List (Addr × Obj)) (s : Shared) (σ : L2.St) (H : Hp) (Dn : Ends), Inv X pins σ H s → Ev X.K Zh H σ ρ S → PostRS X.K Zh H S Ξ W → wpAny (model X.prog X.w) X.A (execs st X.env) (SP X pins Dn) X.xe s
section
variable {X : Cx} {W : WX} {ρ : Ro} {S : Sto} {Ξ : Xi} {Θ : XiS} {e a b : Expr} {es : List Expr} {st : Stmt} {sts : List Stmt} {pos p : Pos}
theorem DR.of {t : TE} (p : PE X e t) (h : ∀ Zh σ H Q, Ev X.K Zh H σ ρ S → PostR X.K Zh σ H S Ξ W → t σ H Q) : DR X W e ρ S Ξ := fun Zh pins s σ H Q I E q => p.run pins s σ H Q I (h Zh σ H Q E q)
theorem DRT.of {t : TT} (p : PT X e t) (h : ∀ Zh σ H Q, Ev X.K Zh H σ ρ S → PostR X.K Zh σ H S Ξ W → t σ H Q) : DRT X W e ρ S Ξ := fun Zh pins s σ H Q I E q => p.run pins s σ H Q I (h Zh σ H Q E q)
theorem DRA.of {t : TA} (p : PA X es t) (h : ∀ Zh σ H Q, Ev X.K Zh H σ ρ S → PostR X.K Zh σ H S Ξ W → t σ H Q) : DRA X W es ρ S Ξ := fun Zh pos pins s σ H Q I E q => p.run pos pins s σ H Q I (h Zh σ H Q E q)
theorem DRS.of {t : TS} (p : PS X st t) (h : ∀ Zh σ H Dn, Ev X.K Zh H σ ρ S → PostRS X.K Zh H S Θ W → t Dn σ H) : DRS X W st ρ S Θ := fun Zh pins s σ H Dn I e k => p.run pins s σ H Dn I (h Zh σ H Dn e k)
theorem DRSs.of {t : TS} (p : PSs X sts t) (h : ∀ Zh σ H Dn, Ev X.K Zh H σ ρ S → PostRS X.K Zh H S Θ W → t Dn σ H) : DRSs X W sts ρ S Θ := fun Zh pins s σ H Dn I e k => p.run pins s σ H Dn I (h Zh σ H Dn e k)
theorem DR.tw {Zh : List Addr} {σ : L2.St} {H : Hp} {Q : VK} (h : DR X W e ρ S Ξ) (E : Ev X.K Zh H σ ρ S) (q : PostR X.K Zh σ H S Ξ W) : tW X e σ H Q := fun pins s I => h Zh pins s σ H Q I E q
theorem DRT.tw {Zh : List Addr} {σ : L2.St} {H : Hp} {Q : Bool → Hp → Prop} (h : DRT X W e ρ S Ξ) (E : Ev X.K Zh H σ ρ S) (q : PostR X.K Zh σ H S Ξ W) : ttW X e σ H Q := fun pins s I => h Zh pins s σ H Q I E q
theorem DRA.tw {Zh : List Addr} {σ : L2.St} {H : Hp} {Q : List V → Hp → Prop} (h : DRA X W es ρ S Ξ) (E : Ev X.K Zh H σ ρ S) (q : PostR X.K Zh σ H S Ξ W) : taW X es σ H Q := fun pos pins s I => h Zh pos pins s σ H Q I E q
theorem DRS.tw {Zh : List Addr} {σ : L2.St} {H : Hp} {Dn : Ends} (h : DRS X W st ρ S Θ) (e : Ev X.K Zh H σ ρ S) (k : PostRS X.K Zh H S Θ W) : tsW X st Dn σ H := fun pins s I => h Zh pins s σ H Dn I e k
theorem DRSs.tw {Zh : List Addr} {σ : L2.St} {H : Hp} {Dn : Ends} (h : DRSs X W sts ρ S Θ) (e : Ev X.K Zh H σ ρ S) (k : PostRS X.K Zh H S Θ W) : tssW X sts Dn σ H := fun pins s I => h Zh pins s σ H Dn I e k
/-! expressions -/
theorem dra_head (hs : starEach (e :: es) X.env = (false, eval e X.env) :: starEach es X.env) (h : DR X W e ρ S Ξ) : DRA X W (e :: es) ρ S Ξ := DRA.of (pa_cons pe_w pa_w hs) fun Zh σ H Q E P => h.tw E P
theorem dra_tail (hs : starEach (e :: es) X.env = (false, eval e X.env) :: starEach es X.env) (h : DE X e ρ S fun _ S1 => DRA X W es ρ S1 Ξ) : DRA X W (e :: es) ρ S Ξ := DRA.of (pa_cons pe_w pa_w hs) fun Zh σ H Q E P => h.bind E fun v H1 d S1 k1 g1 E1 r1 h1 => h1.tw E1 (P.next k1 g1)
theorem dr_binL {op : Operator} (h : DR X W a ρ S Ξ) : DR X W (.BinOp a op b pos) ρ S Ξ := DR.of (pe_op op_w pe_w pe_w) fun Zh σ H Q E P => h.tw E P
theorem dr_binR {op : Operator} (h : DE X a ρ S fun _ S1 => DR X W b ρ S1 Ξ) : DR X W (.BinOp a op b pos) ρ S Ξ := DR.of (pe_op op_w pe_w pe_w) fun Zh σ H Q E P => h.bind E fun v H1 d S1 k1 g1 E1 r1 h1 => h1.tw E1 (P.next k1 g1)
theorem dr_cmpL {op : CmpOp} (hm : behindInMarks op b = false) (h : DR X W a ρ S Ξ) : DR X W (.Compare a [op] [b] pos) ρ S Ξ := DR.of (pe_cmpR op_w pe_w pe_w hm) fun Zh σ H Q E P => h.tw E P
theorem drt_cmpL {op : CmpOp} (hm : behindInMarks op b = false) (h : DR X W a ρ S Ξ) : DRT X W (.Compare a [op] [b] pos) ρ S Ξ := DRT.of (pt_cmpR op_w pe_w pe_w hm) fun Zh σ H Q E P => h.tw E P
theorem drt_not (h : DRT X W a ρ S Ξ) : DRT X W (.UnaryOp .Not a pos) ρ S Ξ := DRT.of (pt_not pt_w) fun Zh σ H Q E P => h.tw E P
theorem dr_tup {x1} (h : DRA X W es ρ S Ξ) : DR X W (.Tuple es x1 pos) ρ S Ξ := DR.of (pe_tup pa_w) fun Zh σ H Q E P => h.tw E P
theorem dr_slHi {hi : Expr} {p2 : Pos} (h : DR X W a ρ S Ξ) : DR X W (.Subscript a (.Slice none (some hi) none p2) pos) ρ S Ξ := DR.of (pe_slice sl_any pe_w po_none (po_some pe_w)) fun Zh σ H Q E P => h.tw E P
theorem dr_revT {k : Nat} {p1 p2 p3 : Pos} (h : DR X W e ρ S Ξ) : DR X W (.Subscript e (.Slice none none (some (.UnaryOp .USub (.Constant (.int 1) k p1) p2)) p3) pos) ρ S Ξ := DR.of (pe_revT pe_w) fun Zh σ H Q E P => h.tw E P
theorem dr_ix (hp : PlainIx b) (h : DR X W a ρ S Ξ) : DR X W (.Subscript a b pos) ρ S Ξ := DR.of (pe_ix ix_list pe_w pe_w hp) fun Zh σ H Q E P => h.tw E P
/-! statements -/
theorem drs_ret (h : DR X W e ρ S fun c S1 => Θ c ρ S1) : DRS X W (.Return (some e) pos) ρ S Θ := DRS.of (ps_ret pe_w) fun Zh σ H Dn ev k => h.tw ev (k.of ev)
theorem drs_expr (hs : swapsWith e none pos.line X.env = pure false) (h : DR X W e ρ S fun c S1 => Θ c ρ S1) : DRS X W (.Expr e pos) ρ S Θ := DRS.of (ps_expr pe_w hs) fun Zh σ H Dn ev k => h.tw ev (k.of ev)
theorem drs_if {c : Expr} {t u : List Stmt} (h : DT X c ρ S fun k S1 => if k = true then DRSs X W t ρ S1 Θ else DRSs X W u ρ S1 Θ) : DRS X W (.If c t u pos) ρ S Θ := DRS.of (ps_if pt_w pss_w pss_w) fun Zh σ H Dn ev k =>
  h.tw ev fun c H1 S1 k1 g1 s1 q => by
    have ev1 := ev.next k1 g1 s1
    have k2 := k.next (Step.of k1 g1)
    cases c with
    | true => exact q.tw ev1 k2
    | false => exact q.tw ev1 k2
theorem drs_ifT {c : Expr} {t u : List Stmt} (h : DRT X W c ρ S fun c S1 => Θ c ρ S1) : DRS X W (.If c t u pos) ρ S Θ := DRS.of (ps_if pt_w pss_w pss_w) fun Zh σ H Dn ev k => h.tw ev (k.of ev)
theorem drss_here (h : DRS X W st ρ S Θ) : DRSs X W (st :: sts) ρ S Θ := DRSs.of (pss_cons ps_w pss_w) fun Zh σ H Dn ev k => h.tw ev k
theorem drss_next (h : DS X st ρ S { nx := fun r s => DRSs X W sts r s Θ, rt := fun _ _ => False }) : DRSs X W (st :: sts) ρ S Θ := DRSs.of (pss_cons ps_w pss_w) fun Zh σ H Dn ev k =>
  h.tw ev ⟨fun σ' H' ρ' S' t e' q => q.tw e' (k.next t), fun _ _ _ _ _ _ _ q => q.elim, fun _ _ _ _ _ _ q => q.elim, fun _ _ _ _ _ _ q => q.elim⟩
variable {P : Program} {w : World} {K : PySem.W.Frag} {mg : Str → Option Value} {base : Heap} {tb : List (Str × Nat)} {names : List (Str × NameKind)} {k : Nat}
theorem drs_set {x : Str} {i : Nat} (A : At X P w K mg base tb names k) (v : Stv tb names x i) (hs : swapsWith e (some (.Name x p)) pos.line X.env = pure false) (h : DR X W e ρ S fun c S1 => Θ c ρ S1) : DRS X W (.Assign [.Name x p] e pos) ρ S Θ :=
  DRS.of (ps_set A.nd (A.slot _ _ v.look) (A.sto _ v.st).1 pe_w hs (A.sto _ v.st).2) fun Zh σ H Dn ev k => h.tw ev (k.of ev)

/-! ### raise C() of an own class -/
structure ExcK (K : PySem.W.Frag) (mg : Str → Option Value) (x : Str) (C : Addr) : Prop where
  xg : mg x = some (.ref C)
  xk : PySem.W.excIn K C [.type "ValueError", .type "Exception", .type "BaseException", .type "object"] "ValueError.__new__" = true
  kp : PySem.W.keepIn K (.ref C) = true
  sb : PySem.W.subIn K (.ref C) (.type "BaseException") = some true
  ty : PySem.W.typeIn K (.ref C) = some (.type "type")
  is : ExcC K C
theorem pmk_own0 {C : Addr} {bmB : List Value} {B newId initId : String} {x : Str} (F : ExcBaseFacts B newId initId bmB) (q : PySem.W.excIn X.K C bmB newId = true) (gC : X.mg x = some (.ref C)) (kC : PySem.W.keepIn X.K (.ref C) = true) (r : Raises X (.ref C)) (hg : Gl X x)
    (hdb : (x == ("__debug__" : Str)) = false) : PMk X (.Call (.Name x p) [] [] pos) (fun _ H Q => Q (.ref C) none H) := by
  intro pins s σ H Q I h
  refine wpAny_Call_Name_kw (ld_glob I hg gC ?_ hdb)
  refine PySem.W.callWith_K0 I.kIn kC ?_
  rw [List.append_nil]
  obtain ⟨bm, N, nm, qn, bs, hdct, sn, sub, ab, col, dd, k0, k1, k2, k3, k5, mN, hC, hN, hni, T⟩ := exc_obj I.kIn q
  obtain ⟨hp, g, d, t, os⟩ := s
  refine wpAny_call_exc_subT F T hC hN hni (fun h' e hm => ?_) (by show 0 ≤ sizeLine; omega)
  exact mk_of I hm r h (I.hok.gone hm.new)
theorem drs_raise {x : Str} {C : Addr} {p' : Pos} (A : At X P w K mg base tb names k) (tk : Takes X W) (x0 : ExcK K mg x C) (g : Glo names x) (q : Θ (.ref C) ρ S) : DRS X W (.Raise (some (.Call (.Name x p) [] [] p')) none pos) ρ S Θ := by
  have hK := A.K
  have hm := A.mg
  subst hK hm
  have gg := glB_of g.g
  exact DRS.of (ps_raise A.calm tk (pmk_own0 PySem.F.excBase_ValueError x0.xk x0.xg x0.kp (raises_own x0.sb x0.ty) (A.gl _ gg.2) (plain1 gg.1).1)) fun Zh σ H Dn ev k => k _ σ H ρ S Step.refl ev q
/-! ### a def that raises -/
abbrev SpecR := List D → Sto → Xi → Prop
def spR (K : PySem.W.Frag) (n : Nat) (B : SpecR) : Sp := fun vs H Q E => vs.length = n ∧ ∃ Zh ds S Ξ, Store K Zh H S ∧ RepL K (keys S ++ Zh) H ds vs ∧ B ds S Ξ ∧ ∀ cls H' S', keys S' = keys S → Grow (keys S) H H' → Store K Zh H' S' → Ξ cls S' → E cls none H'
structure FnR (P : Program) (w : World) (K : PySem.W.Frag) (mg : Str → Option Value) (base : Heap) (x : Str) (n k : Nat) (B : SpecR) : Prop where
  ex : ∃ f fd ps, FnOk P w K mg base (L2.CX P w) k f fd ps (spR K n B) ∧ mg x = some (.ref f) ∧ PySem.W.keepIn K (.ref f) = true ∧ Binds K fd ps [] ∧ ps.length = n ∧ FdAt K f fd
theorem dr_call {x : Str} {n j : Nat} {B : SpecR} (A : At X P w K mg base tb names k) (tk : Takes X W) (F : FnR P w K mg base x n j B) (g : Glo names x) (hc : (Nat.ble j k && Nat.beq (e :: es).length n) = true)
    (he : starEach (e :: es) X.env = (false, eval e X.env) :: starEach es X.env) (hpl : (backTo pos (starEach es X.env)).any (·.1) = false)
    (h : DA X (e :: es) ρ S fun ds S1 => B ds S1 Ξ) : DR X W (.Call (.Name x p) (e :: es) [] pos) ρ S Ξ := by
  rw [Bool.and_eq_true] at hc
  obtain ⟨hj, hn⟩ := hc
  have gg := glB_of g.g
  obtain ⟨f, fd, ps, F, m, kp, b, _⟩ := F.ex
  cases A.prog
  cases A.w
  cases A.K
  cases A.mg
  cases A.base
  exact DR.of (pe_callS F (A.room.mono (Nat.le_of_ble_eq_true hj)) (A.gl _ gg.2) m kp b (fun σ => passAt tk σ) pa_w (plain1 gg.1).1 he hpl) fun Zh σ H Q E P => h.tw E fun vs H1 ds S1 k1 g1 s1 r1 l1 q1 => by
    refine ⟨?_, Zh, ds, S1, Ξ, s1, by rw [k1]; exact r1, q1, fun c H' S' k' g' s' q => (P.next k1 g1) c H' S' k' g' s' q⟩
    rw [r1.length, l1]
    exact Nat.eq_of_beq_eq_true hn
/-- an argument raises -/
theorem dr_callA {x : Str} {n j : Nat} {B : Spec} (A : At X P w K mg base tb names k) (F : Fn P w K mg base x n j B) (g : Glo names x) (hc : (Nat.ble j k && Nat.beq (e :: es).length n) = true)
    (he : starEach (e :: es) X.env = (false, eval e X.env) :: starEach es X.env) (hpl : (backTo pos (starEach es X.env)).any (·.1) = false)
    (h : DRA X W (e :: es) ρ S Ξ) : DR X W (.Call (.Name x p) (e :: es) [] pos) ρ S Ξ := by
  rw [Bool.and_eq_true] at hc
  obtain ⟨hj, hn⟩ := hc
  have gg := glB_of g.g
  obtain ⟨f, fd, ps, F, m, kp, b, _⟩ := F.ex
  cases A.prog
  cases A.w
  cases A.K
  cases A.mg
  cases A.base
  exact DR.of (pe_call F (A.room.mono (Nat.le_of_ble_eq_true hj)) (A.gl _ gg.2) m kp b .nil pass0 pa_w (plain1 gg.1).1 he hpl) fun Zh σ H Q E P => h.tw E P
theorem dr_callAR {x : Str} {n j : Nat} {B : SpecR} (A : At X P w K mg base tb names k) (tk : Takes X W) (F : FnR P w K mg base x n j B) (g : Glo names x) (hc : (Nat.ble j k && Nat.beq (e :: es).length n) = true)
    (he : starEach (e :: es) X.env = (false, eval e X.env) :: starEach es X.env) (hpl : (backTo pos (starEach es X.env)).any (·.1) = false)
    (h : DRA X W (e :: es) ρ S Ξ) : DR X W (.Call (.Name x p) (e :: es) [] pos) ρ S Ξ := by
  rw [Bool.and_eq_true] at hc
  obtain ⟨hj, hn⟩ := hc
  have gg := glB_of g.g
  obtain ⟨f, fd, ps, F, m, kp, b, _⟩ := F.ex
  cases A.prog
  cases A.w
  cases A.K
  cases A.mg
  cases A.base
  exact DR.of (pe_callS F (A.room.mono (Nat.le_of_ble_eq_true hj)) (A.gl _ gg.2) m kp b (fun σ => passAt tk σ) pa_w (plain1 gg.1).1 he hpl) fun Zh σ H Q E P => h.tw E P
/-- a built-in's argument raises -/
theorem dr_cB {id : String} {x : Str} {r : List V → Hp → VK → Prop} (A : At X P w K mg base tb names k) (G : NoB mg) (hc : CallR X (.builtin id) r) (hv : bootBuiltins x = some (.builtin id)) (hg : (bltB x && glB names x) = true)
    (he : starEach (e :: es) X.env = (false, eval e X.env) :: starEach es X.env) (hpl : (backTo pos (starEach es X.env)).any (·.1) = false) (h : DRA X W (e :: es) ρ S Ξ) : DR X W (.Call (.Name x p) (e :: es) [] pos) ρ S Ξ := by
  rw [Bool.and_eq_true] at hg
  have z := glB_of hg.2
  exact DR.of (pe_callB hc (A.gl _ z.2) (by rw [A.mg]; exact G.no _ hg.1) hv pa_w (plain1 z.1).2.2 (plain1 z.1).1 he hpl) fun Zh σ H Q E P => h.tw E P
end
/-- the body's frame -/
def cxX (P : Program) (w : World) (K : PySem.W.Frag) (mg : Str → Option Value) (base : Heap) (N : List Str) (qual : Str) (sc : Scope) (f : Addr) (cd : Value) (A : Around) (outer : List Env) (s : Shared) (H : Hp) (E : XK) : Cx := cxOf (L2.CX P w) P w K mg base N qual sc f cd A outer s H E
section
variable {P : Program} {w : World} {K : PySem.W.Frag} {mg : Str → Option Value} {base : Heap}
theorem at_defX {N ps : List Str} {tb : List (Str × Nat)} (ht : ∀ x i, tb.lookup x = some i → N[i]? = some x) (hc : ∀ x, x ∈ N → (tb.lookup x).isSome = true) {qual : Str} {sc : Scope} {f : Addr} {cd : Value} {A : Around} {outer : List Env} {s : Shared} {H : Hp} {E : XK} {k : Nat} (F : FnScope N ps sc) (hr : Room k (A.deeper (envOfC qual sc s.heap.objs.size f cd))) :
    At (cxOf (L2.CX P w) P w K mg base N qual sc f cd A outer s H E) P w K mg base tb sc.names k :=
  let Z := at_def (P := P) (w := w) (K := K) (mg := mg) (base := base) (qual := qual) (f := f) (cd := cd) (A := A) (outer := outer) (s := s) (H := H) (E := E) ht hc F hr
  ⟨rfl, rfl, rfl, rfl, rfl, ht, hc, Z.vis, Z.gl, Z.sto, Z.loc, Z.cf, F.kind, hr, rfl, F.nd, PassesOwn.leaving⟩
theorem Has.fnR {tb : List (Str × Nat)} {x : Str} {st : Stmt} {N ps : List Str} {k n : Nat} {names : List (Str × NameKind)} {B : SpecR} (F : Has K mg x st ps) (Sc : FnScope N ps (defScope st)) (hn : ps.length = n) (hnm : (defScope st).names = names) (ht : tbOk N tb = true)
    (body : ∀ X W, At X P w K mg base tb names k → Takes X W → ∀ ds S Ξ, ds.length = n → B ds S Ξ → DRSs X W (defBody st) (ds.map some ++ List.replicate (N.length - ds.length) none) S fun c _ S' => ∃ S2 R, S' = S2 ++ R ∧ keys S2 = keys S ∧ Ξ c S2) : FnR P w K mg base x n (k + 1) B := by
  obtain ⟨f, fd, F, hm, hb⟩ := F
  refine ⟨f, fd, ps, F.okX Sc (fun vs H Q E h => by rw [h.1, hn]) (fun cdv A outer s H vs Q E hr h => ?_), hm, F.kp, hb, hn, .of F⟩
  obtain ⟨hl, Zh, ds, S, Ξ, hS, hR, hB, hP⟩ := h
  have hat := at_defX (P := P) (w := w) (K := K) (mg := mg) (base := base) (qual := x) (f := f) (cd := cdv) (A := A) (outer := outer) (s := s) (H := H) (E := E) (tbOk_of ht) (tbOk_cov ht) Sc hr
  rw [hnm] at hat
  have b := body _ (fun cls d _ H => E cls d H) hat (takes_of rfl rfl rfl rfl) ds S Ξ (by rw [← hR.length]; exact hl) hB
  refine ⟨_, pss_w, b.tw (ev_start hS hR) ?_⟩
  rintro c σ' H' ρ' S' t ev ⟨S2, R, rfl, hk, q⟩
  exact hP c H' S2 hk t.1 ev.st.drop q
end
end Ar
namespace L2
open PySem PySem.Spec PyProof.Rows
/-- what clauses 'except x as n', one after the other, wish: slot i is n's -/
def wManyAs (K : PySem.W.Frag) (i : Nat) (Wout : WX) (D : Ends) : List (Value × (Addr → Value → Option Addr → TS)) → WX
  | [] => Wout
  | (c, ts) :: r => fun cls d σ H => ∃ b, PySem.W.exmOne K cls c = some b ∧ (b = true → ∀ a, H a = none → ts a cls d { nx := fun σ' H' => D.nx (σ'.set i none) H', rt := D.rt, bk := fun σ' H' => D.bk (σ'.set i none) H', ct := fun σ' H' => D.ct (σ'.set i none) H' } (σ.set i (some (.ref a))) H) ∧
    (b = false → wManyAs K i Wout D r cls d σ H)
inductive HdsAs (X : Cx) (n : Str) : List ExceptHandler → List (Value × (Addr → Value → Option Addr → TS)) → Prop
  | nil : HdsAs X n [] []
  | cons {x : Str} {c : Value} {ts : Addr → Value → Option Addr → TS} {b₀ : Stmt} {suite : List Stmt} {np pos' : Pos} {hds : List ExceptHandler} {l : List (Value × (Addr → Value → Option Addr → TS))} (hc : Names X x c)
      (hsu : ∀ (a : Addr) (oe : Obj) (cls : Value) (d : Option Addr) (pn : List (Addr × Obj)), Zc cls d oe → (∃ vs, oe.data = .fields vs) → PSs (X.suite a ((a, oe) :: pn)) (b₀ :: suite) (ts a cls d)) (r : HdsAs X n hds l) :
      HdsAs X n (.ExceptHandler (some (.Name x np)) (some n) (b₀ :: suite) pos' :: hds) ((c, ts) :: l)
section
variable {X : Cx} {n : Str} {i : Nat} {body : List Stmt} {h₀ : ExceptHandler} {hds : List ExceptHandler} {l : List (Value × (Addr → Value → Option Addr → TS))} {pos : Pos} {tb : WX → TS} {Wout : WX}
theorem ps_try_manyAs (hs : X.stack = X.env :: X.outer) (hf : X.env.frame = some X.env.locals) (hN : X.N.Nodup) (hi : X.N[i]? = some n) (hln : X.env.kindOf n = some .local) (tk : Takes X Wout)
    (hb : ∀ (W : WX) (pn : List (Addr × Obj)) (xe : Value → Shared → Prop), Takes (X.tr pn xe) W → PassesOwn (model X.prog X.w) X.A X.env xe → PSs (X.tr pn xe) body (tb W))
    (hh : HdsAs X n (h₀ :: hds) l) : PS X (.Try body (h₀ :: hds) [] [] pos) (fun D σ H => tb (wManyAs X.K i Wout D l) D σ H) := by
  refine ⟨fun pins s σ H D I h => ?_⟩
  have ok := I.ok
  have hfr : X.A.frames = some (X.env :: X.outer) := by rw [ok.frames, hs]
  have hloc : Loc X.env.scope n := .inl hln
  refine wpAny_Try_except ?_
  refine wpAny_mono ((hb (wManyAs X.K i Wout D l) (X.pn ++ pins) (fun e s₁ => wpAny (model X.prog X.w) X.A (noteFrame e X.env) (fun _ s₂ => wpAny (model X.prog X.w) X.A (setFlight e none) (fun _ s₃ =>
    wpAny (model X.prog X.w) X.A (handleBy e X.env (h₀ :: hds)) (SP X pins D) X.xe s₃) X.xe s₂) X.xe s₁) (fun u s' xx => ?_) PassesOwn.looking).run [] s σ H D (I.toTry _) h) (fun f s1 hsp => ?_) (fun e s1 he => he)
  · obtain ⟨a, B, sI, pins', σ', H', cls, d, rfl, J', nb, up, sky, na, os, ag, w⟩ := xx
    have J : Inv X pins σ' H' sI := J'.ofTry ok
    have sky' : Sky B (X.env :: X.outer) a (Zc cls d) X.env.locals s'.heap := by rw [← hs]; exact sky
    show wpAny (model X.prog X.w) X.A (noteFrame (.ref a) X.env) _ _ _
    refine Sky.land Zc.steady hfr hf sky' fun h3 fl3 up3 => ?_
    have J3 : Inv X pins σ' H' { s' with heap := h3 } := J.landed nb fl3.1 (up.trans up3) os ag
    obtain ⟨oe3, vs3, he3, hz3, hd3⟩ := fl3.there
    have notFr : ∀ {h : Heap} {o : Obj} {vs : Array Value}, h.FunFrames B (X.env :: X.outer) → h.get? a = some o → o.data = .fields vs → a ∉ frs (X.env :: X.outer) := fun {h o vs} ff e dd hm => by
      obtain ⟨_, o', e', hnf⟩ := ff.mem hm
      rw [e] at e'; cases e'
      exact hnf _ dd
    have nfr := notFr fl3.2.2.1 he3 hd3
    have nL : a ≠ X.env.locals := fun z => nfr (List.mem_filterMap.mpr ⟨X.env, List.mem_cons_self, by rw [hf, z]⟩)
    have nF : a ∉ X.fs := fun hm => by
      obtain ⟨e, he, q⟩ := List.mem_filterMap.mp hm
      exact nfr (List.mem_filterMap.mpr ⟨e, List.mem_cons_of_mem _ he, q⟩)
    have S3 := J3.suite he3 hd3 na nL nF
    have go : ∀ {hds' : List ExceptHandler} {l' : List (Value × (Addr → Value → Option Addr → TS))}, HdsAs X n hds' l' → wManyAs X.K i Wout D l' cls d σ' H' →
        wpAny (model X.prog X.w) X.A (handleBy (.ref a) X.env hds') (SP X pins D) X.xe { s' with heap := h3 } := by
      intro hds' l' hk
      induction hk with
      | nil =>
        intro w
        refine wpAny_handleBy_nil ?_
        obtain ⟨k1, k2, k3, oe, vs, T, oT, ts', he, hz, hd, h1, hr⟩ := id fl3
        unfold PySem.passOn
        refine wpAny_bind (wpAny_field he hd h1 ?_)
        rw [if_neg (show ¬ ((Value.ref T == Value.none) = true) from by simp)]
        have fin : wpAny (model X.prog X.w) X.A (setFlight (.ref a) X.env.frame) (fun _ s4 => wpAny (model X.prog X.w) X.A (throw (.ref a) : Sem Flow) (SP X pins D) X.xe s4) X.xe { s' with heap := h3 } := by
          rw [hf]
          refine HandSPX.setFlight_upZ fl3 fun h4 hh4 up4 => wpAny_throw (tk _ _ ?_)
          exact ⟨a, B, sI, pins, σ', H', cls, d, rfl, J, nb, (up.trans up3).trans up4, .inr (.inr (by rw [hs]; exact hh4)), na, os, ag, w⟩
        first
          | exact wpAny_bind (wpAny_pure (wpAny_bind fin))
          | exact wpAny_bind fin
      | @cons x c ts b₀ suite np pos' hds2 l2 hc hsu r ih =>
        intro w
        obtain ⟨b, hb1, hyes, hno⟩ := w
        refine wpAny_handleBy_cons (codeAny_handlers_test ?_) (by intro q; cases q)
        have LT : PySem.W.Looks (model X.prog X.w) h3 (typeOf (.ref a)) cls := fun A Q E s k q => wpAny_typeOf_ref (k _ _ he3) (by rw [hz3.1]; exact q)
        have LM := PySem.W.exm_one (M := model X.prog X.w) (J3.kIn) LT hb1
        have test : ∀ {Q : Value → Shared → Prop} {E : Value → Shared → Prop}, Q c { s' with heap := h3 } → wpAny (model X.prog X.w) (X.A.mark (some (.ref a))) (eval (.Name x np) X.env) Q E { s' with heap := h3 } := fun {Q E} q => by
          obtain ⟨hg, hdbg, hm | ⟨hm, hv, hnn⟩⟩ := hc
          · exact ld_glob (X := X.suite a ((a, oe3) :: (X.pn ++ pins))) S3 hg hm q hdbg
          · exact ld_blt (X := X.suite a ((a, oe3) :: (X.pn ++ pins))) S3 hg hm hv q hnn hdbg
        refine test (LM.here ?_)
        cases b with
        | true =>
          refine codeAny_handlers_suite_as ?_
          refine HandSPX.lands_againZ fl3 fun h4 fl4 up4 => ?_
          have J4 : Inv X pins σ' H' { s' with heap := h4 } := J.landed nb fl4.1 ((up.trans up3).trans up4) os ag
          obtain ⟨oe4, vs4, he4, hz4, hd4⟩ := fl4.there
          have S4 := J4.suite he4 hd4 na nL nF
          refine store_ok (X := X.suite a ((a, oe4) :: (X.pn ++ pins))) (v := .ref a) S4 hN hi hloc rfl (fun s5 S5 => ?_) (.inr hln)
          refine wpAny_mono ((hsu a oe4 cls d (X.pn ++ pins) hz4 ⟨_, hd4⟩).run [] s5 _ H' _ S5 (hyes rfl a na)) (fun f s6 hsp => ?_) (fun _ _ z => False.elim z)
          have end_ : ∀ {σ6 : St} {H6 : Hp} {Q : Shared → Prop}, Inv (X.suite a ((a, oe4) :: (X.pn ++ pins))) [] σ6 H6 s6 → (∀ s7, Inv X pins (σ6.set i none) H6 s7 → Q s7) →
              wpAny (model X.prog X.w) X.A (do bindName X.env n .none; unbindBehindTheSuite X.env n pos') (fun _ s7 => Q s7) X.xe s6 := fun {σ6 H6 Q} S6 hq => gone_ok (S6.unsuite ok) hN hi hln hq
          cases f with
          | next =>
            obtain ⟨σ6, H6, S6, q6⟩ := hsp
            exact end_ S6 fun s7 J7 => ⟨_, _, J7, q6⟩
          | brk =>
            obtain ⟨σ6, H6, S6, q6⟩ := hsp
            exact end_ S6 fun s7 J7 => ⟨_, _, J7, q6⟩
          | cont =>
            obtain ⟨σ6, H6, S6, q6⟩ := hsp
            exact end_ S6 fun s7 J7 => ⟨_, _, J7, q6⟩
          | ret u =>
            obtain ⟨v6, σ6, H6, S6, r6, q6⟩ := hsp
            exact end_ S6 fun s7 J7 => ⟨_, _, _, J7, r6, q6⟩
        | false =>
          show wpAny _ X.A (handleBy (.ref a) X.env hds2) _ _ _
          exact ih (hno rfl)
    exact go hh w
  · cases f with
    | next =>
      obtain ⟨σ', H', J', q⟩ := hsp
      exact wpAny_execs_nil ⟨σ', H', J'.ofTry ok, q⟩
    | brk =>
      obtain ⟨σ', H', J', q⟩ := hsp
      exact ⟨σ', H', J'.ofTry ok, q⟩
    | cont =>
      obtain ⟨σ', H', J', q⟩ := hsp
      exact ⟨σ', H', J'.ofTry ok, q⟩
    | ret u =>
      obtain ⟨v, σ', H', J', r, q⟩ := hsp
      exact ⟨v, σ', H', J'.ofTry ok, r, q⟩
end
/-- isinstance(e, (c1, c2, ..)), e the exception that the suite holds -/
def rIsET (K : PySem.W.Frag) (D a : Addr) : List V → Hp → VK → Prop := fun xs H Q => ∃ (tp : Addr) (cs : List V) (us : List Value) (b : Bool), xs = [.ref a, .ref tp] ∧ H tp = some (.tup cs) ∧ Paired ClsV cs us ∧ PySem.W.kitAny K (.ref D) us = some b ∧ Q (.bl b) H
theorem call_isET {X : Cx} {a D : Addr} {oe : Obj} {pn : List (Addr × Obj)} (C : ExcC X.K D) (hz : Zc (.ref D) none oe) (hf : ∃ vs, oe.data = .fields vs) : CallR (X.suite a ((a, oe) :: pn)) (.builtin "isinstance") (rIsET X.K D a) := by
  intro pins s σ H xs us Q I r h
  obtain ⟨tp, cs, ws, b, rfl, hT, k, e, q⟩ := h
  obtain ⟨u1, u2, rfl, r1, r2⟩ := vals2 r
  cases (show u2 = Value.ref tp from r2)
  cases (show u1 = Value.ref a from r1)
  obtain ⟨hget, _⟩ := I.pin (a, oe) (List.mem_append.mpr (.inl List.mem_cons_self))
  obtain ⟨vs, hv⟩ := hf
  have J : PySem.W.InstAt s.heap a oe D none := by
    obtain ⟨oc, od, oda, osl⟩ := oe
    obtain ⟨h1, h2⟩ := hz
    dsimp only at h1 h2 hv
    subst h1 h2 hv
    exact ⟨hget, rfl, rfl, trivial⟩
  obtain ⟨_, its, rv, o, h1, h2, n, h3⟩ := (show ObjOk _ _ H s.heap tp (.tup cs) from I.hok tp _ hT)
  have e3 := ClsV.all k rv
  subst e3
  obtain ⟨oc, od, dt, sl⟩ := o
  simp only at h2 h3
  subst h2 h3
  exact PySem.W.kia_tup (PySem.W.handS_kitx_exc C.hg C.hk C.hs C.hd C.ha C.hn C.ht C.hm) I.kIn J h1 e (fun z => nomatch z) fun tk => ⟨.bl b, H, I.tok tk, rfl, q⟩
end L2
namespace Ar
open PySem PySem.Spec PyProof.Rows L2
structure Excs (K : PySem.W.Frag) (mg : Str → Option Value) (U C T : Addr) : Prop where
  u : ExcK K mg "Unfit" U
  c : ExcK K mg "CanNot" C
  t : ExcK K mg "TooMany" T
  uu : PySem.W.exmOne K (.ref U) (.ref U) = some true
  cu : PySem.W.exmOne K (.ref C) (.ref U) = some false
  tu : PySem.W.exmOne K (.ref T) (.ref U) = some false
  cc : PySem.W.exmOne K (.ref C) (.ref C) = some true
  tc : PySem.W.exmOne K (.ref T) (.ref C) = some false
  tt : PySem.W.exmOne K (.ref T) (.ref T) = some true
  u1 : PySem.W.kitOne K (.ref U) (.type "ValueError") = some true
  c1 : PySem.W.kitOne K (.ref C) (.type "ValueError") = some true
  t1 : PySem.W.kitOne K (.ref T) (.type "ValueError") = some true
  u2 : PySem.W.kitAny K (.ref U) [.ref C, .ref T, .type "LookupError"] = some false
  c2 : PySem.W.kitAny K (.ref C) [.ref T, .type "LookupError"] = some false
  t2 : PySem.W.kitOne K (.ref T) (.type "LookupError") = some false
  nv : mg "ValueError" = none
  nl : mg "LookupError" = none
theorem Ev.unset {K : PySem.W.Frag} {Zh : List Addr} {H : Hp} {σ : L2.St} {ρ : Ro} {S : Sto} {i : Nat} (E : Ev K Zh H σ ρ S) : Ev K Zh H (σ.set i none) (ρ.set i none) S :=
  ⟨E.st, by rw [List.length_set, List.length_set]; exact E.len, fun j c h => by
    by_cases hj : i = j
    · subst hj
      by_cases hl : i < ρ.length
      · rw [List.getElem?_set_self hl] at h
        cases h
      · rw [List.getElem?_eq_none (by rw [List.length_set]; omega)] at h
        cases h
    · rw [List.getElem?_set_ne hj] at h
      rw [List.getElem?_set_ne hj]
      exact E.var j c h⟩
section
variable {X : Cx} {ρ : Ro} {S : Sto} {Φ : D → Sto → Prop} {P : Program} {w : World} {K : PySem.W.Frag} {mg : Str → Option Value} {base : Heap} {tb : List (Str × Nat)} {names : List (Str × NameKind)} {k : Nat} {pos p p1 p2 p3 p4 : Pos} {e : Expr}
theorem At.tr (A : At X P w K mg base tb names k) {pn : List (Addr × Obj)} {xe : Value → Shared → Prop} (h : PassesOwn (model X.prog X.w) X.A X.env xe) : At (X.tr pn xe) P w K mg base tb names k :=
  ⟨A.prog, A.w, A.K, A.mg, A.base, A.slot, A.cov, A.vis, A.gl, A.sto, A.loc, A.cf, A.kind, A.room, A.calm, A.nd, h⟩
/-- isinstance of the caught error -/
theorem de_isE {a D1 : Addr} {oe : Obj} {pn : List (Addr × Obj)} {en cn : Str} {ie : Nat} {c : V} {cv : Value} {b : Bool} (A : At X P w K mg base tb names k) (G : NoB mg) (C : ExcC K D1) (hz : Zc (.ref D1) none oe) (hf : ∃ vs, oe.data = .fields vs) (v : Var tb names en ie) (g2 : Glo names "isinstance")
    (pc : PE (X.suite a ((a, oe) :: pn)) (.Name cn p2) (tC c)) (hcv : ∀ u, RelV c u → u = cv) (hk : PySem.W.kitOne K (.ref D1) cv = some b) (he : ρ[ie]? = some (some (.cell a))) (q : Φ (.bl b) S) :
    DE (X.suite a ((a, oe) :: pn)) (.Call (.Name "isinstance" p) [.Name en p1, .Name cn p2] [] pos) ρ S Φ := by
  have hK := A.K
  have hm := A.mg
  subst hK hm
  have z2 := glB_of g2.g
  have hv := v.vis
  rw [Bool.and_eq_true] at hv
  exact DE.of (pe_callB (X := X.suite a ((a, oe) :: pn)) (call_isE C hz hf) (A.gl _ z2.2) (G.no _ rfl) rfl (pa_cons (pe_var (X := X.suite a ((a, oe) :: pn)) (A.slot _ _ v.look) (A.vis _ hv.2) (plain1 hv.1).1 (plain1 hv.1).2.1) (pa_cons pc pa_nil rfl) rfl) (plain1 z2.1).2.2 (plain1 z2.1).1 rfl rfl) fun Zh σ H Q E P => by
    obtain ⟨u, e1, r1⟩ := E.var ie _ he
    rw [r1.cell] at e1
    exact ⟨_, e1, c, cv, b, rfl, hcv, hk, P.here E.st rep_bl q⟩
theorem de_isET {a D1 : Addr} {oe : Obj} {pn : List (Addr × Obj)} {en : Str} {es : List Expr} {kk} {ie : Nat} {cs : List V} {us : List Value} {b : Bool} (A : At X P w K mg base tb names k) (G : NoB mg) (C : ExcC K D1) (hz : Zc (.ref D1) none oe) (hf : ∃ vs, oe.data = .fields vs) (v : Var tb names en ie) (g2 : Glo names "isinstance")
    {t : TA} (pc : PA (X.suite a ((a, oe) :: pn)) es t) (ht : ∀ σ H Q, Q cs H → t σ H Q) (hn : cs.length ≤ 1000) (hp : Paired ClsV cs us) (hk : PySem.W.kitAny K (.ref D1) us = some b) (he : ρ[ie]? = some (some (.cell a))) (q : Φ (.bl b) S) :
    DE (X.suite a ((a, oe) :: pn)) (.Call (.Name "isinstance" p) [.Name en p1, .Tuple es kk p2] [] pos) ρ S Φ := by
  have hK := A.K
  have hm := A.mg
  subst hK hm
  have z2 := glB_of g2.g
  have hv := v.vis
  rw [Bool.and_eq_true] at hv
  exact DE.of (pe_callB (X := X.suite a ((a, oe) :: pn)) (call_isET C hz hf) (A.gl _ z2.2) (G.no _ rfl) rfl (pa_cons (pe_var (X := X.suite a ((a, oe) :: pn)) (A.slot _ _ v.look) (A.vis _ hv.2) (plain1 hv.1).1 (plain1 hv.1).2.1) (pa_cons (pe_tup pc) pa_nil rfl) rfl) (plain1 z2.1).2.2 (plain1 z2.1).1 rfl rfl) fun Zh σ H Q E P => by
    obtain ⟨u, e1, r1⟩ := E.var ie _ he
    rw [r1.cell] at e1
    refine ⟨_, e1, ht _ _ _ ⟨Nat.le_of_lt (small1000 hn), fun tp hp' => ⟨tp, cs, us, b, rfl, upd_same, hp, hk, ?_⟩⟩⟩
    exact (P.next rfl (Grow.new hp')).here (E.st.new hp') rep_bl q
theorem small_le {n : Nat} (h : n ≤ 1000) : n ≤ sizeLine := Nat.le_of_lt (small1000 h)
theorem pe_cls {Y : Cx} {cn : Str} {C : Addr} (hg : Gl Y cn) (hm : Y.mg cn = some (.ref C)) (hd : (cn == ("__debug__" : Str)) = false) : PE Y (.Name cn p) (tC (.ref C)) := pe_glob hg hm rfl hd
/-- the value told of an error -/
def toldL (t : Str) : List D := [.str t, .bl true, .bl false]
theorem ds_set0 {st : Expr} {x : Str} {i : Nat} {a : Addr} {qs : List (Addr × Obj)} {E : DEnds} (A : At X P w K mg base tb names k) (v : Stv tb names x i) (hs : swapsWith e (some (.Name x p)) pos.line X.env = pure false) (h : DN (X.suite a qs) e ρ S fun l S1 => ∀ c, E.nx (ρ.set i (some (.cell c))) (S1 ++ [(c, l)])) : DS (X.suite a qs) (.Assign [.Name x p] e pos) ρ S E := by
  exact DS.of (ps_set (X := X.suite a qs) A.nd (A.slot _ _ v.look) (A.sto _ v.st).1 pe_w hs (A.sto _ v.st).2) fun Zh σ H Dn ev k => h.tw ev fun c vs H' l S' k' g s' hc h' r q => by
    obtain ⟨ev1, st1⟩ := ev.cell k' g s' hc h' r
    exact k.nx _ _ _ _ st1 (ev1.put (by unfold Rep; rfl)) (q c)
/-- try: e / except Unfit as x: .. / except CanNot as x: .. / except TooMany as x: .. -/
theorem ds_try3 {U C T : Addr} {E : DEnds} {it ie kk1 kk2 : Nat} {j0 j1 j2 : Nat} {q1 q2 q3 h1 h2 h3 r1 r2 r3 u1 u2 u3 u4 u5 u6 u7 u8 u9 s1 s2 s3 s4 s5 s6 s7 s8 v1 v2 v3 v4 v5 v6 v7 l1 l2 l3 m1 m2 m3 x1 x2 x3 y1 y2 z1 z2 z3 : Pos} (A : At X P w K mg base tb names k) (G : NoB mg) (M : Excs K mg U C T)
    (hs : X.stack = X.env :: X.outer) (hf : X.env.frame = some X.env.locals) (vt : Stv tb names "told_so" it) (ve : Var tb names "error" ie) (ne : it ≠ ie) (le : Lcv tb names "error" ie)
    (gU : Glo names "Unfit") (gC : Glo names "CanNot") (gT : Glo names "TooMany") (gV : Glo names "ValueError") (gL : Glo names "LookupError") (gi : Glo names "isinstance") (hit : it < ρ.length) (hie : ie < ρ.length)
    (hsw : swapsWith e none pos.line X.env = pure false)
    (h : (∀ Y W, At Y P w K mg base tb names k → Takes Y W → DE Y e ρ S fun _ S1 => E.nx ρ S1) ∨
      ∃ c t, (c = U ∧ t = ("unfit" : Str) ∨ c = C ∧ t = ("cannot" : Str) ∨ c = T ∧ t = ("many" : Str)) ∧ ∀ Y W, At Y P w K mg base tb names k → Takes Y W → DR Y W e ρ S fun c' S1 => c' = .ref c ∧ ∀ c1, E.nx ((ρ.set it (some (.cell c1))).set ie none) (S1 ++ [(c1, toldL t)])) :
    DS X (.Try [.Expr e pos] [
      .ExceptHandler (some (.Name "Unfit" q1)) (some "error") [.Assign [.Name "told_so" h1] (.List [.Constant (.str "unfit") j0 r1, .Call (.Name "isinstance" u1) [.Name "error" u2, .Name "ValueError" u3] [] u4, .Call (.Name "isinstance" u5) [.Name "error" u6, .Tuple [.Name "CanNot" u7, .Name "TooMany" u8, .Name "LookupError" u9] kk1 y1] [] l1] m1) x1] z1,
      .ExceptHandler (some (.Name "CanNot" q2)) (some "error") [.Assign [.Name "told_so" h2] (.List [.Constant (.str "cannot") j1 r2, .Call (.Name "isinstance" s1) [.Name "error" s2, .Name "ValueError" s3] [] s4, .Call (.Name "isinstance" s5) [.Name "error" s6, .Tuple [.Name "TooMany" s7, .Name "LookupError" s8] kk2 y2] [] l2] m2) x2] z2,
      .ExceptHandler (some (.Name "TooMany" q3)) (some "error") [.Assign [.Name "told_so" h3] (.List [.Constant (.str "many") j2 r3, .Call (.Name "isinstance" v1) [.Name "error" v2, .Name "ValueError" v3] [] v4, .Call (.Name "isinstance" v5) [.Name "error" v6, .Name "LookupError" v7] [] l3] m3) x3] z3] [] [] p) ρ S E := by
  have hK := A.K
  have hm := A.mg
  subst hK hm
  have kU := glB_of gU.g
  have kC := glB_of gC.g
  have kT := glB_of gT.g
  have kV := glB_of gV.g
  have kL := glB_of gL.g
  have nv : ∀ a qs pp, PE (X.suite a qs) (.Name "ValueError" pp) (tC (.ty "ValueError")) := fun a qs pp => pe_bltn (A.gl _ kV.2) M.nv boot_ValueError rfl (plain1 kV.1).2.2 (plain1 kV.1).1
  have nl : ∀ a qs pp, PE (X.suite a qs) (.Name "LookupError" pp) (tC (.ty "LookupError")) := fun a qs pp => pe_bltn (A.gl _ kL.2) M.nl (by decide +kernel) rfl (plain1 kL.1).2.2 (plain1 kL.1).1
  have nC : ∀ a qs pp, PE (X.suite a qs) (.Name "CanNot" pp) (tC (.ref C)) := fun a qs pp => pe_glob (A.gl _ kC.2) M.c.xg rfl (plain1 kC.1).1
  have nT : ∀ a qs pp, PE (X.suite a qs) (.Name "TooMany" pp) (tC (.ref T)) := fun a qs pp => pe_glob (A.gl _ kT.2) M.t.xg rfl (plain1 kT.1).1
  have rty : ∀ (n : String) u, RelV (.ty n) u → u = .type n := fun n u h => h
  -- the suites
  have su : ∀ (a : Addr) (oe : Obj) (pn : List (Addr × Obj)) (ρ1 : Ro) (S1 : Sto), Zc (.ref U) none oe → (∃ vs, oe.data = .fields vs) → ρ1[ie]? = some (some (.cell a)) → ∀ E1 : DEnds, (∀ c1, E1.nx (ρ1.set it (some (.cell c1))) (S1 ++ [(c1, toldL "unfit")])) →
      DSs (X.suite a ((a, oe) :: pn)) [.Assign [.Name "told_so" h1] (.List [.Constant (.str "unfit") j0 r1, .Call (.Name "isinstance" u1) [.Name "error" u2, .Name "ValueError" u3] [] u4, .Call (.Name "isinstance" u5) [.Name "error" u6, .Tuple [.Name "CanNot" u7, .Name "TooMany" u8, .Name "LookupError" u9] kk1 y1] [] l1] m1) x1] ρ1 S1 E1 := fun a oe pn ρ1 S1 hz hf he E1 q => by
    refine ds_one (ds_set0 (st := .Name "error" p) A vt rfl (dn_lst rfl (da_cons (de_str ?_) rfl)))
    refine da_cons (de_isE A G M.u.is hz hf ve gi (nv _ _ _) (rty _) M.u1 he ?_) rfl
    refine da_cons (de_isET (cs := [.ref C, .ref T, .ty "LookupError"]) A G M.u.is hz hf ve gi (pa_cons (nC _ _ _) (pa_cons (nT _ _ _) (pa_cons (nl _ _ _) pa_nil rfl) rfl) rfl) (fun _ _ _ q => q) (Nat.le_of_ble_eq_true rfl) (.cons (.own _) (.cons (.own _) (.cons (.ty _) .nil))) M.u2 he ?_) rfl
    exact da_nil q
  have sc : ∀ (a : Addr) (oe : Obj) (pn : List (Addr × Obj)) (ρ1 : Ro) (S1 : Sto), Zc (.ref C) none oe → (∃ vs, oe.data = .fields vs) → ρ1[ie]? = some (some (.cell a)) → ∀ E1 : DEnds, (∀ c1, E1.nx (ρ1.set it (some (.cell c1))) (S1 ++ [(c1, toldL "cannot")])) →
      DSs (X.suite a ((a, oe) :: pn)) [.Assign [.Name "told_so" h2] (.List [.Constant (.str "cannot") j1 r2, .Call (.Name "isinstance" s1) [.Name "error" s2, .Name "ValueError" s3] [] s4, .Call (.Name "isinstance" s5) [.Name "error" s6, .Tuple [.Name "TooMany" s7, .Name "LookupError" s8] kk2 y2] [] l2] m2) x2] ρ1 S1 E1 := fun a oe pn ρ1 S1 hz hf he E1 q => by
    refine ds_one (ds_set0 (st := .Name "error" p) A vt rfl (dn_lst rfl (da_cons (de_str ?_) rfl)))
    refine da_cons (de_isE A G M.c.is hz hf ve gi (nv _ _ _) (rty _) M.c1 he ?_) rfl
    refine da_cons (de_isET (cs := [.ref T, .ty "LookupError"]) A G M.c.is hz hf ve gi (pa_cons (nT _ _ _) (pa_cons (nl _ _ _) pa_nil rfl) rfl) (fun _ _ _ q => q) (Nat.le_of_ble_eq_true rfl) (.cons (.own _) (.cons (.ty _) .nil)) M.c2 he ?_) rfl
    exact da_nil q
  have st : ∀ (a : Addr) (oe : Obj) (pn : List (Addr × Obj)) (ρ1 : Ro) (S1 : Sto), Zc (.ref T) none oe → (∃ vs, oe.data = .fields vs) → ρ1[ie]? = some (some (.cell a)) → ∀ E1 : DEnds, (∀ c1, E1.nx (ρ1.set it (some (.cell c1))) (S1 ++ [(c1, toldL "many")])) →
      DSs (X.suite a ((a, oe) :: pn)) [.Assign [.Name "told_so" h3] (.List [.Constant (.str "many") j2 r3, .Call (.Name "isinstance" v1) [.Name "error" v2, .Name "ValueError" v3] [] v4, .Call (.Name "isinstance" v5) [.Name "error" v6, .Name "LookupError" v7] [] l3] m3) x3] ρ1 S1 E1 := fun a oe pn ρ1 S1 hz hf he E1 q => by
    refine ds_one (ds_set0 (st := .Name "error" p) A vt rfl (dn_lst rfl (da_cons (de_str ?_) rfl)))
    refine da_cons (de_isE A G M.t.is hz hf ve gi (nv _ _ _) (rty _) M.t1 he ?_) rfl
    refine da_cons (de_isE A G M.t.is hz hf ve gi (nl _ _ _) (rty _) M.t2 he ?_) rfl
    exact da_nil q
  let TSu : List Stmt → Addr → Value → Option Addr → TS := fun suite a cls d => fun D σ H => ∀ oe pn, Zc cls d oe → (∃ vs, oe.data = .fields vs) → ∀ pins s, Inv (X.suite a ((a, oe) :: pn)) pins σ H s → wpAny (model X.prog X.w) (X.suite a ((a, oe) :: pn)).A (execs suite (X.suite a ((a, oe) :: pn)).env) (SP (X.suite a ((a, oe) :: pn)) pins D) (X.suite a ((a, oe) :: pn)).xe s
  have hts : ∀ suite a oe cls d pn, Zc cls d oe → (∃ vs, oe.data = .fields vs) → PSs (X.suite a ((a, oe) :: pn)) suite (TSu suite a cls d) := fun suite a oe cls d pn hz hf => ⟨fun pins s σ H D I h => h oe pn hz hf pins s I⟩
  refine DS.of (ps_try_manyAs (tb := fun W => fun D σ H => ∀ pn xe, Takes (X.tr pn xe) W → PassesOwn (model X.prog X.w) X.A X.env xe → ∀ pins s, Inv (X.tr pn xe) pins σ H s → wpAny (model X.prog X.w) X.A (execs [.Expr e pos] X.env) (SP (X.tr pn xe) pins D) xe s) hs hf A.nd (A.slot _ _ le.look) (A.loc _ (locB_of le.lc)) takes0
    (fun W pn xe tk po => ⟨fun pins s σ H D I h => h pn xe tk po pins s I⟩)
    (.cons (ts := TSu _) ⟨A.gl _ kU.2, (plain1 kU.1).1, .inl M.u.xg⟩ (fun a oe cls d pn hz hf => hts _ a oe cls d pn hz hf) (.cons (ts := TSu _) ⟨A.gl _ kC.2, (plain1 kC.1).1, .inl M.c.xg⟩ (fun a oe cls d pn hz hf => hts _ a oe cls d pn hz hf) (.cons (ts := TSu _) ⟨A.gl _ kT.2, (plain1 kT.1).1, .inl M.t.xg⟩ (fun a oe cls d pn hz hf => hts _ a oe cls d pn hz hf) .nil)))) fun Zh σ H Dn ev kk => ?_
  intro pn xe tk po pins s I
  rcases h with h | ⟨c, t, hct, h⟩
  · exact (ds_one (ds_expr (X := X.tr pn xe) (E := { nx := E.nx, rt := E.rt, bk := E.bk, ct := E.ct }) hsw ((h _ _ (A.tr po) tk).mono fun d S1 q => q))) Zh pins s σ H Dn I ev kk
  · have d := h _ _ (A.tr (pn := pn) po) tk
    refine (drss_here (sts := []) (drs_expr (X := X.tr pn xe) (Θ := fun c' ρ1 S1 => c' = .ref c ∧ ρ1 = ρ ∧ ∀ c1, E.nx ((ρ.set it (some (.cell c1))).set ie none) (S1 ++ [(c1, toldL t)])) hsw (fun Zh pins s σ H Q I e P => d Zh pins s σ H Q I e fun cls H' S' k' g' s' q => P cls H' S' k' g' s' ⟨q.1, rfl, q.2⟩))) Zh pins s σ H Dn I ev ?_
    rintro cls σ' H' ρ' S' stp ev' ⟨rfl, rfl, q⟩
    have pv : ∀ a, Ev X.K Zh H' (σ'.set ie (some (.ref a))) (ρ'.set ie (some (.cell a))) S' := fun a => ev'.put (show Rep X.K (keys S' ++ Zh) H' (.cell a) (.ref a) by unfold Rep; rfl)
    have lk : ∀ a : Addr, (ρ'.set ie (some (D.cell a)))[ie]? = some (some (.cell a)) := fun a => List.getElem?_set_self hie
    have fin : ∀ (a : Addr) (suite : List Stmt), (∀ oe pn, Zc (.ref c) none oe → (∃ vs, oe.data = .fields vs) → ∀ E1 : DEnds, (∀ c1, E1.nx ((ρ'.set ie (some (.cell a))).set it (some (.cell c1))) (S' ++ [(c1, toldL t)])) → DSs (X.suite a ((a, oe) :: pn)) suite (ρ'.set ie (some (.cell a))) S' E1) →
        TSu suite a (.ref c) none { nx := fun σ' H' => Dn.nx (σ'.set ie none) H', rt := Dn.rt, bk := fun σ' H' => Dn.bk (σ'.set ie none) H', ct := fun σ' H' => Dn.ct (σ'.set ie none) H' } (σ'.set ie (some (.ref a))) H' := fun a suite hd oe pn hz hf pins s I => by
      refine hd oe pn hz hf { nx := fun ρ6 S6 => E.nx (ρ6.set ie none) S6, rt := fun _ _ => False } ?_ Zh pins s _ _ _ I (pv a) ⟨fun σ6 H6 ρ6 S6 t6 e6 q6 => kk.nx _ _ _ _ (stp.trans t6) e6.unset q6, fun _ _ _ _ _ _ _ q => q.elim, fun _ _ _ _ _ _ q => q.elim, fun _ _ _ _ _ _ q => q.elim⟩
      intro c1
      show E.nx (((ρ'.set ie (some (.cell a))).set it (some (.cell c1))).set ie none) (S' ++ [(c1, toldL t)])
      rw [List.set_comm _ _ ne.symm, List.set_set]
      exact q c1
    rcases hct with ⟨rfl, rfl⟩ | ⟨rfl, rfl⟩ | ⟨rfl, rfl⟩
    · exact ⟨true, M.uu, ⟨fun _ a _ => fin a _ fun oe pn hz hf E1 q => su a oe pn _ _ hz hf (lk a) E1 q, fun z => by cases z⟩⟩
    · exact ⟨false, M.cu, ⟨fun z => (by cases z), fun _ => ⟨true, M.cc, ⟨fun _ a _ => fin a _ fun oe pn hz hf E1 q => sc a oe pn _ _ hz hf (lk a) E1 q, fun z => by cases z⟩⟩⟩⟩
    · exact ⟨false, M.tu, ⟨fun z => (by cases z), fun _ => ⟨false, M.tc, ⟨fun z => (by cases z), fun _ => ⟨true, M.tt, ⟨fun _ a _ => fin a _ fun oe pn hz hf E1 q => st a oe pn _ _ hz hf (lk a) E1 q, fun z => by cases z⟩⟩⟩⟩⟩⟩
end
end Ar
namespace Ar
open PySem PySem.Spec PyProof.Rows L2
/-! ### a run by data: what an expression is, worked out from its text -/
inductive Out (α : Type) where | ok (a : α) | ex (c : Str) | bad
def Out.bind {α β : Type} (x : Out α) (f : α → Out β) : Out β := match x with
  | .ok a => f a
  | .ex c => .ex c
  | .bad => .bad
theorem Out.bind_ok {α β : Type} {x : Out α} {f : α → Out β} {b : β} (h : x.bind f = .ok b) : ∃ a, x = .ok a ∧ f a = .ok b := by
  cases x with
  | ok a => exact ⟨a, rfl, h⟩
  | ex c => cases h
  | bad => cases h
theorem Out.bind_ex {α β : Type} {x : Out α} {f : α → Out β} {c : Str} (h : x.bind f = .ex c) : x = .ex c ∨ ∃ a, x = .ok a ∧ f a = .ex c := by
  cases x with
  | ok a => exact .inr ⟨a, rfl, h⟩
  | ex c' => exact .inl (by cases h; rfl)
  | bad => cases h
abbrev En := List (Option D)
def EnR (η : En) (ρ : Ro) : Prop := ∀ (i : Nat) (d : D), η[i]? = some (some d) → ρ[i]? = some (some d)
mutual
/-- no list in it -/
def flatD : D → Bool
  | .tup l => flatL l
  | .non => true
  | .bl _ => true
  | .int _ => true
  | .str _ => true
  | .rng _ _ => true
  | _ => false
def flatL : List D → Bool
  | [] => true
  | d :: l => flatD d && flatL l
end
def FlatS (S : Sto) : Prop := ∀ p l, (p, l) ∈ S → flatL l = true
mutual
theorem Rep.flat {K : PySem.W.Frag} {Z Z' : List Addr} {H : Hp} : ∀ {d : D} {v : V}, flatD d = true → Rep K Z H d v → Rep K Z' H d v
  | .non, v, _, h => by unfold Rep at h ⊢; exact h
  | .bl _, v, _, h => by unfold Rep at h ⊢; exact h
  | .int _, v, _, h => by unfold Rep at h ⊢; exact h
  | .rng _ _, v, _, h => by unfold Rep at h ⊢; exact h
  | .str _, v, _, h => by unfold Rep at h ⊢; exact h
  | .tup l, v, q, h => by
    unfold Rep at h ⊢
    unfold flatD at q
    obtain ⟨p, vs, e, s, r⟩ := h
    exact ⟨p, vs, e, s, RepL.flat q r⟩
  | .lst _, v, q, h => by unfold flatD at q; cases q
  | .frz _, v, q, h => by unfold flatD at q; cases q
  | .cell _, v, q, h => by unfold flatD at q; cases q
  | .dct _ _, v, q, h => by unfold flatD at q; cases q
theorem RepL.flat {K : PySem.W.Frag} {Z Z' : List Addr} {H : Hp} : ∀ {l : List D} {vs : List V}, flatL l = true → RepL K Z H l vs → RepL K Z' H l vs
  | [], vs, _, h => by
    rw [h.un0]
    exact .nil
  | d :: l, vs, q, h => by
    unfold flatL at q
    rw [Bool.and_eq_true] at q
    obtain ⟨v, r, e, h1, h2⟩ := h.uncons
    rw [e]
    exact .cons (Rep.flat q.1 h1) (RepL.flat q.2 h2)
end
/-! texts -/
theorem star_no {e : Expr} {es : List Expr} {env : Env} (h : isStar e = false) : starEach (e :: es) env = (false, eval e env) :: starEach es env := by
  cases e <;> first | rfl | cases h
def noStar (es : List Expr) : Bool := es.all fun e => !isStar e
theorem noStar_cons {e : Expr} {es : List Expr} (h : noStar (e :: es) = true) : isStar e = false ∧ noStar es = true := by
  unfold noStar at h ⊢
  rw [List.all_cons, Bool.and_eq_true] at h
  exact ⟨by simpa using h.1, h.2⟩
theorem star_pl {env : Env} {pos : Pos} : ∀ {es : List Expr}, noStar es = true → (backTo pos (starEach es env)).any (·.1) = false
  | [], _ => rfl
  | e :: es, h => by
    obtain ⟨h1, h2⟩ := noStar_cons h
    rw [star_no h1]
    show ((false : Bool) || (backTo pos (starEach es env)).any (·.1)) = false
    rw [star_pl h2]
    rfl
def isComp : Expr → Bool
  | .ListComp .. => true
  | .SetComp .. => true
  | .DictComp .. => true
  | _ => false
theorem swaps_no {e : Expr} {t : Option Expr} {n : Nat} {env : Env} (h : isComp e = false) : swapsWith e t n env = pure false := by
  cases e <;> first | rfl | cases h
theorem swapsSole_no {e t : Expr} {n : Nat} {env : Env} (h : isComp e = false) : swapsWithSole [t] e n env = pure false := swaps_no h
def isSet : Expr → Bool
  | .Set .. => true
  | _ => false
theorem folded_no {e : Expr} {env : Env} {x : Value} (h : isSet e = false) : foldedSetIterable e env x = pure x := by
  cases e <;> first | rfl | cases h
theorem marks_no {e : Expr} {op : CmpOp} (h : isSet e = false) : behindInMarks op e = false := by
  cases e <;> first | rfl | cases h
def isLeafT : Expr → Bool
  | .UnaryOp .Not _ _ => false
  | .BoolOp .. => false
  | .IfExp .. => false
  | .Compare .. => false
  | _ => true
theorem leafT {e : Expr} {env : Env} (h : isLeafT e = true) (whole : Sem Value) : isTrue e env whole = (do let v ← whole; standAt e.pos; holding [v] (truthy v)) := by
  cases e <;> first | rfl | (cases h; done) | skip
  case UnaryOp op a p => cases op <;> first | rfl | cases h
def isSl : Expr → Bool
  | .Slice .. => true
  | _ => false
theorem plain_ix {e : Expr} (h : isSl e = false) : PlainIx e := fun o i => by
  cases e <;> first | rfl | cases h
def isCl : Expr → Bool
  | .Call .. => true
  | _ => false
theorem base_no {o : Expr} {m : Str} {env : Env} {whole : Sem Value} (h : isCl o = false) : attributeBase o m env whole = whole := by
  cases o <;> first | rfl | cases h
/-! ### operations -/
def mulB (i : Int) : Bool := Nat.blt i.natAbs (2 ^ 4000)
def shortS (z : Str) : Bool := Nat.ble z.cps.toList.length 100000
def repL (n : Nat) (l : List Nat) : List Nat := (List.replicate n l).flatten
def opB0 : Operator → D → D → Out D
  | .Add, .int i, .int j => .ok (.int (i + j))
  | .Add, .str a, .str b => if shortS a && shortS b then .ok (.str ⟨(a.cps.toList ++ b.cps.toList).toArray⟩) else .bad
  | .Add, .lst l, .lst m => if Nat.ble (l.length + m.length) 1000 then .ok (.lst (l ++ m)) else .bad
  | .Add, .tup l, .tup m => if Nat.ble (l.length + m.length) 1000 then .ok (.tup (l ++ m)) else .bad
  | .Sub, .int i, .int j => .ok (.int (i - j))
  | .Mult, .int i, .int j => if mulB i && mulB j then .ok (.int (i * j)) else .bad
  | .Mult, .str z, .int n => if Nat.ble z.cps.toList.length 100 && Nat.ble n.natAbs 10000 then .ok (.str ⟨(repL n.toNat z.cps.toList).toArray⟩) else .bad
  | .FloorDiv, .int i, .int j => if Int.blt' 0 j && mulB j then .ok (.int (i / j)) else if Int.blt' j 0 && Int.blt' (-1073741824) j then .ok (.int (i.fdiv j)) else .bad
  | .Mod, .int i, .int j => if Int.blt' 0 j then .ok (.int (i % j)) else if Int.blt' j 0 then .ok (.int (i.fmod j)) else .bad
  | .Pow, .int i, .int j => if Int.blt' (-1) j && Int.blt' j 64 && Nat.blt i.natAbs 1000 then .ok (.int (i ^ j.toNat)) else .bad
  | .LShift, .int i, .int j => if Int.blt' (-1) j && Int.blt' j 4000 && mulB i then .ok (.int (i * 2 ^ j.toNat)) else .bad
  | .Mult, .lst l, .int n => if Nat.ble n.natAbs 1000 && Nat.ble (l.length * n.toNat) 100000 then .ok (.lst (List.replicate n.toNat l).flatten) else .bad
  | _, _, _ => .bad
where Int.blt' (a b : Int) : Bool := decide (a < b)

theorem Str.eta (z : Str) : (⟨z.cps.toList.toArray⟩ : Str) = z := by
  obtain ⟨⟨l⟩⟩ := z
  rfl
theorem short_len {z : Str} (h : shortS z = true) : z.length ≤ 100000 := Nat.le_of_ble_eq_true h
theorem line_of {n m : Nat} (h : n ≤ m) (k : m ≤ 1000000) : n ≤ sizeLine := by
  have e := sizeLine_eq
  omega
theorem RepL.reps {K : PySem.W.Frag} {Z : List Addr} {H : Hp} {l : List D} {vs : List V} (r : RepL K Z H l vs) : ∀ n : Nat, RepL K Z H (List.replicate n l).flatten (List.replicate n vs).flatten
  | 0 => .nil
  | n + 1 => by
    rw [List.replicate_succ, List.flatten_cons, List.replicate_succ, List.flatten_cons]
    exact r.append (RepL.reps r n)
theorem do_rep {X : Cx} {S : Sto} {Φ : D → Sto → Prop} {l : List D} {n : Int} (h1 : n.natAbs ≤ 1000) (h2 : l.length * n.toNat ≤ 100000) (q : Φ (.lst (List.replicate n.toNat l).flatten) S) : DO X (binaryOp .Mult) (.lst l) (.int n) S Φ := DO.of op_rep fun Zh H x y Q st ra rb P => by
  obtain ⟨p, vs, rfl, n1, h, r1⟩ := ra.lst
  have hz := line_of h2 (by decide)
  exact ⟨p, n, vs, rfl, rb.int, h, by omega, by omega, by rw [r1.length]; exact hz, fun z hz => P.lst st (r1.reps _) q hz⟩
theorem mulB_bd {i : Int} (h : mulB i = true) : Bd 4000 i := .lit h
theorem mul_wd2 {z : Str} {n : Int} (hz : z.cps.toList.length ≤ 100) (hn : n.natAbs ≤ 10000) : MulOk z n ∧ Txt.mul z n = ⟨(repL n.toNat z.cps.toList).toArray⟩ := by
  have hl : z.length = z.cps.toList.length := rfl
  have hprod : z.cps.toList.length * n.toNat ≤ 100 * 10000 := Nat.mul_le_mul hz (by omega)
  refine ⟨⟨?_, fun h2 h3 => ?_, fun h2 h3 => ?_⟩, ?_⟩
  · rw [Bool.or_eq_false_iff]
    exact ⟨decide_eq_false (by omega), decide_eq_false (by omega)⟩
  · rw [hl]
    have : (100 : Int) ≤ (2 ^ 63 - 1) / n := by
      rw [Int.le_ediv_iff_mul_le (by omega)]
      omega
    omega
  · rw [hl]
    unfold Builtin.Str.tooLong
    rw [decide_eq_false]
    have e := sizeLine_eq
    omega
  · unfold Txt.mul
    by_cases h2 : n < 1
    · rw [if_pos h2]
      have : n.toNat = 0 := by omega
      rw [this]
      rfl
    · rw [if_neg h2]
      have go : ∀ (m : Nat) (acc : Array Nat), (List.replicate m z.cps).foldl (· ++ ·) acc = acc ++ (repL m z.cps.toList).toArray := by
        intro m
        induction m with
        | zero => intro acc; simp [repL]
        | succ m ih =>
          intro acc
          rw [List.replicate_succ, List.foldl_cons, ih]
          unfold repL
          rw [List.replicate_succ, List.flatten_cons]
          apply Array.ext'
          simp
      split
      · rename_i h3
        rw [Bool.or_eq_true] at h3
        rcases h3 with h3 | h3
        · have h4 : n = 1 := eq_of_beq h3
          subst h4
          show z = _
          rw [← Str.eta z]
          simp [repL]
        · have h4 : z.cps.toList.length = 0 := eq_of_beq h3
          have h5 : z.cps.toList = [] := List.eq_nil_of_length_eq_zero h4
          rw [h5]
          rw [← Str.eta z, h5]
          simp [repL]
      · congr 1
        rw [go]
        simp
section
variable {X : Cx} {S : Sto} {Φ : D → Sto → Prop}
theorem opB0_ok {op : Operator} {x y d : D} (h : opB0 op x y = .ok d) (q : Φ d S) : DO X (binaryOp op) x y S Φ := by
  unfold opB0 at h
  split at h
  · cases h
    exact do_add q
  · split at h
    · rename_i a b hs
      rw [Bool.and_eq_true] at hs
      cases h
      refine do_addS (line_of (m := 200000) ?_ (by decide)) ?_
      · have h1 := short_len hs.1
        have h2 := short_len hs.2
        omega
      · have e : a ++ b = ⟨(a.cps.toList ++ b.cps.toList).toArray⟩ := by
          obtain ⟨⟨a⟩⟩ := a
          obtain ⟨⟨b⟩⟩ := b
          show (⟨⟨a⟩ ++ ⟨b⟩⟩ : Str) = _
          simp
        rw [e]
        exact q
    · cases h
  · split at h
    · rename_i hs
      cases h
      exact do_cat (line_of (Nat.le_of_ble_eq_true hs) (by decide)) q
    · cases h
  · split at h
    · rename_i hs
      cases h
      exact do_catT (line_of (Nat.le_of_ble_eq_true hs) (by decide)) q
    · cases h
  · cases h
    exact do_sub q
  · split at h
    · rename_i hs
      rw [Bool.and_eq_true] at hs
      cases h
      exact do_mulX (Bd.ok (mulB_bd hs.1) (mulB_bd hs.2) rfl) q
    · cases h
  · split at h
    · rename_i hs
      rw [Bool.and_eq_true] at hs
      cases h
      obtain ⟨c, e⟩ := mul_wd2 (Nat.le_of_ble_eq_true hs.1) (Nat.le_of_ble_eq_true hs.2)
      exact do_mulS c (by rw [e]; exact q)
    · cases h
  · split at h
    · rename_i hs
      rw [Bool.and_eq_true] at hs
      cases h
      exact do_fdiv (Bd.div (of_decide_eq_true hs.1) (mulB_bd hs.2) rfl) q
    · split at h
      · rename_i hs
        rw [Bool.and_eq_true] at hs
        cases h
        have h1 := of_decide_eq_true hs.1
        have h2 := of_decide_eq_true hs.2
        exact do_iC op_fdivN ⟨by omega, by omega⟩ q
      · cases h
  · split at h
    · rename_i hs
      cases h
      exact do_mod (of_decide_eq_true hs) q
    · split at h
      · rename_i hs
        cases h
        have := of_decide_eq_true hs
        exact do_modN (by omega) q
      · cases h
  · split at h
    · rename_i i j hs
      rw [Bool.and_eq_true, Bool.and_eq_true] at hs
      cases h
      obtain ⟨⟨h1, h2⟩, h3⟩ := hs
      have h1 := of_decide_eq_true h1
      have h2 := of_decide_eq_true h2
      have h3 : i.natAbs < 1000 := Nat.le_of_ble_eq_true h3
      exact do_pow ⟨by omega, by omega, Nat.lt_of_lt_of_le h3 (by decide)⟩ q
    · cases h
  · split at h
    · rename_i i j hs
      rw [Bool.and_eq_true, Bool.and_eq_true] at hs
      cases h
      obtain ⟨⟨h1, h2⟩, h3⟩ := hs
      have h1 := of_decide_eq_true h1
      have h2 := of_decide_eq_true h2
      have h3 : i.natAbs < 2 ^ 4000 := Nat.le_of_ble_eq_true h3
      obtain ⟨m, rfl⟩ : ∃ m : Nat, j = (m : Int) := ⟨j.toNat, by omega⟩
      exact do_iC op_shlW (shl_ok h3 (by omega)) q
    · cases h
  · split at h
    · rename_i hs
      rw [Bool.and_eq_true] at hs
      cases h
      exact do_rep (Nat.le_of_ble_eq_true hs.1) (Nat.le_of_ble_eq_true hs.2) q
    · cases h
  · cases h
end
def flatV1 : D → Option V
  | .non => some .non
  | .bl b => some (.bl b)
  | .int i => some (.int i)
  | .str z => some (.str z)
  | _ => none
def flatVs : List D → Option (List V)
  | [] => some []
  | d :: l => match flatV1 d, flatVs l with
    | some v, some vs => some (v :: vs)
    | _, _ => none
theorem flatV1_rep {K : PySem.W.Frag} {Z : List Addr} {H : Hp} {d : D} {v v' : V} (h : flatV1 d = some v) (r : Rep K Z H d v') : v' = v ∧ flatV v = true := by
  cases d <;> simp only [flatV1, Option.some.injEq, reduceCtorEq] at h
  · subst h; exact ⟨r.non, rfl⟩
  · subst h; exact ⟨r.bl, rfl⟩
  · subst h; exact ⟨r.int, rfl⟩
  · subst h; exact ⟨r.str, rfl⟩
theorem flatVs_rep {K : PySem.W.Frag} {Z : List Addr} {H : Hp} : ∀ {l : List D} {vs vs' : List V}, flatVs l = some vs → RepL K Z H l vs' → vs' = vs ∧ vs.all flatV = true
  | [], vs, vs', h, r => by
    simp only [flatVs, Option.some.injEq] at h
    subst h
    exact ⟨r.un0, rfl⟩
  | d :: l, vs, vs', h, r => by
    unfold flatVs at h
    split at h
    · rename_i v vs1 h1 h2
      cases h
      obtain ⟨u, r', e, ru, rl⟩ := r.uncons
      obtain ⟨e1, f1⟩ := flatV1_rep h1 ru
      obtain ⟨e2, f2⟩ := flatVs_rep h2 rl
      rw [e, e1, e2]
      exact ⟨rfl, by rw [List.all_cons, f1, f2]; rfl⟩
    · cases h
def inQ (neg : Bool) (a : D) (l : List D) : Out D := match flatV1 a, flatVs l with
  | some v, some vs => .ok (.bl (if neg then !inV v vs else inV v vs))
  | _, _ => .bad
def inC (neg : Bool) : D → D → Out D
  | a, .tup l => inQ neg a l
  | a, .lst l => inQ neg a l
  | .str z, .str y => match z.cps.toList with
    | [c] => .ok (.bl (if neg then !decide (c ∈ y.cps.toList) else decide (c ∈ y.cps.toList)))
    | _ => .bad
  | _, _ => .bad
def opC0 : CmpOp → D → D → Out D
  | .Lt, .int i, .int j => .ok (.bl (decide (i < j)))
  | .LtE, .int i, .int j => .ok (.bl (decide (i ≤ j)))
  | .Gt, .int i, .int j => .ok (.bl (decide (j < i)))
  | .GtE, .int i, .int j => .ok (.bl (decide (j ≤ i)))
  | .Eq, .int i, .int j => .ok (.bl (decide (i = j)))
  | .NotEq, .int i, .int j => .ok (.bl (!decide (i = j)))
  | .Eq, a, b => if eqOk a && eqOk b then .ok (.bl (PyData.eqv (toPy a) (toPy b))) else .bad
  | .NotEq, a, b => if eqOk a && eqOk b then .ok (.bl (!PyData.eqv (toPy a) (toPy b))) else .bad
  | .Is, a, .non => .ok (.bl (isNon a))
  | .IsNot, a, .non => .ok (.bl (!isNon a))
  | .In, a, b => inC false a b
  | .NotIn, a, b => inC true a b
  | _, _, _ => .bad
section
variable {X : Cx} {S : Sto} {Φ : D → Sto → Prop} {P : Program} {w : World} {K : PySem.W.Frag} {mg : Str → Option Value} {base : Heap} {tb : List (Str × Nat)} {names : List (Str × NameKind)} {k : Nat}
theorem inC_ok {neg : Bool} {x y d : D} (h : inC neg x y = .ok d) (q : Φ d S) : DO X (compareOp (if neg then .NotIn else .In)) x y S Φ := by
  have seq : ∀ l, inQ neg x l = .ok d → (∀ {K Z H v}, Rep K Z H y v → ∃ p vs, v = .ref p ∧ (SqL K H p vs ∨ SqT K H p vs) ∧ RepL K Z H l vs) → DO X (compareOp (if neg then .NotIn else .In)) x y S Φ := fun l h g => by
    unfold inQ at h
    split at h
    · rename_i v vs h1 h2
      cases h
      have o : OpR X (compareOp (if neg then .NotIn else .In)) (rIn X.K neg) := by
        cases neg
        · exact op_in_seq
        · exact op_notIn_seq
      refine DO.of o fun Zh H a b Q st ra rb P => ?_
      obtain ⟨p, us, rfl, sq, rl⟩ := g rb
      obtain ⟨e1, f1⟩ := flatV1_rep h1 ra
      obtain ⟨e2, f2⟩ := flatVs_rep h2 rl
      subst e1 e2
      exact ⟨p, us, rfl, sq, f1, f2, P.here st rep_bl q⟩
    · cases h
  unfold inC at h
  split at h
  · exact seq _ h fun r => by
      obtain ⟨p, vs, e, s, rl⟩ := r.tup
      exact ⟨p, vs, e, .inr s, rl⟩
  · exact seq _ h fun r => by
      obtain ⟨p, vs, e, n, s, rl⟩ := r.lst
      exact ⟨p, vs, e, .inl (.inl (.inl s)), rl⟩
  · split at h
    · rename_i z y _ c hz
      cases h
      have e : z = ⟨#[c]⟩ := by
        rw [← Str.eta z, hz]
      subst e
      cases neg
      · exact do_inS q
      · exact do_notInS q
    · cases h
  · cases h
theorem opC0_ok {op : CmpOp} {x y d : D} (A : At X P w K mg base tb names k) (h : opC0 op x y = .ok d) (q : Φ d S) : (∃ b, d = .bl b) ∧ DO X (compareOp op) x y S Φ := by
  unfold opC0 at h
  split at h
  · cases h; exact ⟨⟨_, rfl⟩, do_lt q⟩
  · cases h; exact ⟨⟨_, rfl⟩, do_le q⟩
  · cases h; exact ⟨⟨_, rfl⟩, do_gt q⟩
  · cases h; exact ⟨⟨_, rfl⟩, do_ge q⟩
  · cases h; exact ⟨⟨_, rfl⟩, do_eqI q⟩
  · cases h; exact ⟨⟨_, rfl⟩, do_neI q⟩
  · split at h
    · rename_i hs
      cases h; exact ⟨⟨_, rfl⟩, do_eqD A hs q⟩
    · cases h
  · split at h
    · rename_i hs
      cases h; exact ⟨⟨_, rfl⟩, do_neD A hs q⟩
    · cases h
  · cases h; exact ⟨⟨_, rfl⟩, do_isN q⟩
  · cases h; exact ⟨⟨_, rfl⟩, do_notN q⟩
  · refine ⟨?_, inC_ok (neg := false) h q⟩
    unfold inC inQ at h
    split at h <;> (try split at h) <;> first | (cases h; exact ⟨_, rfl⟩) | cases h
  · refine ⟨?_, inC_ok (neg := true) h q⟩
    unfold inC inQ at h
    split at h <;> (try split at h) <;> first | (cases h; exact ⟨_, rfl⟩) | cases h
  · cases h
end
/-! numbers of which only bounds are known -/
def isRng : D → Bool
  | .rng _ _ => true
  | _ => false
def asRng : D → Option (Int × Int)
  | .int i => some (i, i)
  | .rng a b => some (a, b)
  | _ => none
def rngB (op : Operator) (a b c d : Int) : Out D := match op with
  | .Add => .ok (.rng (a + c) (b + d))
  | .Sub => .ok (.rng (a - d) (b - c))
  | .Mult => if decide (0 ≤ a) && decide (0 ≤ c) && mulB b && mulB d then .ok (.rng (a * c) (b * d)) else .bad
  | .Mod => if decide (c = 1) && decide (d = 1) then .ok (.int 0) else .bad
  | _ => .bad
def rngO (op : Operator) (x y : D) : Out D := match asRng x, asRng y with
  | some (a, b), some (c, d) => rngB op a b c d
  | _, _ => .bad
def opB (op : Operator) (x y : D) : Out D := if isRng x || isRng y then rngO op x y else opB0 op x y
def yesNo (y n : Bool) : Out D := if y then .ok (.bl true) else if n then .ok (.bl false) else .bad
def rngC (op : CmpOp) (a b c d : Int) : Out D := match op with
  | .Lt => yesNo (decide (b < c)) (decide (d ≤ a))
  | .LtE => yesNo (decide (b ≤ c)) (decide (d < a))
  | .Gt => yesNo (decide (d < a)) (decide (b ≤ c))
  | .GtE => yesNo (decide (d ≤ a)) (decide (b < c))
  | .Eq => yesNo false (decide (b < c) || decide (d < a))
  | .NotEq => yesNo (decide (b < c) || decide (d < a)) false
  | _ => .bad
def rngCO (op : CmpOp) (x y : D) : Out D := match asRng x, asRng y with
  | some (a, b), some (c, d) => rngC op a b c d
  | _, _ => .bad
/-! tuples in order -/
def isTD : D → Bool
  | .tup _ => true
  | _ => false
def ordT (op : CmpOp) (a b : PyData) : Option Bool := match op with
  | .Lt => some (PySem.W.dataLt a b)
  | .Gt => some (PySem.W.dataLt b a)
  | .LtE => some (!PySem.W.dataLt b a)
  | .GtE => some (!PySem.W.dataLt a b)
  | _ => none
def isOrd : CmpOp → Bool
  | .Lt => true
  | .Gt => true
  | .LtE => true
  | .GtE => true
  | _ => false
def tupC (op : CmpOp) (x y : D) : Out D := if plainD x && plainD y && PySem.W.alike (toPy x) (toPy y) && Nat.ble (toPy x).depth 8 && Nat.ble (toPy y).depth 8 then match ordT op (toPy x) (toPy y) with
    | some k => .ok (.bl k)
    | none => .bad
  else .bad
def opC (op : CmpOp) (x y : D) : Out D := if (isRng x && !isNon y) || isRng y then rngCO op x y else if isTD x && isTD y && isOrd op then tupC op x y else opC0 op x y
theorem asRng_rep {K : PySem.W.Frag} {Z : List Addr} {H : Hp} {x : D} {v : V} {a b : Int} (h : asRng x = some (a, b)) (r : Rep K Z H x v) : ∃ i, v = .int i ∧ a ≤ i ∧ i ≤ b := by
  unfold asRng at h
  split at h
  · cases h
    exact ⟨_, r.int, Int.le_refl _, Int.le_refl _⟩
  · cases h
    exact r.rng
  · cases h
section
variable {X : Cx} {S : Sto} {Φ : D → Sto → Prop} {P : Program} {w : World} {K : PySem.W.Frag} {mg : Str → Option Value} {base : Heap} {tb : List (Str × Nat)} {names : List (Str × NameKind)} {k : Nat}
theorem rngO_ok {op : Operator} {x y d : D} (h : rngO op x y = .ok d) (q : Φ d S) : DO X (binaryOp op) x y S Φ := by
  unfold rngO at h
  split at h
  · rename_i a b c e hx hy
    unfold rngB at h
    split at h
    · cases h
      refine DO.of op_add fun Zh H u v Q st ra rb P => ?_
      obtain ⟨i, rfl, i1, i2⟩ := asRng_rep hx ra
      obtain ⟨j, rfl, j1, j2⟩ := asRng_rep hy rb
      exact ⟨i, j, rfl, rfl, P.here st (rep_rng (by omega) (by omega)) q⟩
    · cases h
      refine DO.of op_sub fun Zh H u v Q st ra rb P => ?_
      obtain ⟨i, rfl, i1, i2⟩ := asRng_rep hx ra
      obtain ⟨j, rfl, j1, j2⟩ := asRng_rep hy rb
      exact ⟨i, j, rfl, rfl, P.here st (rep_rng (by omega) (by omega)) q⟩
    · split at h
      · rename_i hh
        simp only [Bool.and_eq_true, decide_eq_true_eq] at hh
        obtain ⟨⟨⟨h1, h2⟩, h3⟩, h4⟩ := hh
        cases h
        refine DO.of op_mulX fun Zh H u v Q st ra rb P => ?_
        obtain ⟨i, rfl, i1, i2⟩ := asRng_rep hx ra
        obtain ⟨j, rfl, j1, j2⟩ := asRng_rep hy rb
        have m1 : mulB i = true := by
          have h3 : b.natAbs < 2 ^ 4000 := Nat.le_of_ble_eq_true h3
          exact Nat.ble_eq.mpr (show i.natAbs < 2 ^ 4000 by omega)
        have m2 : mulB j = true := by
          have h4 : e.natAbs < 2 ^ 4000 := Nat.le_of_ble_eq_true h4
          exact Nat.ble_eq.mpr (show j.natAbs < 2 ^ 4000 by omega)
        exact ⟨i, j, rfl, rfl, Bd.ok (mulB_bd m1) (mulB_bd m2) rfl, P.here st (rep_rng (Int.mul_le_mul i1 j1 h2 (by omega)) (Int.mul_le_mul i2 j2 (by omega) (by omega))) q⟩
      · cases h
    · split at h
      · rename_i hh
        simp only [Bool.and_eq_true, decide_eq_true_eq] at hh
        obtain ⟨h1, h2⟩ := hh
        cases h
        refine DO.of op_mod fun Zh H u v Q st ra rb P => ?_
        obtain ⟨i, rfl, i1, i2⟩ := asRng_rep hx ra
        obtain ⟨j, rfl, j1, j2⟩ := asRng_rep hy rb
        have e : j = 1 := by omega
        subst e
        have e2 : i % 1 = 0 := Int.emod_one i
        refine ⟨i, 1, rfl, rfl, Int.one_pos, P.here st ?_ q⟩
        dsimp only
        rw [e2]
        exact rep_int
      · cases h
    · cases h
  · cases h
theorem opB_ok {op : Operator} {x y d : D} (h : opB op x y = .ok d) (q : Φ d S) : DO X (binaryOp op) x y S Φ := by
  unfold opB at h
  split at h
  · exact rngO_ok h q
  · exact opB0_ok h q
theorem yesNo_ok {y n : Bool} {d : D} (h : yesNo y n = .ok d) : (y = true ∧ d = .bl true) ∨ (n = true ∧ d = .bl false) := by
  unfold yesNo at h
  split at h
  · rename_i z
    cases h
    exact .inl ⟨z, rfl⟩
  · split at h
    · rename_i z
      cases h
      exact .inr ⟨z, rfl⟩
    · cases h
theorem do_rngC {op : CmpOp} {g : Int → Int → Bool} {x y d : D} {a b c e : Int} {yy nn : Bool} (o : OpR X (compareOp op) (rI0 fun i j => .bl (g i j))) (hx : asRng x = some (a, b)) (hy : asRng y = some (c, e)) (h : yesNo yy nn = .ok d)
    (h1 : yy = true → ∀ i j, a ≤ i → i ≤ b → c ≤ j → j ≤ e → g i j = true) (h2 : nn = true → ∀ i j, a ≤ i → i ≤ b → c ≤ j → j ≤ e → g i j = false) (q : Φ d S) : (∃ b, d = .bl b) ∧ DO X (compareOp op) x y S Φ := by
  rcases yesNo_ok h with ⟨z, rfl⟩ | ⟨z, rfl⟩
  · refine ⟨⟨_, rfl⟩, DO.of o fun Zh H u v Q st ra rb P => ?_⟩
    obtain ⟨i, rfl, i1, i2⟩ := asRng_rep hx ra
    obtain ⟨j, rfl, j1, j2⟩ := asRng_rep hy rb
    refine ⟨i, j, rfl, rfl, P.here st ?_ q⟩
    dsimp only
    rw [h1 z i j i1 i2 j1 j2]
    exact rep_bl
  · refine ⟨⟨_, rfl⟩, DO.of o fun Zh H u v Q st ra rb P => ?_⟩
    obtain ⟨i, rfl, i1, i2⟩ := asRng_rep hx ra
    obtain ⟨j, rfl, j1, j2⟩ := asRng_rep hy rb
    refine ⟨i, j, rfl, rfl, P.here st ?_ q⟩
    dsimp only
    rw [h2 z i j i1 i2 j1 j2]
    exact rep_bl
theorem rngCO_ok {op : CmpOp} {x y d : D} (h : rngCO op x y = .ok d) (q : Φ d S) : (∃ b, d = .bl b) ∧ DO X (compareOp op) x y S Φ := by
  unfold rngCO at h
  split at h
  · rename_i a b c e hx hy
    unfold rngC at h
    split at h
    · exact do_rngC (g := fun i j => decide (i < j)) op_lt hx hy h (fun z i j _ _ _ _ => decide_eq_true (by have := of_decide_eq_true z; omega)) (fun z i j _ _ _ _ => decide_eq_false (by have := of_decide_eq_true z; omega)) q
    · exact do_rngC (g := fun i j => decide (i ≤ j)) op_le hx hy h (fun z i j _ _ _ _ => decide_eq_true (by have := of_decide_eq_true z; omega)) (fun z i j _ _ _ _ => decide_eq_false (by have := of_decide_eq_true z; omega)) q
    · exact do_rngC (g := fun i j => decide (j < i)) op_gt hx hy h (fun z i j _ _ _ _ => decide_eq_true (by have := of_decide_eq_true z; omega)) (fun z i j _ _ _ _ => decide_eq_false (by have := of_decide_eq_true z; omega)) q
    · exact do_rngC (g := fun i j => decide (j ≤ i)) op_ge hx hy h (fun z i j _ _ _ _ => decide_eq_true (by have := of_decide_eq_true z; omega)) (fun z i j _ _ _ _ => decide_eq_false (by have := of_decide_eq_true z; omega)) q
    · rcases yesNo_ok h with ⟨z, rfl⟩ | ⟨z, rfl⟩
      · cases z
      · refine ⟨⟨_, rfl⟩, DO.of op_eq fun Zh H u v Q st ra rb P => ?_⟩
        obtain ⟨i, rfl, i1, i2⟩ := asRng_rep hx ra
        obtain ⟨j, rfl, j1, j2⟩ := asRng_rep hy rb
        refine ⟨rfl, P.here st ?_ q⟩
        rw [Bool.or_eq_true, decide_eq_true_eq, decide_eq_true_eq] at z
        rw [decide_eq_false (fun e => by cases e; omega)]
        exact rep_bl
    · rcases yesNo_ok h with ⟨z, rfl⟩ | ⟨z, rfl⟩
      · refine ⟨⟨_, rfl⟩, DO.of op_ne fun Zh H u v Q st ra rb P => ?_⟩
        obtain ⟨i, rfl, i1, i2⟩ := asRng_rep hx ra
        obtain ⟨j, rfl, j1, j2⟩ := asRng_rep hy rb
        refine ⟨rfl, P.here st ?_ q⟩
        rw [Bool.or_eq_true, decide_eq_true_eq, decide_eq_true_eq] at z
        rw [decide_eq_false (fun e => by cases e; omega)]
        exact rep_bl
      · cases z
    · cases h
  · cases h
def rOrd (op : CmpOp) (K : PySem.W.Frag) : R2 := fun x y H Q => ∃ d e k, Dp K H x d ∧ Dp K H y e ∧ PySem.W.alike d e = true ∧ d ≠ .none ∧ d.depth ≤ 8 ∧ e.depth ≤ 8 ∧ ordT op d e = some k ∧ Q (.bl k) H
theorem op_ord {op : CmpOp} (hu : X.A.units + 64 < cLine) : OpR X (compareOp op) (rOrd op X.K) := by
  intro pins s σ H x y v u Q I rx ry h
  obtain ⟨d, e, k, hd, he, al, hn, d1, d2, ho, q⟩ := h
  obtain ⟨as, r1⟩ := Dp.reads I d x v hd rx
  obtain ⟨bs, r2⟩ := Dp.reads I e y u he ry
  have hm : X.A.units + min d.depth e.depth < cLine := by omega
  unfold ordT at ho
  split at ho
  · cases ho
    exact PySem.W.lt_data r1 r2 al hn hm ⟨.bl _, H, I, rfl, q⟩
  · cases ho
    exact PySem.W.gt_data r1 r2 al hn hm ⟨.bl _, H, I, rfl, q⟩
  · cases ho
    exact PySem.W.le_data r1 r2 al hn hm ⟨.bl _, H, I, rfl, q⟩
  · cases ho
    exact PySem.W.ge_data r1 r2 al hn hm ⟨.bl _, H, I, rfl, q⟩
  · cases ho
theorem td_none {d : D} (h : isTD d = true) : toPy d ≠ .none := by
  unfold isTD at h
  split at h
  · unfold toPy
    exact fun z => nomatch z
  · cases h
theorem tupC_ok {op : CmpOp} {x y d : D} (A : At X P w K mg base tb names k) (hx : isTD x = true) (h : tupC op x y = .ok d) (q : Φ d S) : (∃ b, d = .bl b) ∧ DO X (compareOp op) x y S Φ := by
  unfold tupC at h
  split at h
  · rename_i hh
    simp only [Bool.and_eq_true] at hh
    obtain ⟨⟨⟨⟨h1, h2⟩, h3⟩, h4⟩, h5⟩ := hh
    split at h
    · rename_i b ho
      cases h
      exact ⟨⟨_, rfl⟩, DO.of (op_ord A.room.units) fun Zh H u v Q st ra rb P => ⟨_, _, b, dp_of ra h1, dp_of rb h2, h3, td_none hx, Nat.le_of_ble_eq_true h4, Nat.le_of_ble_eq_true h5, ho, P.here st rep_bl q⟩⟩
    · cases h
  · cases h
theorem opC_ok {op : CmpOp} {x y d : D} (A : At X P w K mg base tb names k) (h : opC op x y = .ok d) (q : Φ d S) : (∃ b, d = .bl b) ∧ DO X (compareOp op) x y S Φ := by
  unfold opC at h
  split at h
  · exact rngCO_ok h q
  · split at h
    · rename_i hh
      rw [Bool.and_eq_true, Bool.and_eq_true] at hh
      exact tupC_ok A hh.1.1 h q
    · exact opC0_ok A h q
end
end Ar
namespace Ar
open PySem PySem.Spec PyProof.Rows L2
abbrev Cls := Str → Option Addr
/-- what is wanted behind an expression whose run is o -/
def PO (cls : Cls) (W : WX) (K : PySem.W.Frag) (Zh : List Addr) (σ : L2.St) (H : Hp) (S : Sto) (Q : VK) : Out D → Prop
  | .ok d => ∀ v H', Grow (keys S) H H' → Store K Zh H' S → Rep K (keys S ++ Zh) H' d v → Q v H'
  | .ex c => ∃ a, cls c = some a ∧ ∀ H', Grow (keys S) H H' → Store K Zh H' S → W (.ref a) none σ H'
  | .bad => False
def POL (cls : Cls) (W : WX) (K : PySem.W.Frag) (Zh : List Addr) (σ : L2.St) (H : Hp) (S : Sto) (Q : List V → Hp → Prop) : Out (List D) → Prop
  | .ok d => ∀ v H', Grow (keys S) H H' → Store K Zh H' S → RepL K (keys S ++ Zh) H' d v → Q v H'
  | .ex c => ∃ a, cls c = some a ∧ ∀ H', Grow (keys S) H H' → Store K Zh H' S → W (.ref a) none σ H'
  | .bad => False
def POT (cls : Cls) (W : WX) (K : PySem.W.Frag) (Zh : List Addr) (σ : L2.St) (H : Hp) (S : Sto) (Q : Bool → Hp → Prop) : Out Bool → Prop
  | .ok d => ∀ H', Grow (keys S) H H' → Store K Zh H' S → Q d H'
  | .ex c => ∃ a, cls c = some a ∧ ∀ H', Grow (keys S) H H' → Store K Zh H' S → W (.ref a) none σ H'
  | .bad => False
section
variable {cls : Cls} {W : WX} {K : PySem.W.Frag} {Zh : List Addr} {σ : L2.St} {H H1 : Hp} {S : Sto}
theorem PO.next {Q : VK} {o : Out D} (g : Grow (keys S) H H1) (h : PO cls W K Zh σ H S Q o) : PO cls W K Zh σ H1 S Q o := by
  cases o with
  | ok d => exact fun v H' g' s r => h v H' (g.trans g') s r
  | ex c =>
    obtain ⟨a, e, h⟩ := h
    exact ⟨a, e, fun H' g' s => h H' (g.trans g') s⟩
  | bad => exact h
theorem POL.next {Q : List V → Hp → Prop} {o : Out (List D)} (g : Grow (keys S) H H1) (h : POL cls W K Zh σ H S Q o) : POL cls W K Zh σ H1 S Q o := by
  cases o with
  | ok d => exact fun v H' g' s r => h v H' (g.trans g') s r
  | ex c =>
    obtain ⟨a, e, h⟩ := h
    exact ⟨a, e, fun H' g' s => h H' (g.trans g') s⟩
  | bad => exact h
theorem POT.next {Q : Bool → Hp → Prop} {o : Out Bool} (g : Grow (keys S) H H1) (h : POT cls W K Zh σ H S Q o) : POT cls W K Zh σ H1 S Q o := by
  cases o with
  | ok d => exact fun H' g' s => h H' (g.trans g') s
  | ex c =>
    obtain ⟨a, e, h⟩ := h
    exact ⟨a, e, fun H' g' s => h H' (g.trans g') s⟩
  | bad => exact h
/-- what a raising part of a whole wishes -/
def Ex (cls : Cls) (W : WX) (K : PySem.W.Frag) (Zh : List Addr) (σ : L2.St) (H : Hp) (S : Sto) (c : Str) : Prop := ∃ a, cls c = some a ∧ ∀ H', Grow (keys S) H H' → Store K Zh H' S → W (.ref a) none σ H'
theorem Post.po {Q : VK} {d : D} (h : PO cls W K Zh σ H S Q (.ok d)) : Post K Zh H S (fun d' S' => d' = d ∧ S' = S) Q := fun v H' d' S' k g s r q => by
  obtain ⟨rfl, rfl⟩ := q
  exact h v H' g s r
theorem PostR.po {Q : VK} {c : Str} (h : PO cls W K Zh σ H S Q (.ex c)) : PostR K Zh σ H S (fun v S' => (∃ a, v = .ref a ∧ cls c = some a) ∧ S' = S) W := fun v H' S' k g s q => by
  obtain ⟨⟨a, rfl, e⟩, rfl⟩ := q
  obtain ⟨b, e2, h⟩ := h
  rw [e] at e2
  cases e2
  exact h H' g s
end
def RunE (cls : Cls) (X : Cx) (W : WX) (e : Expr) (ρ : Ro) (S : Sto) (o : Out D) : Prop :=
  ∀ (Zh : List Addr) (pins : List (Addr × Obj)) (s : Shared) (σ : L2.St) (H : Hp) (Q : VK), Inv X pins σ H s → Ev X.K Zh H σ ρ S → PO cls W X.K Zh σ H S Q o → wpAny (model X.prog X.w) X.A (eval e X.env) (EP X pins σ Q) X.xe s
def RunT (cls : Cls) (X : Cx) (W : WX) (e : Expr) (ρ : Ro) (S : Sto) (o : Out Bool) : Prop :=
  ∀ (Zh : List Addr) (pins : List (Addr × Obj)) (s : Shared) (σ : L2.St) (H : Hp) (Q : Bool → Hp → Prop), Inv X pins σ H s → Ev X.K Zh H σ ρ S → POT cls W X.K Zh σ H S Q o → wpAny (model X.prog X.w) X.A (isTrue e X.env (eval e X.env)) (TP X pins σ Q) X.xe s
def RunW (cls : Cls) (X : Cx) (W : WX) (e : Expr) (ρ : Ro) (S : Sto) (o : Out Bool) : Prop :=
  ∀ (whole : Sem Value) (Zh : List Addr) (pins : List (Addr × Obj)) (s : Shared) (σ : L2.St) (H : Hp) (Q : Bool → Hp → Prop), Inv X pins σ H s → Ev X.K Zh H σ ρ S → POT cls W X.K Zh σ H S Q o → wpAny (model X.prog X.w) X.A (isTrue e X.env whole) (TP X pins σ Q) X.xe s
def RunA (cls : Cls) (X : Cx) (W : WX) (es : List Expr) (ρ : Ro) (S : Sto) (o : Out (List D)) : Prop :=
  ∀ (Zh : List Addr) (pos : Pos) (pins : List (Addr × Obj)) (s : Shared) (σ : L2.St) (H : Hp) (Q : List V → Hp → Prop), Inv X pins σ H s → Ev X.K Zh H σ ρ S → POL cls W X.K Zh σ H S Q o → wpAny (model X.prog X.w) X.A (spliced (backTo pos (starEach es X.env))) (AP X pins σ Q) X.xe s
section
variable {cls : Cls} {X : Cx} {W : WX} {ρ : Ro} {S : Sto} {e a b c : Expr} {es : List Expr} {pos p : Pos}
theorem RunE.of {t : TE} {o : Out D} (p : PE X e t) (h : ∀ Zh σ H Q, Ev X.K Zh H σ ρ S → PO cls W X.K Zh σ H S Q o → t σ H Q) : RunE cls X W e ρ S o := fun Zh pins s σ H Q I E q => p.run pins s σ H Q I (h Zh σ H Q E q)
theorem RunT.of {t : TT} {o : Out Bool} (p : PT X e t) (h : ∀ Zh σ H Q, Ev X.K Zh H σ ρ S → POT cls W X.K Zh σ H S Q o → t σ H Q) : RunT cls X W e ρ S o := fun Zh pins s σ H Q I E q => p.run pins s σ H Q I (h Zh σ H Q E q)
theorem RunW.of {t : TT} {o : Out Bool} (p : PW X e t) (h : ∀ Zh σ H Q, Ev X.K Zh H σ ρ S → POT cls W X.K Zh σ H S Q o → t σ H Q) : RunW cls X W e ρ S o := fun wh Zh pins s σ H Q I E q => p.run wh pins s σ H Q I (h Zh σ H Q E q)
theorem RunA.of {t : TA} {o : Out (List D)} (p : PA X es t) (h : ∀ Zh σ H Q, Ev X.K Zh H σ ρ S → POL cls W X.K Zh σ H S Q o → t σ H Q) : RunA cls X W es ρ S o := fun Zh pos pins s σ H Q I E q => p.run pos pins s σ H Q I (h Zh σ H Q E q)
theorem RunE.tw {o : Out D} {Zh : List Addr} {σ : L2.St} {H : Hp} {Q : VK} (h : RunE cls X W e ρ S o) (E : Ev X.K Zh H σ ρ S) (q : PO cls W X.K Zh σ H S Q o) : tW X e σ H Q := fun pins s I => h Zh pins s σ H Q I E q
theorem RunT.tw {o : Out Bool} {Zh : List Addr} {σ : L2.St} {H : Hp} {Q : Bool → Hp → Prop} (h : RunT cls X W e ρ S o) (E : Ev X.K Zh H σ ρ S) (q : POT cls W X.K Zh σ H S Q o) : ttW X e σ H Q := fun pins s I => h Zh pins s σ H Q I E q
theorem RunW.tw {o : Out Bool} {Zh : List Addr} {σ : L2.St} {H : Hp} {Q : Bool → Hp → Prop} (h : RunW cls X W e ρ S o) (E : Ev X.K Zh H σ ρ S) (q : POT cls W X.K Zh σ H S Q o) : twW X e σ H Q := fun wh pins s I => h wh Zh pins s σ H Q I E q
theorem RunA.tw {o : Out (List D)} {Zh : List Addr} {σ : L2.St} {H : Hp} {Q : List V → Hp → Prop} (h : RunA cls X W es ρ S o) (E : Ev X.K Zh H σ ρ S) (q : POL cls W X.K Zh σ H S Q o) : taW X es σ H Q := fun pos pins s I => h Zh pos pins s σ H Q I E q
/-- from a judgement of old -/
theorem RunE.de {d : D} (h : ∀ Φ : D → Sto → Prop, Φ d S → DE X e ρ S Φ) : RunE cls X W e ρ S (.ok d) := fun Zh pins s σ H Q I E q => h _ ⟨rfl, rfl⟩ Zh pins s σ H Q I E (Post.po q)
theorem RunE.deOf {d : D} {Φ : D → Sto → Prop} (h : RunE cls X W e ρ S (.ok d)) (q : Φ d S) : DE X e ρ S Φ := fun Zh pins s σ H Q I E P => h Zh pins s σ H Q I E fun v H' g s' r => P v H' d S rfl g s' r q
theorem RunE.drOf {c : Str} {a : Addr} {Ξ : Xi} (h : RunE cls X W e ρ S (.ex c)) (hc : cls c = some a) (q : Ξ (.ref a) S) : DR X W e ρ S Ξ := fun Zh pins s σ H Q I E P => h Zh pins s σ H Q I E ⟨a, hc, fun H' g s' => P _ H' S rfl g s' q⟩
theorem RunT.dtOf {d : Bool} {Φ : Bool → Sto → Prop} (h : RunT cls X W e ρ S (.ok d)) (q : Φ d S) : DT X e ρ S Φ := fun Zh pins s σ H Q I E P => h Zh pins s σ H Q I E fun H' g s' => P d H' S rfl g s' q
theorem RunE.bad : RunE cls X W e ρ S .bad := fun Zh pins s σ H Q I E q => q.elim
theorem RunT.bad : RunT cls X W e ρ S .bad := fun Zh pins s σ H Q I E q => q.elim
theorem RunW.bad : RunW cls X W e ρ S .bad := fun _ Zh pins s σ H Q I E q => q.elim
theorem RunA.bad : RunA cls X W es ρ S .bad := fun Zh _ pins s σ H Q I E q => q.elim
/-- a part, then the rest -/
theorem RunE.bind {o : Out D} {f : D → Out D} {Zh : List Addr} {σ : L2.St} {H : Hp} {Q Q1 : VK} (h : RunE cls X W a ρ S o) (E : Ev X.K Zh H σ ρ S) (P : PO cls W X.K Zh σ H S Q (o.bind f))
    (k : ∀ x v H1, o = .ok x → Grow (keys S) H H1 → Ev X.K Zh H1 σ ρ S → Rep X.K (keys S ++ Zh) H1 x v → PO cls W X.K Zh σ H1 S Q (f x) → Q1 v H1) : tW X a σ H Q1 := by
  cases o with
  | ok x => exact h.tw E fun v H1 g s r => k x v H1 rfl g (E.next rfl g s) r (PO.next g P)
  | ex c => exact h.tw E P
  | bad => exact P.elim
theorem RunE.bindT {o : Out D} {f : D → Out Bool} {Zh : List Addr} {σ : L2.St} {H : Hp} {Q : Bool → Hp → Prop} {Q1 : VK} (h : RunE cls X W a ρ S o) (E : Ev X.K Zh H σ ρ S) (P : POT cls W X.K Zh σ H S Q (o.bind f))
    (k : ∀ x v H1, o = .ok x → Grow (keys S) H H1 → Ev X.K Zh H1 σ ρ S → Rep X.K (keys S ++ Zh) H1 x v → POT cls W X.K Zh σ H1 S Q (f x) → Q1 v H1) : tW X a σ H Q1 := by
  cases o with
  | ok x => exact h.tw E fun v H1 g s r => k x v H1 rfl g (E.next rfl g s) r (POT.next g P)
  | ex c => exact h.tw E P
  | bad => exact P.elim
theorem RunE.bindL {o : Out D} {f : D → Out (List D)} {Zh : List Addr} {σ : L2.St} {H : Hp} {Q : List V → Hp → Prop} {Q1 : VK} (h : RunE cls X W a ρ S o) (E : Ev X.K Zh H σ ρ S) (P : POL cls W X.K Zh σ H S Q (o.bind f))
    (k : ∀ x v H1, o = .ok x → Grow (keys S) H H1 → Ev X.K Zh H1 σ ρ S → Rep X.K (keys S ++ Zh) H1 x v → POL cls W X.K Zh σ H1 S Q (f x) → Q1 v H1) : tW X a σ H Q1 := by
  cases o with
  | ok x => exact h.tw E fun v H1 g s r => k x v H1 rfl g (E.next rfl g s) r (POL.next g P)
  | ex c => exact h.tw E P
  | bad => exact P.elim
theorem RunT.bind {o : Out Bool} {f : Bool → Out D} {Zh : List Addr} {σ : L2.St} {H : Hp} {Q : VK} {Q1 : Bool → Hp → Prop} (h : RunT cls X W a ρ S o) (E : Ev X.K Zh H σ ρ S) (P : PO cls W X.K Zh σ H S Q (o.bind f))
    (k : ∀ x H1, o = .ok x → Grow (keys S) H H1 → Ev X.K Zh H1 σ ρ S → PO cls W X.K Zh σ H1 S Q (f x) → Q1 x H1) : ttW X a σ H Q1 := by
  cases o with
  | ok x => exact h.tw E fun H1 g s => k x H1 rfl g (E.next rfl g s) (PO.next g P)
  | ex c => exact h.tw E P
  | bad => exact P.elim
theorem RunT.bindT {o : Out Bool} {f : Bool → Out Bool} {Zh : List Addr} {σ : L2.St} {H : Hp} {Q : Bool → Hp → Prop} {Q1 : Bool → Hp → Prop} (h : RunT cls X W a ρ S o) (E : Ev X.K Zh H σ ρ S) (P : POT cls W X.K Zh σ H S Q (o.bind f))
    (k : ∀ x H1, o = .ok x → Grow (keys S) H H1 → Ev X.K Zh H1 σ ρ S → POT cls W X.K Zh σ H1 S Q (f x) → Q1 x H1) : ttW X a σ H Q1 := by
  cases o with
  | ok x => exact h.tw E fun H1 g s => k x H1 rfl g (E.next rfl g s) (POT.next g P)
  | ex c => exact h.tw E P
  | bad => exact P.elim
theorem RunA.bind {o : Out (List D)} {f : List D → Out D} {Zh : List Addr} {σ : L2.St} {H : Hp} {Q : VK} {Q1 : List V → Hp → Prop} (h : RunA cls X W es ρ S o) (E : Ev X.K Zh H σ ρ S) (P : PO cls W X.K Zh σ H S Q (o.bind f))
    (k : ∀ x v H1, o = .ok x → Grow (keys S) H H1 → Ev X.K Zh H1 σ ρ S → RepL X.K (keys S ++ Zh) H1 x v → PO cls W X.K Zh σ H1 S Q (f x) → Q1 v H1) : taW X es σ H Q1 := by
  cases o with
  | ok x => exact h.tw E fun v H1 g s r => k x v H1 rfl g (E.next rfl g s) r (PO.next g P)
  | ex c => exact h.tw E P
  | bad => exact P.elim
theorem RunA.bindL {o : Out (List D)} {f : List D → Out (List D)} {Zh : List Addr} {σ : L2.St} {H : Hp} {Q : List V → Hp → Prop} {Q1 : List V → Hp → Prop} (h : RunA cls X W es ρ S o) (E : Ev X.K Zh H σ ρ S) (P : POL cls W X.K Zh σ H S Q (o.bind f))
    (k : ∀ x v H1, o = .ok x → Grow (keys S) H H1 → Ev X.K Zh H1 σ ρ S → RepL X.K (keys S ++ Zh) H1 x v → POL cls W X.K Zh σ H1 S Q (f x) → Q1 v H1) : taW X es σ H Q1 := by
  cases o with
  | ok x => exact h.tw E fun v H1 g s r => k x v H1 rfl g (E.next rfl g s) r (POL.next g P)
  | ex c => exact h.tw E P
  | bad => exact P.elim
/-! ### the constructs -/
theorem PO.op {f : Value → Value → Sem Value} {x y : D} {o : Out D} {Zh : List Addr} {σ : L2.St} {H : Hp} {Q : VK} {v u : V} (h : ∀ d, o = .ok d → ∀ Φ : D → Sto → Prop, Φ d S → DO X f x y S Φ) (hx : ∀ c, o ≠ .ex c) (st : Store X.K Zh H S) (rx : Rep X.K (keys S ++ Zh) H x v) (ry : Rep X.K (keys S ++ Zh) H y u)
    (P : PO cls W X.K Zh σ H S Q o) : rW X f v u H Q := by
  cases o with
  | ok d => exact (h d rfl _ ⟨rfl, rfl⟩).rw st rx ry (Post.po P)
  | ex c => exact absurd rfl (hx c)
  | bad => exact P.elim
theorem opB_nx {op : Operator} {x y : D} : ∀ c, opB op x y ≠ .ex c := fun c h => by
  unfold opB at h
  split at h
  · unfold rngO at h
    split at h
    · unfold rngB at h
      split at h <;> (try split at h) <;> cases h
    · cases h
  · unfold opB0 at h
    split at h <;> (try split at h) <;> (try split at h) <;> cases h
theorem yesNo_nx {y n : Bool} : ∀ c, yesNo y n ≠ .ex c := fun c h => by
  unfold yesNo at h
  split at h <;> (try split at h) <;> cases h
theorem opC_nx {op : CmpOp} {x y : D} : ∀ c, opC op x y ≠ .ex c := fun c h => by
  unfold opC at h
  split at h
  · unfold rngCO at h
    split at h
    · unfold rngC at h
      split at h <;> first | exact yesNo_nx _ h | cases h
    · cases h
  · split at h
    · unfold tupC at h
      split at h <;> (try split at h) <;> cases h
    · unfold opC0 inC inQ at h
      split at h <;> (try split at h) <;> (try split at h) <;> cases h
theorem run_bin {op : Operator} {oa ob : Out D} (ha : RunE cls X W a ρ S oa) (hb : RunE cls X W b ρ S ob) : RunE cls X W (.BinOp a op b pos) ρ S (oa.bind fun x => ob.bind fun y => opB op x y) :=
  RunE.of (pe_op op_w pe_w pe_w) fun Zh σ H Q E P => ha.bind E P fun x v H1 _ g1 E1 r1 P1 => hb.bind E1 P1 fun y u H2 _ g2 E2 r2 P2 => PO.op (fun d h Φ q => opB_ok h q) opB_nx E2.st (E1.st.gr g2 r1) r2 P2
theorem run_neg {oa : Out D} (ha : RunE cls X W a ρ S oa) : RunE cls X W (.UnaryOp .USub a pos) ρ S (oa.bind fun x => match x with | .int i => .ok (.int (-i)) | _ => .bad) :=
  RunE.of (pe_un un_neg pe_w) fun Zh σ H Q E P => ha.bind E P fun x v H1 _ g1 E1 r1 P1 => by
    cases x <;> first | exact P1.elim | skip
    exact ⟨_, r1.int, P1 _ H1 Grow.refl E1.st rep_int⟩
/-- a value's truth -/
def truO : D → Out Bool
  | .non => .ok false
  | .bl b => .ok b
  | .int i => .ok (i != 0)
  | .str z => if shortS z then .ok ((z.length : Int) != 0) else .bad
  | .tup l => .ok (!l.isEmpty)
  | .lst l => .ok (!l.isEmpty)
  | .frz l => .ok (!l.isEmpty)
  | _ => .bad
theorem truO_ok {d : D} {c : Bool} (h : truO d = .ok c) : TruD S d c := by
  unfold truO at h
  split at h <;> (try split at h) <;> cases h <;> first | rfl | skip
  rename_i z hs
  exact ⟨line_of (short_len hs) (by decide), rfl⟩
theorem truO_nx {d : D} : ∀ c, truO d ≠ .ex c := fun c h => by
  unfold truO at h
  split at h <;> (try split at h) <;> cases h
theorem run_not {oa : Out D} (ha : RunE cls X W a ρ S oa) : RunE cls X W (.UnaryOp .Not a pos) ρ S (oa.bind fun x => (truO x).bind fun c => .ok (.bl (!c))) :=
  RunE.of (pe_notT pe_w) fun Zh σ H Q E P => ha.bind E P fun x v H1 _ g1 E1 r1 P1 => by
    cases ht : truO x with
    | ok c =>
      rw [ht] at P1
      exact ⟨c, truV_of E1.st r1 (truO_ok ht), P1 _ H1 Grow.refl E1.st rep_bl⟩
    | ex c => exact absurd ht (truO_nx c)
    | bad =>
      rw [ht] at P1
      exact P1.elim
theorem run_if {oc : Out Bool} {oa ob : Out D} (hc : RunT cls X W c ρ S oc) (ha : RunE cls X W a ρ S oa) (hb : RunE cls X W b ρ S ob) : RunE cls X W (.IfExp c a b pos) ρ S (oc.bind fun k => if k then oa else ob) :=
  RunE.of (pe_ifExp pt_w pe_w pe_w) fun Zh σ H Q E P => hc.bind E P fun k H1 _ g1 E1 P1 => by
    cases k with
    | true => exact ha.tw E1 P1
    | false => exact hb.tw E1 P1
theorem run_b1 {op : BoolOp} {oa : Out D} (ha : RunE cls X W a ρ S oa) : RunE cls X W (.BoolOp op [a] pos) ρ S oa := RunE.of (pe_one pe_w) fun Zh σ H Q E P => ha.tw E P
theorem run_and {oa ob : Out D} {rest : List Expr} (ha : RunE cls X W a ρ S oa) (hb : RunE cls X W (.BoolOp .And (b :: rest) pos) ρ S ob) : RunE cls X W (.BoolOp .And (a :: b :: rest) pos) ρ S (oa.bind fun x => (truO x).bind fun c => if c then ob else .ok x) :=
  RunE.of (pe_andT pe_w pe_w) fun Zh σ H Q E P => ha.bind E P fun x v H1 _ g1 E1 r1 P1 => by
    cases ht : truO x with
    | ok c =>
      rw [ht] at P1
      refine ⟨c, truV_of E1.st r1 (truO_ok ht), ?_⟩
      cases c with
      | true => exact hb.tw E1 P1
      | false => exact P1 v H1 Grow.refl E1.st r1
    | ex c => exact absurd ht (truO_nx c)
    | bad =>
      rw [ht] at P1
      exact P1.elim
theorem run_or {oa ob : Out D} {rest : List Expr} (ha : RunE cls X W a ρ S oa) (hb : RunE cls X W (.BoolOp .Or (b :: rest) pos) ρ S ob) : RunE cls X W (.BoolOp .Or (a :: b :: rest) pos) ρ S (oa.bind fun x => (truO x).bind fun c => if c then .ok x else ob) :=
  RunE.of (pe_orT pe_w pe_w) fun Zh σ H Q E P => ha.bind E P fun x v H1 _ g1 E1 r1 P1 => by
    cases ht : truO x with
    | ok c =>
      rw [ht] at P1
      refine ⟨c, truV_of E1.st r1 (truO_ok ht), ?_⟩
      cases c with
      | true => exact P1 v H1 Grow.refl E1.st r1
      | false => exact hb.tw E1 P1
    | ex c => exact absurd ht (truO_nx c)
    | bad =>
      rw [ht] at P1
      exact P1.elim
theorem run_tup {x1} {o : Out (List D)} (hl : Nat.ble es.length 1000 = true) (h : RunA cls X W es ρ S o) (ho : ∀ l, o = .ok l → l.length = es.length) : RunE cls X W (.Tuple es x1 pos) ρ S (o.bind fun l => .ok (.tup l)) :=
  RunE.of (pe_tup pa_w) fun Zh σ H Q E P => h.bind E P fun l vs H1 hh g1 E1 r1 P1 => ⟨by rw [r1.length, ho l hh]; exact sz hl, fun p hp => P1 (.ref p) _ (Grow.new hp) (E1.st.new hp) (by
    unfold Rep
    exact ⟨p, vs, rfl, .inl (.inl upd_same), E1.st.grL (Grow.new hp) r1⟩)⟩
theorem run_lst {o : Out (List D)} (hl : Nat.ble es.length 1000 = true) (h : RunA cls X W es ρ S o) (ho : ∀ l, o = .ok l → l.length = es.length) : RunE cls X W (.List es pos) ρ S (o.bind fun l => .ok (.lst l)) :=
  RunE.of (pe_lst pa_w) fun Zh σ H Q E P => h.bind E P fun l vs H1 hh g1 E1 r1 P1 => ⟨by rw [r1.length, ho l hh]; exact sz hl, fun p hp => P1 (.ref p) _ (Grow.new hp) (E1.st.new hp) (by
    unfold Rep
    exact ⟨p, vs, rfl, E1.st.free hp, upd_same, E1.st.grL (Grow.new hp) r1⟩)⟩
theorem runA_nil : RunA cls X W [] ρ S (.ok []) := RunA.of pa_nil fun Zh σ H Q E P => P [] H Grow.refl E.st .nil
theorem runA_cons {oa : Out D} {ob : Out (List D)} (hs : isStar e = false) (ha : RunE cls X W e ρ S oa) (hb : RunA cls X W es ρ S ob) : RunA cls X W (e :: es) ρ S (oa.bind fun x => ob.bind fun l => .ok (x :: l)) :=
  RunA.of (pa_cons pe_w pa_w (star_no hs)) fun Zh σ H Q E P => ha.bindL E P fun x v H1 _ g1 E1 r1 P1 => hb.bindL E1 P1 fun l vs H2 _ g2 E2 r2 P2 => P2 (v :: vs) H2 Grow.refl E2.st (.cons (E1.st.gr g2 r1) r2)
/-! tests -/
theorem runT_leaf {o : Out D} (hl : isLeafT e = true) (h : RunE cls X W e ρ S o) : RunT cls X W e ρ S (o.bind truO) :=
  RunT.of (pt_truth pe_w (leafT hl)) fun Zh σ H Q E P => h.bindT E P fun x v H1 _ g1 E1 r1 P1 => by
    cases ht : truO x with
    | ok c =>
      rw [ht] at P1
      exact ⟨c, truV_of E1.st r1 (truO_ok ht), P1 H1 Grow.refl E1.st⟩
    | ex c => exact absurd ht (truO_nx c)
    | bad =>
      rw [ht] at P1
      exact P1.elim
theorem runT_not {o : Out Bool} (h : RunT cls X W a ρ S o) : RunT cls X W (.UnaryOp .Not a pos) ρ S (o.bind fun c => .ok (!c)) :=
  RunT.of (pt_not pt_w) fun Zh σ H Q E P => h.bindT E P fun c H1 _ g1 E1 P1 => P1 H1 Grow.refl E1.st
theorem runT_w {op} {o : Out Bool} (h : RunW cls X W (.BoolOp op es pos) ρ S o) : RunT cls X W (.BoolOp op es pos) ρ S o := fun Zh pins s σ H Q I E q => h _ Zh pins s σ H Q I E q
theorem runW_and1 {o : Out Bool} (h : RunT cls X W a ρ S o) : RunW cls X W (.BoolOp .And [a] pos) ρ S o := RunW.of (pw_and1 pt_w) fun Zh σ H Q E P => h.tw E P
theorem runW_or1 {o : Out Bool} (h : RunT cls X W a ρ S o) : RunW cls X W (.BoolOp .Or [a] pos) ρ S o := RunW.of (pw_or1 pt_w) fun Zh σ H Q E P => h.tw E P
theorem runW_and {oa ob : Out Bool} {rest : List Expr} (ha : RunT cls X W a ρ S oa) (hb : RunW cls X W (.BoolOp .And (b :: rest) pos) ρ S ob) : RunW cls X W (.BoolOp .And (a :: b :: rest) pos) ρ S (oa.bind fun c => if c then ob else .ok false) :=
  RunW.of (pw_and pt_w pw_w) fun Zh σ H Q E P => ha.bindT E P fun c H1 _ g1 E1 P1 => by
    cases c with
    | true => exact hb.tw E1 P1
    | false => exact P1 H1 Grow.refl E1.st
theorem runW_or {oa ob : Out Bool} {rest : List Expr} (ha : RunT cls X W a ρ S oa) (hb : RunW cls X W (.BoolOp .Or (b :: rest) pos) ρ S ob) : RunW cls X W (.BoolOp .Or (a :: b :: rest) pos) ρ S (oa.bind fun c => if c then .ok true else ob) :=
  RunW.of (pw_or pt_w pw_w) fun Zh σ H Q E P => ha.bindT E P fun c H1 _ g1 E1 P1 => by
    cases c with
    | true => exact P1 H1 Grow.refl E1.st
    | false => exact hb.tw E1 P1
def asBl : D → Out Bool
  | .bl b => .ok b
  | _ => .bad
variable {P : Program} {w : World} {K : PySem.W.Frag} {mg : Str → Option Value} {base : Heap} {tb : List (Str × Nat)} {names : List (Str × NameKind)} {k : Nat}
theorem run_cmp {op : CmpOp} {oa ob : Out D} (A : At X P w K mg base tb names k) (hm : isSet b = false) (ha : RunE cls X W a ρ S oa) (hb : RunE cls X W b ρ S ob) : RunE cls X W (.Compare a [op] [b] pos) ρ S (oa.bind fun x => ob.bind fun y => opC op x y) :=
  RunE.of (pe_cmpR op_w pe_w pe_w (marks_no hm)) fun Zh σ H Q E P => ha.bind E P fun x v H1 _ g1 E1 r1 P1 => hb.bind E1 P1 fun y u H2 _ g2 E2 r2 P2 => PO.op (fun d h Φ q => (opC_ok A h q).2) opC_nx E2.st (E1.st.gr g2 r1) r2 P2
theorem runT_cmp {op : CmpOp} {oa ob : Out D} (A : At X P w K mg base tb names k) (hm : isSet b = false) (ha : RunE cls X W a ρ S oa) (hb : RunE cls X W b ρ S ob) : RunT cls X W (.Compare a [op] [b] pos) ρ S (oa.bind fun x => ob.bind fun y => (opC op x y).bind asBl) :=
  RunT.of (pt_cmpR op_w pe_w pe_w (marks_no hm)) fun Zh σ H Q E P => ha.bindT E P fun x v H1 _ g1 E1 r1 P1 => hb.bindT E1 P1 fun y u H2 _ g2 E2 r2 P2 => by
    cases hc : opC op x y with
    | ok d =>
      rw [hc] at P2
      obtain ⟨⟨c, rfl⟩, _⟩ := opC_ok (X := X) (S := S) (Φ := fun _ _ => True) A hc trivial
      refine (opC_ok (X := X) (S := S) (Φ := fun d' S' => d' = .bl c ∧ S' = S) A hc ⟨rfl, rfl⟩).2.rw E2.st (E1.st.gr g2 r1) r2 fun v' H' d' S' k' g' s' r' q' => ?_
      obtain ⟨rfl, rfl⟩ := q'
      exact ⟨c, r'.bl, P2 H' g' s'⟩
    | ex c => exact absurd hc (opC_nx c)
    | bad =>
      rw [hc] at P2
      exact P2.elim
theorem run_chain {op op2 : CmpOp} {oa ob oc : Out D} (A : At X P w K mg base tb names k) (hm : isSet c = false) (ha : RunE cls X W a ρ S oa) (hb : RunE cls X W b ρ S ob) (hc : RunE cls X W c ρ S oc) : RunE cls X W (.Compare a [op, op2] [b, c] pos) ρ S (oa.bind fun x => ob.bind fun y => (opC op x y).bind fun t => (asBl t).bind fun k => if k then oc.bind fun z => opC op2 y z else .ok (.bl false)) :=
  RunE.of (pe_chain op_w op_w pe_w pe_w pe_w (marks_no hm)) fun Zh σ H Q E P => ha.bind E P fun x v H1 _ g1 E1 r1 P1 => hb.bind E1 P1 fun y u H2 _ g2 E2 r2 P2 => by
    cases ho : opC op x y with
    | ok d =>
      rw [ho] at P2
      obtain ⟨⟨t, rfl⟩, _⟩ := opC_ok (X := X) (S := S) (Φ := fun _ _ => True) A ho trivial
      refine (opC_ok (X := X) (S := S) (Φ := fun d' S' => d' = .bl t ∧ S' = S) A ho ⟨rfl, rfl⟩).2.rw E2.st (E1.st.gr g2 r1) r2 fun v' H' d' S' k' g' s' r' q' => ?_
      obtain ⟨rfl, rfl⟩ := q'
      refine ⟨t, r'.bl, ?_⟩
      have E3 := E2.next rfl g' s'
      cases t with
      | true => exact hc.bind E3 (PO.next g' P2) fun z w' H4 _ g4 E4 r4 P4 => PO.op (fun d h Φ q => (opC_ok A h q).2) opC_nx E4.st (E3.st.gr g4 (E2.st.gr g' r2)) r4 P4
      | false => exact P2 _ H' g' s' rep_bl
    | ex cc => exact absurd ho (opC_nx cc)
    | bad =>
      rw [ho] at P2
      exact P2.elim
theorem runT_chain {op op2 : CmpOp} {oa ob oc : Out D} (A : At X P w K mg base tb names k) (hm : isSet c = false) (ha : RunE cls X W a ρ S oa) (hb : RunE cls X W b ρ S ob) (hc : RunE cls X W c ρ S oc) : RunT cls X W (.Compare a [op, op2] [b, c] pos) ρ S (oa.bind fun x => ob.bind fun y => (opC op x y).bind fun t => (asBl t).bind fun k => if k then oc.bind fun z => (opC op2 y z).bind asBl else .ok false) :=
  RunT.of (pt_chain op_w op_w pe_w pe_w pe_w (marks_no hm)) fun Zh σ H Q E P => ha.bindT E P fun x v H1 _ g1 E1 r1 P1 => hb.bindT E1 P1 fun y u H2 _ g2 E2 r2 P2 => by
    cases ho : opC op x y with
    | ok d =>
      rw [ho] at P2
      obtain ⟨⟨t, rfl⟩, _⟩ := opC_ok (X := X) (S := S) (Φ := fun _ _ => True) A ho trivial
      refine (opC_ok (X := X) (S := S) (Φ := fun d' S' => d' = .bl t ∧ S' = S) A ho ⟨rfl, rfl⟩).2.rw E2.st (E1.st.gr g2 r1) r2 fun v' H' d' S' k' g' s' r' q' => ?_
      obtain ⟨rfl, rfl⟩ := q'
      refine ⟨t, r'.bl, ?_⟩
      have E3 := E2.next rfl g' s'
      cases t with
      | true =>
        refine hc.bindT E3 (POT.next g' P2) fun z w' H4 _ g4 E4 r4 P4 => ?_
        cases ho2 : opC op2 y z with
        | ok d2 =>
          rw [ho2] at P4
          obtain ⟨⟨t2, rfl⟩, _⟩ := opC_ok (X := X) (S := S') (Φ := fun _ _ => True) A ho2 trivial
          refine (opC_ok (X := X) (S := S') (Φ := fun d' S2 => d' = .bl t2 ∧ S2 = S') A ho2 ⟨rfl, rfl⟩).2.rw E4.st (E3.st.gr g4 (E2.st.gr g' r2)) r4 fun v5 H5 d5 S5 k5 g5 s5 r5 q5 => ?_
          obtain ⟨rfl, rfl⟩ := q5
          exact ⟨t2, r5.bl, P4 H5 g5 s5⟩
        | ex cc => exact absurd ho2 (opC_nx cc)
        | bad =>
          rw [ho2] at P4
          exact P4.elim
      | false => exact ⟨false, rfl, P2 H' g' s'⟩
    | ex cc => exact absurd ho (opC_nx cc)
    | bad =>
      rw [ho] at P2
      exact P2.elim
end
end Ar
namespace Ar
open PySem PySem.Spec PyProof.Rows L2
/-! ### index, slices, built-ins, calls, comprehensions -/
def Out.nx {α : Type} : Out α → Out α
  | .ok a => .ok a
  | _ => .bad
def ixO : D → D → Out D
  | .tup l, .int i => match atI l i with | some e => .ok e | none => .bad
  | .lst l, .int i => match atI l i with | some e => .ok e | none => .bad
  | .frz l, .int i => match atI l i with | some e => .ok e | none => .bad
  | .str z, .int i => if shortS z then match atI z.cps.toList i with | some c => .ok (.str ⟨#[c]⟩) | none => .bad else .bad
  | _, _ => .bad
def slO : D → Option Int → Option Int → Out D
  | .tup l, lo, hi => .ok (.tup (cutD l lo hi))
  | .lst l, lo, hi => .ok (.lst (cutD l lo hi))
  | .frz l, lo, hi => .ok (.lst (cutD l lo hi))
  | .str z, lo, hi => if shortS z then .ok (.str (cutS z lo hi)) else .bad
  | _, _, _ => .bad
def intO : D → Out Int
  | .int i => .ok i
  | _ => .bad
def revO : D → Out D
  | .str z => if shortS z then .ok (.str ⟨z.cps.toList.reverse.toArray⟩) else .bad
  | .tup l => .ok (.tup l.reverse)
  | .lst l => .ok (.lst l.reverse)
  | _ => .bad
def asInts : List D → Option (List Int)
  | [] => some []
  | .int i :: l => (asInts l).map (i :: ·)
  | _ => none
def asBls : List D → Option (List Bool)
  | [] => some []
  | .bl i :: l => (asBls l).map (i :: ·)
  | _ => none
def asStrs : List D → Option (List Str)
  | [] => some []
  | .str i :: l => (asStrs l).map (i :: ·)
  | _ => none
theorem asInts_eq : ∀ {l : List D} {m : List Int}, asInts l = some m → l = m.map D.int
  | [], m, h => by cases h; rfl
  | .int i :: l, m, h => by
    unfold asInts at h
    cases e : asInts l with
    | none => rw [e] at h; cases h
    | some m' => rw [e] at h; cases h; rw [asInts_eq e]; rfl
  | .non :: _, _, h => by cases h
  | .bl _ :: _, _, h => by cases h
  | .str _ :: _, _, h => by cases h
  | .tup _ :: _, _, h => by cases h
  | .lst _ :: _, _, h => by cases h
  | .frz _ :: _, _, h => by cases h
  | .cell _ :: _, _, h => by cases h
  | .dct _ _ :: _, _, h => by cases h
  | .rng _ _ :: _, _, h => by cases h
theorem asBls_eq : ∀ {l : List D} {m : List Bool}, asBls l = some m → l = m.map D.bl
  | [], m, h => by cases h; rfl
  | .bl i :: l, m, h => by
    unfold asBls at h
    cases e : asBls l with
    | none => rw [e] at h; cases h
    | some m' => rw [e] at h; cases h; rw [asBls_eq e]; rfl
  | .non :: _, _, h => by cases h
  | .int _ :: _, _, h => by cases h
  | .str _ :: _, _, h => by cases h
  | .tup _ :: _, _, h => by cases h
  | .lst _ :: _, _, h => by cases h
  | .frz _ :: _, _, h => by cases h
  | .cell _ :: _, _, h => by cases h
  | .dct _ _ :: _, _, h => by cases h
  | .rng _ _ :: _, _, h => by cases h
theorem asStrs_eq : ∀ {l : List D} {m : List Str}, asStrs l = some m → l = m.map D.str
  | [], m, h => by cases h; rfl
  | .str i :: l, m, h => by
    unfold asStrs at h
    cases e : asStrs l with
    | none => rw [e] at h; cases h
    | some m' => rw [e] at h; cases h; rw [asStrs_eq e]; rfl
  | .non :: _, _, h => by cases h
  | .int _ :: _, _, h => by cases h
  | .bl _ :: _, _, h => by cases h
  | .tup _ :: _, _, h => by cases h
  | .lst _ :: _, _, h => by cases h
  | .frz _ :: _, _, h => by cases h
  | .cell _ :: _, _, h => by cases h
  | .dct _ _ :: _, _, h => by cases h
  | .rng _ _ :: _, _, h => by cases h
section
variable {cls : Cls} {X : Cx} {W : WX} {ρ : Ro} {S : Sto} {e a b c : Expr} {es : List Expr} {pos p : Pos}
theorem RunE.exOf {c : Str} (h : ∀ Ξ : Xi, (∀ a, cls c = some a → Ξ (.ref a) S) → DR X W e ρ S Ξ) : RunE cls X W e ρ S (.ex c) := fun Zh pins s σ H Q I E q => by
  obtain ⟨a, e1, h1⟩ := q
  refine h (fun v S' => v = .ref a ∧ S' = S) (fun a' e2 => ?_) Zh pins s σ H Q I E fun v H' S' k g s' q => ?_
  · rw [e1] at e2
    cases e2
    exact ⟨rfl, rfl⟩
  · obtain ⟨rfl, rfl⟩ := q
    exact h1 H' g s'
theorem RunE.drX {c : Str} {Ξ : Xi} (h : RunE cls X W e ρ S (.ex c)) (q : ∃ a, cls c = some a ∧ Ξ (.ref a) S) : DR X W e ρ S Ξ := by
  obtain ⟨a, e1, q⟩ := q
  exact h.drOf e1 q
theorem RunE.exFrom {e : Expr} {c : Str} (ha : RunE cls X W a ρ S (.ex c)) (hex : ∀ Ξ : Xi, DR X W a ρ S Ξ → DR X W e ρ S Ξ) : RunE cls X W e ρ S (.ex c) := by
  intro Zh pins s σ H Q I E q
  obtain ⟨a', e1, h1⟩ := q
  refine hex _ (ha.drOf (Ξ := fun v S' => v = .ref a' ∧ S' = S) e1 ⟨rfl, rfl⟩) Zh pins s σ H Q I E ?_
  intro v H' S' k g s' q
  obtain ⟨rfl, rfl⟩ := q
  exact h1 H' g s'
/-- one part, then a function of it, by the judgements of old -/
theorem run_one {e : Expr} {oa : Out D} {g : D → Out D} (ha : RunE cls X W a ρ S oa) (gx : ∀ x c, g x ≠ .ex c) (hok : ∀ x d, g x = .ok d → ∀ Φ : D → Sto → Prop, Φ d S → (∀ Ψ : D → Sto → Prop, Ψ x S → DE X a ρ S Ψ) → DE X e ρ S Φ)
    (hex : ∀ Ξ : Xi, DR X W a ρ S Ξ → DR X W e ρ S Ξ) : RunE cls X W e ρ S (oa.bind g) := by
  cases oa with
  | bad => exact RunE.bad
  | ex c => exact ha.exFrom hex
  | ok x =>
    show RunE cls X W e ρ S (g x)
    cases hg : g x with
    | bad => exact RunE.bad
    | ex c => exact absurd hg (gx x c)
    | ok d => exact RunE.de fun Φ q => hok x d hg Φ q fun Ψ q => ha.deOf q
theorem run_two {e : Expr} {oa ob : Out D} {g : D → D → Out D} (ha : RunE cls X W a ρ S oa) (hb : RunE cls X W b ρ S ob) (gx : ∀ x y c, g x y ≠ .ex c)
    (hok : ∀ x y d, g x y = .ok d → ∀ Φ : D → Sto → Prop, Φ d S → (∀ Ψ : D → Sto → Prop, Ψ x S → DE X a ρ S Ψ) → (∀ Ψ : D → Sto → Prop, Ψ y S → DE X b ρ S Ψ) → DE X e ρ S Φ)
    (hex : ∀ Ξ : Xi, DR X W a ρ S Ξ → DR X W e ρ S Ξ) (hexR : ∀ Ξ : Xi, (DE X a ρ S fun _ S1 => DR X W b ρ S1 Ξ) → DR X W e ρ S Ξ) : RunE cls X W e ρ S (oa.bind fun x => ob.bind fun y => g x y) := by
  cases oa with
  | bad => exact RunE.bad
  | ex c => exact ha.exFrom hex
  | ok x =>
    show RunE cls X W e ρ S (ob.bind fun y => g x y)
    cases ob with
    | bad => exact RunE.bad
    | ex c => exact hb.exFrom fun Ξ h => hexR Ξ (ha.deOf h)
    | ok y =>
      show RunE cls X W e ρ S (g x y)
      cases hg : g x y with
      | bad => exact RunE.bad
      | ex c => exact absurd hg (gx x y c)
      | ok d => exact RunE.de fun Φ q => hok x y d hg Φ q (fun Ψ q => ha.deOf q) fun Ψ q => hb.deOf q
theorem ixO_ok {x y d : D} (h : ixO x y = .ok d) : IxD S x y d := by
  unfold ixO at h
  split at h
  · split at h
    · cases h; rename_i h1; exact h1
    · cases h
  · split at h
    · cases h; rename_i h1; exact h1
    · cases h
  · split at h
    · cases h; rename_i h1; exact h1
    · cases h
  · split at h
    · rename_i hs
      split at h
      · rename_i c hc
        cases h
        exact ⟨line_of (short_len hs) (by decide), c, hc, rfl⟩
      · cases h
    · cases h
  · cases h
theorem ixO_nx {x y : D} : ∀ c, ixO x y ≠ .ex c := fun c h => by
  unfold ixO at h
  split at h <;> (try split at h) <;> (try split at h) <;> cases h
theorem dr_ixR {Ξ : Xi} (hp : PlainIx b) (h : DE X a ρ S fun _ S1 => DR X W b ρ S1 Ξ) : DR X W (.Subscript a b pos) ρ S Ξ := DR.of (pe_ix ix_seq pe_w pe_w hp) fun Zh σ H Q E P => h.bind E fun v H1 d S1 k1 g1 E1 r1 h1 => h1.tw E1 (P.next k1 g1)
theorem run_ix {oa ob : Out D} (hb0 : isSl b = false) (ha : RunE cls X W a ρ S oa) (hb : RunE cls X W b ρ S ob) : RunE cls X W (.Subscript a b pos) ρ S (oa.bind fun x => ob.bind fun y => ixO x y) :=
  run_two ha hb (fun _ _ => ixO_nx) (fun x y d h Φ q da db => de_ix (plain_ix hb0) (da _ (db _ ⟨d, ixO_ok h, q⟩))) (fun Ξ h => dr_ix (plain_ix hb0) h) fun Ξ h => dr_ixR (plain_ix hb0) h
/-- also in a dict of texts -/
def ixO2 (x y : D) : Out D := match x with
  | .dct ks l => match y with
    | .str z => match (ks.zip l).lookup z with
      | some r => .ok r
      | none => .bad
    | _ => .bad
  | x => ixO x y
theorem ixO2_nx {x y : D} : ∀ c, ixO2 x y ≠ .ex c := fun c h => by
  unfold ixO2 at h
  split at h
  · split at h
    · split at h <;> cases h
    · cases h
  · exact ixO_nx c h
theorem run_ix2 {oa ob : Out D} {P : Program} {w : World} {K : PySem.W.Frag} {mg : Str → Option Value} {base : Heap} {tb : List (Str × Nat)} {names : List (Str × NameKind)} {k : Nat} (A : At X P w K mg base tb names k) (hb0 : isSl b = false) (ha : RunE cls X W a ρ S oa) (hb : RunE cls X W b ρ S ob) : RunE cls X W (.Subscript a b pos) ρ S (oa.bind fun x => ob.bind fun y => ixO2 x y) :=
  run_two ha hb (fun _ _ => ixO2_nx) (fun x y d h Φ q da db => by
    unfold ixO2 at h
    split at h
    · split at h
      · split at h
        · rename_i r hr
          cases h
          exact de_dctIx A (plain_ix hb0) (da _ (db _ ⟨_, _, _, _, rfl, rfl, hr, q⟩))
        · cases h
      · cases h
    · exact de_ix (plain_ix hb0) (da _ (db _ ⟨d, ixO_ok h, q⟩))) (fun Ξ h => dr_ix (plain_ix hb0) h) fun Ξ h => dr_ixR (plain_ix hb0) h
theorem slO_ok {x d : D} {lo hi : Option Int} (h : slO x lo hi = .ok d) : SlD x lo hi d := by
  unfold slO at h
  split at h
  · cases h; exact rfl
  · cases h; exact rfl
  · cases h; exact rfl
  · split at h
    · rename_i hs
      cases h
      exact ⟨line_of (short_len hs) (by decide), rfl⟩
    · cases h
  · cases h
theorem slO_nx {x : D} {lo hi : Option Int} : ∀ c, slO x lo hi ≠ .ex c := fun c h => by
  unfold slO at h
  split at h <;> (try split at h) <;> cases h
theorem intO_ok {x : D} {i : Int} (h : intO x = .ok i) : x = .int i := by
  unfold intO at h
  split at h <;> cases h
  rfl
theorem intO_nx {x : D} : ∀ c, intO x ≠ .ex c := fun c h => by
  unfold intO at h
  split at h <;> cases h
theorem bind_nx {α β : Type} {o : Out α} {f : α → Out β} (h1 : ∀ c, o ≠ .ex c) (h2 : ∀ a c, f a ≠ .ex c) : ∀ c, o.bind f ≠ .ex c := fun c h => by
  rcases Out.bind_ex h with h | ⟨a, _, h⟩
  · exact h1 c h
  · exact h2 a c h
theorem dr_slHiR {p2 : Pos} {Ξ : Xi} (h : DE X a ρ S fun _ S1 => DR X W b ρ S1 Ξ) : DR X W (.Subscript a (.Slice none (some b) none p2) pos) ρ S Ξ := DR.of (pe_slice sl_any pe_w po_none (po_some pe_w)) fun Zh σ H Q E P => h.bind E fun v H1 d S1 k1 g1 E1 r1 h1 => h1.tw E1 (P.next k1 g1)
theorem dr_slLo {p2 : Pos} {Ξ : Xi} (h : DR X W a ρ S Ξ) : DR X W (.Subscript a (.Slice (some b) none none p2) pos) ρ S Ξ := DR.of (pe_slice sl_any pe_w (po_some pe_w) po_none) fun Zh σ H Q E P => h.tw E P
theorem dr_slLoR {p2 : Pos} {Ξ : Xi} (h : DE X a ρ S fun _ S1 => DR X W b ρ S1 Ξ) : DR X W (.Subscript a (.Slice (some b) none none p2) pos) ρ S Ξ := DR.of (pe_slice sl_any pe_w (po_some pe_w) po_none) fun Zh σ H Q E P => h.bind E fun v H1 d S1 k1 g1 E1 r1 h1 => h1.tw E1 (P.next k1 g1)
theorem run_slHi {p2 : Pos} {oa ob : Out D} (ha : RunE cls X W a ρ S oa) (hb : RunE cls X W b ρ S ob) : RunE cls X W (.Subscript a (.Slice none (some b) none p2) pos) ρ S (oa.bind fun x => ob.bind fun y => (intO y).bind fun i => slO x none (some i)) :=
  run_two ha hb (fun _ _ => bind_nx intO_nx fun _ => slO_nx) (fun x y d h Φ q da db => by
    obtain ⟨i, h1, h2⟩ := Out.bind_ok h
    exact de_slHi (da _ (db _ ⟨i, d, intO_ok h1, slO_ok h2, q⟩))) (fun Ξ h => dr_slHi h) fun Ξ h => dr_slHiR h
theorem run_slLo {p2 : Pos} {oa ob : Out D} (ha : RunE cls X W a ρ S oa) (hb : RunE cls X W b ρ S ob) : RunE cls X W (.Subscript a (.Slice (some b) none none p2) pos) ρ S (oa.bind fun x => ob.bind fun y => (intO y).bind fun i => slO x (some i) none) :=
  run_two ha hb (fun _ _ => bind_nx intO_nx fun _ => slO_nx) (fun x y d h Φ q da db => by
    obtain ⟨i, h1, h2⟩ := Out.bind_ok h
    exact de_slLo (da _ (db _ ⟨i, d, intO_ok h1, slO_ok h2, q⟩))) (fun Ξ h => dr_slLo h) fun Ξ h => dr_slLoR h
/-- both ends: nothing in it raises -/
theorem run_slLH {p2 : Pos} {oa ob oc : Out D} (ha : RunE cls X W a ρ S oa) (hb : RunE cls X W b ρ S ob) (hc : RunE cls X W c ρ S oc) : RunE cls X W (.Subscript a (.Slice (some b) (some c) none p2) pos) ρ S (oa.nx.bind fun x => ob.nx.bind fun y => oc.nx.bind fun z => (intO y).bind fun i => (intO z).bind fun j => slO x (some i) (some j)) := by
  cases oa with
  | bad => exact RunE.bad
  | ex _ => exact RunE.bad
  | ok x =>
    cases ob with
    | bad => exact RunE.bad
    | ex _ => exact RunE.bad
    | ok y =>
      cases oc with
      | bad => exact RunE.bad
      | ex _ => exact RunE.bad
      | ok z =>
        show RunE cls X W _ ρ S ((intO y).bind fun i => (intO z).bind fun j => slO x (some i) (some j))
        cases hg : (intO y).bind fun i => (intO z).bind fun j => slO x (some i) (some j) with
        | bad => exact RunE.bad
        | ex c => exact absurd hg (bind_nx intO_nx (fun _ => bind_nx intO_nx fun _ => slO_nx) c)
        | ok d =>
          obtain ⟨i, h1, h2⟩ := Out.bind_ok hg
          obtain ⟨j, h2, h3⟩ := Out.bind_ok h2
          exact RunE.de fun Φ q => de_slLH (ha.deOf (hb.deOf ⟨i, intO_ok h1, hc.deOf ⟨j, d, intO_ok h2, slO_ok h3, q⟩⟩))
theorem de_revL {k : Nat} {p1 p2 p3 : Pos} {Φ : D → Sto → Prop} (h : DE X e ρ S fun d S1 => ∃ l, d = .lst l ∧ Φ (.lst l.reverse) S1) : DE X (.Subscript e (.Slice none none (some (.UnaryOp .USub (.Constant (.int 1) k p1) p2)) p3) pos) ρ S Φ := DE.of (pe_revL pe_w) fun Zh σ H Q E P => h.bind E fun v H1 d S1 k1 g1 E1 r1 h1 => by
  obtain ⟨l, rfl, q⟩ := h1
  obtain ⟨a, vs, rfl, n1, sq, rl⟩ := r1.lst
  exact ⟨a, vs, rfl, .inl (.inl sq), fun z hz => (P.next k1 g1).lst E1.st (RepL.rev rl) q hz⟩
def bitsO : D → Out D
  | .int i => .ok (.int (Builtin.Int.intBits i : Nat))
  | _ => .bad
theorem bitsO_nx {x : D} : ∀ c, bitsO x ≠ .ex c := fun c h => by
  unfold bitsO at h
  split at h <;> cases h
theorem run_bits {apos : Pos} {oa : Out D} (hb0 : isCl a = false) (hline : (apos.endLine == pos.line) = true) (ha : RunE cls X W a ρ S oa) : RunE cls X W (.Call (.Attribute a "bit_length" apos) [] [] pos) ρ S (oa.bind bitsO) :=
  run_one ha (fun _ => bitsO_nx) (fun x d h Φ q da => by
    unfold bitsO at h
    split at h
    · cases h
      exact DE.of (pe_bits pe_w (base_no hb0) hline) fun Zh σ H Q E P => (da (fun d S1 => d = .int _ ∧ Φ (.int (Builtin.Int.intBits _ : Nat)) S1) ⟨rfl, q⟩).bind E fun v H1 d S1 k1 g1 E1 r1 h1 => by
        obtain ⟨rfl, q⟩ := h1
        exact ⟨_, r1.int, (P.next k1 g1).here E1.st rep_int q⟩
    · cases h) fun Ξ h => DR.of (pe_bits pe_w (base_no hb0) hline) fun Zh σ H Q E P => h.tw E P
theorem revO_nx {x : D} : ∀ c, revO x ≠ .ex c := fun c h => by
  unfold revO at h
  split at h <;> (try split at h) <;> cases h
theorem dr_revS {k : Nat} {p1 p2 p3 : Pos} {Ξ : Xi} (h : DR X W e ρ S Ξ) : DR X W (.Subscript e (.Slice none none (some (.UnaryOp .USub (.Constant (.int 1) k p1) p2)) p3) pos) ρ S Ξ := dr_revT h
theorem run_rev {k : Nat} {p1 p2 p3 : Pos} {oa : Out D} (ha : RunE cls X W a ρ S oa) : RunE cls X W (.Subscript a (.Slice none none (some (.UnaryOp .USub (.Constant (.int 1) k p1) p2)) p3) pos) ρ S (oa.bind revO) :=
  run_one ha (fun _ => revO_nx) (fun x d h Φ q da => by
    unfold revO at h
    split at h
    · split at h
      · rename_i z hs
        cases h
        exact de_revS (da _ ⟨_, rfl, line_of (short_len hs) (by decide), q⟩)
      · cases h
    · cases h
      exact de_revT (da _ ⟨_, rfl, q⟩)
    · cases h
      exact de_revL (da _ ⟨_, rfl, q⟩)
    · cases h) fun Ξ h => dr_revT h
end
end Ar
namespace Ar
open PySem PySem.Spec PyProof.Rows L2
/-! ### min of a list of tuples of numbers -/
def rMinT (K : PySem.W.Frag) : List V → Hp → VK → Prop := fun vs H Q => ∃ (p : Addr) (xs : List V) (x : PyData) (ps : List PyData), vs = [.ref p] ∧ SqL K H p xs ∧ DpAll K H xs (x :: ps) ∧ PyData.plainAll (x :: ps) = true ∧ PySem.W.AlikeAll (x :: ps) ∧ PyData.depthAll (x :: ps) ≤ 8 ∧
  ∀ (i : Nat) (v : V), xs[i]? = some v → (x :: ps)[i]? = some (PySem.W.minD x ps) → Q v H
theorem plain_at : ∀ {ps : List PyData} {i : Nat} {d : PyData}, PyData.plainAll ps = true → ps[i]? = some d → d.plain = true
  | [], _, _, _, e => by simp at e
  | p :: ps, 0, d, h, e => by
    simp at e
    subst e
    rw [PyData.plainAll, Bool.and_eq_true] at h
    exact h.1
  | p :: ps, i + 1, d, h, e => by
    simp at e
    rw [PyData.plainAll, Bool.and_eq_true] at h
    exact plain_at h.2 e
theorem call_minT {X : Cx} (hc : X.calm = true) (hu : X.A.units + 64 < cLine) : CallR X (.builtin "min") (rMinT X.K) := by
  intro pins s σ H vs us Q I r h
  obtain ⟨p, xs, x, ps, rfl, hs, dp, pl, al, hd, q⟩ := h
  obtain ⟨its, rv, hl, _⟩ := I.list hs
  rw [Vals.ref1 r]
  obtain ⟨as, ra⟩ := Dp.readsAll I (x :: ps) xs its dp rv
  refine PySem.W.min_list_data (I.ok.hd hc) hl.isList ra al (by omega) fun i v h' tk bs hv hr hk => ?_
  have hv2 : its[i]? = some v := by simpa using hv
  obtain ⟨bs2, r2, hi, _⟩ := PySem.W.readsAll_at ra i v hv2
  have hix : i < xs.length := by
    rw [rv.length]
    exact (List.getElem?_eq_some_iff.mp hv2).1
  obtain ⟨u, hu2, ru⟩ := rv.get (List.getElem?_eq_getElem hix)
  rw [hv2] at hu2
  cases hu2
  have hd2 : (x :: ps)[i]? = some ((x :: ps).getD i .none) := by
    rw [List.getD_eq_getElem?_getD, List.getElem?_eq_getElem hi]
    rfl
  have e := PySem.SeqAt.plain_unique _ _ v _ _ (plain_at pl hd2) (PySem.W.reads_keeps hk r2) hr
  rw [e] at hd2
  exact ⟨_, H, I.kept hk, ru, q i _ (List.getElem?_eq_getElem hix) hd2⟩
def ofInts : List PyData → Option (List D)
  | [] => some []
  | .int i :: l => (ofInts l).map (.int i :: ·)
  | _ => none
def ofPyT : PyData → Option D
  | .tuple l => (ofInts l).map .tup
  | _ => none
def isTI : D → Bool
  | .tup l => (asInts l).isSome
  | _ => false
theorem ofInts_map : ∀ l : List Int, ofInts (toPyL (l.map D.int)) = some (l.map D.int)
  | [] => rfl
  | i :: l => by
    show ofInts (toPyL (D.int i :: l.map D.int)) = _
    unfold toPyL
    unfold toPy
    unfold ofInts
    rw [ofInts_map l]
    rfl
theorem ofPyT_of {d : D} (h : isTI d = true) : ofPyT (toPy d) = some d := by
  unfold isTI at h
  split at h
  · rename_i l
    cases e : asInts l with
    | none => rw [e] at h; cases h
    | some m =>
      rw [asInts_eq e]
      unfold toPy
      show (ofInts (toPyL (m.map D.int))).map D.tup = _
      rw [ofInts_map]
      rfl
  · cases h
def minO : D → Out D
  | .lst (d0 :: l) => if (d0 :: l).all isTI && (toPyL (d0 :: l)).all (fun a => (toPyL (d0 :: l)).all fun b => PySem.W.alike a b) && PyData.plainAll (toPyL (d0 :: l)) && Nat.ble (PyData.depthAll (toPyL (d0 :: l))) 8 && (plainL (d0 :: l)) then match ofPyT (PySem.W.minD (toPy d0) (toPyL l)) with
      | some d => .ok d
      | none => .bad
    else .bad
  | _ => .bad
theorem minO_nx {x : D} : ∀ c, minO x ≠ .ex c := fun c h => by
  unfold minO at h
  split at h <;> (try split at h) <;> (try split at h) <;> cases h
theorem toPyL_at {l : List D} : ∀ {i : Nat} {p : PyData}, (toPyL l)[i]? = some p → ∃ d, l[i]? = some d ∧ toPy d = p := by
  induction l with
  | nil => exact fun {i p} h => by unfold toPyL at h; simp at h
  | cons d l ih =>
    intro i p h
    unfold toPyL at h
    cases i with
    | zero =>
      simp at h
      exact ⟨d, rfl, h⟩
    | succ i =>
      simp at h
      exact ih h
theorem ti_none {d : D} (h : isTI d = true) : toPy d ≠ .none := by
  unfold isTI at h
  split at h
  · unfold toPy
    exact fun z => nomatch z
  · cases h
theorem toPyL_mem {l : List D} {p : PyData} (h : p ∈ toPyL l) : ∃ d, d ∈ l ∧ toPy d = p := by
  obtain ⟨i, h⟩ := List.getElem?_of_mem h
  obtain ⟨d, h1, h2⟩ := toPyL_at h
  exact ⟨d, List.mem_of_getElem? h1, h2⟩
section
variable {cls : Cls} {X : Cx} {W : WX} {ρ : Ro} {S : Sto} {e a b c : Expr} {es : List Expr} {pos p : Pos} {P : Program} {w : World} {K : PySem.W.Frag} {mg : Str → Option Value} {base : Heap} {tb : List (Str × Nat)} {names : List (Str × NameKind)} {k : Nat}
theorem de_minT {x d : D} {Φ : D → Sto → Prop} (A : At X P w K mg base tb names k) (G : NoB mg) (hg : glB names "min" = true) (he : starEach [e] X.env = [(false, eval e X.env)]) (hm : minO x = .ok d) (h : ∀ Ψ : D → Sto → Prop, Ψ x S → DE X e ρ S Ψ) (q : Φ d S) : DE X (.Call (.Name "min" p) [e] [] pos) ρ S Φ := by
  unfold minO at hm
  split at hm
  · rename_i d0 l
    split at hm
    · rename_i hh
      simp only [Bool.and_eq_true] at hh
      obtain ⟨⟨⟨⟨h1, h2⟩, h3⟩, h4⟩, h5⟩ := hh
      split at hm
      · rename_i d' hd
        cases hm
        refine de_cB A G (call_minT A.calm A.room.units) rfl (by rw [hg]; rfl) he rfl (da_one he (h _ ?_))
        intro Zh H vs Q s r P
        obtain ⟨v, r1, rfl, rv, r⟩ := r.uncons
        cases r.un0
        obtain ⟨pp, ws, rfl, n1, h6, rl⟩ := rv.lst
        have e0 : toPyL (d0 :: l) = toPy d0 :: toPyL l := by rw [toPyL]
        refine ⟨pp, ws, toPy d0, toPyL l, rfl, .inl (.inl h6), by rw [← e0]; exact dpL_of rl h5, by rw [← e0]; exact h3, ⟨fun x hx y hy => ?_, fun x hx => ?_⟩, by rw [← e0]; exact Nat.le_of_ble_eq_true h4, fun i v hi hp => ?_⟩
        · rw [← e0] at hx hy
          exact List.all_eq_true.mp (List.all_eq_true.mp h2 x hx) y hy
        · rw [← e0] at hx
          obtain ⟨z, hz, rfl⟩ := toPyL_mem hx
          exact ti_none (List.all_eq_true.mp h1 z hz)
        · rw [← e0] at hp
          obtain ⟨z, hz, e3⟩ := toPyL_at hp
          have hzm := List.all_eq_true.mp h1 z (List.mem_of_getElem? hz)
          have e4 := ofPyT_of hzm
          rw [e3, hd] at e4
          cases e4
          obtain ⟨v2, e5, rz⟩ := rl.get hz
          rw [hi] at e5
          cases e5
          exact P.here s rz q
      · cases hm
    · cases hm
  · cases hm
theorem run_min1 {oa : Out D} (A : At X P w K mg base tb names k) (G : NoB mg) (hg : glB names "min" = true) (hs : isStar a = false) (ha : RunE cls X W a ρ S oa) : RunE cls X W (.Call (.Name "min" p) [a] [] pos) ρ S (oa.bind minO) :=
  run_one ha (fun _ => minO_nx) (fun x d h Φ q da => de_minT A G hg (star_no hs) h da q) fun Ξ h => dr_cB A G (id := "min") (r := fun _ _ _ => False) (fun _ _ _ _ _ _ _ _ _ h => h.elim) rfl (by rw [hg]; rfl) (star_no hs) rfl (dra_head (star_no hs) h)
end
end Ar
namespace Ar
open PySem PySem.Spec PyProof.Rows L2
/-! ### sorted of a list of data -/
section
variable {α : Type} {le : α → α → Bool}
def insD (le : α → α → Bool) (x : α) : List α → List α
  | [] => [x]
  | y :: m => if le x y then x :: y :: m else y :: insD le x m
def isortD (le : α → α → Bool) : List α → List α
  | [] => []
  | x :: l => insD le x (isortD le l)
theorem insD_mem {x z : α} : ∀ {m : List α}, z ∈ insD le x m → z = x ∨ z ∈ m
  | [], h => .inl (List.mem_singleton.mp h)
  | y :: m, h => by
    unfold insD at h
    split at h
    · rcases List.mem_cons.mp h with h | h
      · exact .inl h
      · exact .inr h
    · rcases List.mem_cons.mp h with h | h
      · exact .inr (by rw [h]; exact List.mem_cons_self ..)
      · rcases insD_mem h with h | h
        · exact .inl h
        · exact .inr (List.mem_cons_of_mem _ h)
theorem insD_pair (T : PySem.W.TotalLe le) {x : α} : ∀ {m : List α}, m.Pairwise (fun a b => le a b = true) → (insD le x m).Pairwise (fun a b => le a b = true)
  | [], _ => List.pairwise_singleton ..
  | y :: m, h => by
    unfold insD
    have h1 := List.pairwise_cons.mp h
    split
    · rename_i hle
      refine List.pairwise_cons.mpr ⟨fun z hz => ?_, h⟩
      rcases List.mem_cons.mp hz with e | hz
      · rw [e]; exact hle
      · exact T.trans _ _ _ hle (h1.1 z hz)
    · rename_i hle
      have hyx : le y x = true := (T.total x y).resolve_left hle
      refine List.pairwise_cons.mpr ⟨fun z hz => ?_, insD_pair T h1.2⟩
      rcases insD_mem hz with e | hz
      · rw [e]; exact hyx
      · exact h1.1 z hz
theorem insD_filter (T : PySem.W.TotalLe le) {x c : α} : ∀ {m : List α}, (insD le x m).filter (PySem.W.sameRank le c) = (x :: m).filter (PySem.W.sameRank le c)
  | [] => rfl
  | y :: m => by
    unfold insD
    split
    · rfl
    · rename_i hle
      rw [List.filter_cons, insD_filter T, List.filter_cons, List.filter_cons, List.filter_cons]
      by_cases h1 : PySem.W.sameRank le c x = true
      · by_cases h2 : PySem.W.sameRank le c y = true
        · unfold PySem.W.sameRank at h1 h2
          rw [Bool.and_eq_true] at h1 h2
          exact absurd (T.trans _ _ _ h1.2 h2.1) hle
        · simp only [if_pos h1, if_neg h2]
      · simp only [if_neg h1]
theorem isortD_eq (T : PySem.W.TotalLe le) : ∀ l : List α, isortD le l = l.mergeSort le := by
  have hp : ∀ l : List α, (isortD le l).Pairwise (fun a b => le a b = true) := fun l => by
    induction l with
    | nil => exact List.Pairwise.nil
    | cons x l ih => exact insD_pair T ih
  have hf : ∀ (c : α) (l : List α), (isortD le l).filter (PySem.W.sameRank le c) = l.filter (PySem.W.sameRank le c) := fun c l => by
    induction l with
    | nil => rfl
    | cons x l ih =>
      show (insD le x (isortD le l)).filter _ = _
      rw [insD_filter T, List.filter_cons, List.filter_cons, ih]
  exact fun l => PySem.W.sort_unique T (hp l) fun c => hf c l
end
def leD (a b : D) : Bool := !PySem.W.dataLt (toPy b) (toPy a)
theorem leD_eq : leD = PySem.W.dataLe false toPy := rfl
theorem leD_total : PySem.W.TotalLe leD := by
  rw [leD_eq]
  exact PySem.W.sortLe_total _ _ _
theorem isortD_perm {α : Type} {le : α → α → Bool} : ∀ l : List α, (isortD le l).Perm l
  | [] => List.Perm.refl _
  | x :: l => by
    have hi : ∀ m : List α, (insD le x m).Perm (x :: m) := fun m => by
      induction m with
      | nil => exact List.Perm.refl _
      | cons y m ih =>
        unfold insD
        split
        · exact List.Perm.refl _
        · exact (ih.cons y).trans (List.Perm.swap ..)
    exact (hi _).trans ((isortD_perm l).cons x)
def tupNe : PyData → Bool
  | .tuple (_ :: _) => true
  | _ => false
def intPy : PyData → Bool
  | .int _ => true
  | _ => false
def sortO : D → Out D
  | .lst l => if plainL l && (toPyL l).all (fun a => (toPyL l).all fun b => PySem.W.alike a b) && ((toPyL l).all tupNe || (toPyL l).all intPy) && Nat.ble (PyData.depthAll (toPyL l)) 8 && Nat.ble l.length 1000 then .ok (.lst (isortD leD l)) else .bad
  | _ => .bad
theorem sortO_nx {x : D} : ∀ c, sortO x ≠ .ex c := fun c h => by
  unfold sortO at h
  split at h <;> (try split at h) <;> cases h
theorem toPyL_map : ∀ l : List D, toPyL l = l.map toPy
  | [] => rfl
  | d :: l => by
    rw [toPyL, toPyL_map l]
    rfl
theorem depth_in : ∀ {ps : List PyData} {p : PyData}, p ∈ ps → p.depth ≤ PyData.depthAll ps
  | q :: ps, p, h => by
    unfold PyData.depthAll
    rcases List.mem_cons.mp h with h | h
    · rw [h]; omega
    · have := depth_in h
      omega
def SrtOk (l : List D) : Prop := plainL l = true ∧ PySem.W.AllAlike (l.map toPy) ∧ PySem.W.Sortable (l.map toPy) ∧ (∀ d, d ∈ l → (toPy d).depth ≤ 8) ∧ l.length ≤ 1000
theorem sortO_ok {x d : D} (h : sortO x = .ok d) : ∃ l, x = .lst l ∧ SrtOk l ∧ d = .lst (isortD leD l) := by
  unfold sortO at h
  split at h
  · rename_i l
    split at h
    · rename_i hh
      simp only [Bool.and_eq_true] at hh
      obtain ⟨⟨⟨⟨h1, h2⟩, h3⟩, h4⟩, h5⟩ := hh
      cases h
      refine ⟨l, rfl, ⟨h1, fun a ha b hb => ?_, ?_, fun d hd => ?_, Nat.le_of_ble_eq_true h5⟩, rfl⟩
      · rw [← toPyL_map] at ha hb
        exact List.all_eq_true.mp (List.all_eq_true.mp h2 a ha) b hb
      · rw [Bool.or_eq_true] at h3
        rw [← toPyL_map]
        rcases h3 with h3 | h3
        · refine .inl fun d hd => ?_
          have := List.all_eq_true.mp h3 d hd
          unfold tupNe at this
          split at this
          · exact ⟨_, _, rfl⟩
          · cases this
        · refine .inr fun d hd => ?_
          have := List.all_eq_true.mp h3 d hd
          unfold intPy at this
          split at this
          · exact And.intro (fun z => nomatch z) (fun xs z => nomatch z)
          · cases this
      · refine Nat.le_trans (depth_in (ps := toPyL l) ?_) (Nat.le_of_ble_eq_true h4)
        rw [toPyL_map]
        exact List.mem_map.mpr ⟨d, hd, rfl⟩
    · cases h
  · cases h
def rSortD (K : PySem.W.Frag) : List V → Hp → VK → Prop := fun vs H Q => ∃ (a : Addr) (xs : List V) (Z : List Addr) (l : List D), vs = [V.ref a] ∧ SqL K H a xs ∧ RepL K Z H l xs ∧ SrtOk l ∧
  ∀ (ys : List V) (p : Addr), RepL K Z H (isortD leD l) ys → H p = none → Q (.ref p) (upd H p (.lst ys))
theorem each_of {K : PySem.W.Frag} {Z : List Addr} {H : Hp} : ∀ {l : List D} {xs : List V} {us : List Value}, RepL K Z H l xs → Vals xs us → PySem.W.EachIs (fun (u : Value) (d : D) => ∃ v, RelV v u ∧ Rep K Z H d v) us l
  | [], xs, us, r, h => by
    have e := r.un0
    subst e
    cases h
    exact .nil
  | d :: l, xs, us, r, h => by
    obtain ⟨v, r', rfl, r1, r2⟩ := r.uncons
    cases h with
    | cons h1 h2 => exact .cons ⟨v, h1, r1⟩ (each_of r2 h2)
theorem each_to {K : PySem.W.Frag} {Z : List Addr} {H : Hp} : ∀ {l : List D} {us : List Value}, PySem.W.EachIs (fun (u : Value) (d : D) => ∃ v, RelV v u ∧ Rep K Z H d v) us l → ∃ ys, Vals ys us ∧ RepL K Z H l ys
  | _, _, .nil => ⟨[], .nil, .nil⟩
  | _, _, .cons ⟨v, h1, r1⟩ h => by
    obtain ⟨ys, h2, r2⟩ := each_to h
    exact ⟨v :: ys, .cons h1 h2, .cons r1 r2⟩
theorem cr_sortedD {X : Cx} (hu : X.A.units + 64 < cLine) : CallR X (.builtin "sorted") (rSortD X.K) := by
  intro pins s σ H vs us Q I r h
  obtain ⟨a, xs, Z, l, rfl, hs, rl, ⟨h1, h2, h3, h4, h5⟩, q⟩ := h
  obtain ⟨its, rv, hl, hz⟩ := I.list hs
  rw [Vals.ref1 r]
  have e1 := each_of rl rv
  refine PySem.W.sorted_data (vs := its) (bs := l) (enc := toPy) hl.isList e1 ?_ h2 h3 (line_of h5 (by decide)) (fun d hd => by have := h4 d hd; omega) fun out hlen ho => ?_
  · have go : ∀ {l : List D} {xs : List V} {us : List Value}, plainL l = true → RepL X.K Z H l xs → Vals xs us → PySem.W.EachIs (fun (u : Value) (d : D) => ∃ as, Reads s.heap u (toPy d) as) us l := by
      intro l
      induction l with
      | nil =>
        intro xs us _ r h
        have e := r.un0
        subst e
        cases h
        exact .nil
      | cons d l ih =>
        intro xs us hp r h
        obtain ⟨v, r', rfl, r1, r2⟩ := r.uncons
        unfold plainL at hp
        rw [Bool.and_eq_true] at hp
        cases h with
        | cons g1 g2 => exact .cons (Dp.reads I _ _ _ (dp_of r1 hp.1) g1) (ih hp.2 r2 g2)
    exact go h1 rl rv
  · rw [← leD_eq, ← isortD_eq leD_total] at ho
    obtain ⟨ys, hv, hr⟩ := each_to ho
    obtain ⟨ep, he'⟩ := PyProof.Rows.sortedAll_at s.heap its out.toArray
    refine ⟨.ref _, upd H (s.heap.objs.size + 1) (.lst ys), I.laid (t' := s.toks) (fun _ _ => PyProof.Rows.sortedAll_old) (Nat.le_succ _) ⟨?_, out, ep, hv, he'⟩, rfl, q _ _ hr (I.hok.fresh (Nat.le_succ _))⟩
    rw [hv.length, hlen]
    exact line_of h5 (by decide)
section
variable {cls : Cls} {X : Cx} {W : WX} {ρ : Ro} {S : Sto} {e a b c : Expr} {es : List Expr} {pos p : Pos} {P : Program} {w : World} {K : PySem.W.Frag} {mg : Str → Option Value} {base : Heap} {tb : List (Str × Nat)} {names : List (Str × NameKind)} {k : Nat}
theorem de_sortD {x d : D} {Φ : D → Sto → Prop} (A : At X P w K mg base tb names k) (G : NoB mg) (hg : glB names "sorted" = true) (he : starEach [e] X.env = [(false, eval e X.env)]) (hm : sortO x = .ok d) (h : ∀ Ψ : D → Sto → Prop, Ψ x S → DE X e ρ S Ψ) (q : Φ d S) : DE X (.Call (.Name "sorted" p) [e] [] pos) ρ S Φ := by
  obtain ⟨l, rfl, ok, rfl⟩ := sortO_ok hm
  refine de_cB A G (cr_sortedD A.room.units) rfl (by rw [hg]; rfl) he rfl (da_one he (h _ ?_))
  intro Zh H vs Q s r P
  obtain ⟨v, r1, rfl, rv, r⟩ := r.uncons
  cases r.un0
  obtain ⟨pp, ws, rfl, n1, h6, rl⟩ := rv.lst
  exact ⟨pp, ws, _, l, rfl, .inl (.inl h6), rl, ok, fun ys z hr hz => P.lst s hr q hz⟩
theorem dn_sortD {x : D} {l : List D} {Φ : List D → Sto → Prop} (A : At X P w K mg base tb names k) (G : NoB mg) (hg : glB names "sorted" = true) (he : starEach [e] X.env = [(false, eval e X.env)]) (hm : sortO x = .ok (.lst l)) (h : ∀ Ψ : D → Sto → Prop, Ψ x S → DE X e ρ S Ψ) (q : Φ l S) : DN X (.Call (.Name "sorted" p) [e] [] pos) ρ S Φ := by
  obtain ⟨m, rfl, ok, e1⟩ := sortO_ok hm
  cases e1
  have z := glB_of hg
  exact DN.of (pe_callB (cr_sortedD A.room.units) (A.gl _ z.2) (by rw [A.mg]; exact G.no _ rfl) rfl pa_w (plain1 z.1).2.2 (plain1 z.1).1 he rfl) fun Zh σ H Q E P => (da_one (Ψ := fun ds S1 => ds = [.lst m] ∧ S1 = S) he (h _ ⟨rfl, rfl⟩)).tw E fun vs H1 ds S1 k1 g1 s1 r1 l1 q1 => by
    obtain ⟨rfl, rfl⟩ := q1
    obtain ⟨v, t, rfl, rv, t0⟩ := r1.uncons
    cases t0.un0
    obtain ⟨pp, ws, rfl, n1, h6, rl⟩ := rv.lst
    exact ⟨pp, ws, _, m, rfl, .inl (.inl h6), rl, ok, fun ys c hr hc => (P.next E.st k1 g1 s1).lst s1 hr q hc⟩
theorem run_sort1 {oa : Out D} (A : At X P w K mg base tb names k) (G : NoB mg) (hg : glB names "sorted" = true) (hs : isStar a = false) (ha : RunE cls X W a ρ S oa) : RunE cls X W (.Call (.Name "sorted" p) [a] [] pos) ρ S (oa.bind sortO) :=
  run_one ha (fun _ => sortO_nx) (fun x d h Φ q da => de_sortD A G hg (star_no hs) h da q) fun Ξ h => dr_cB A G (id := "sorted") (r := fun _ _ _ => False) (fun _ _ _ _ _ _ _ _ _ h => h.elim) rfl (by rw [hg]; rfl) (star_no hs) rfl (dra_head (star_no hs) h)
end
end Ar
namespace Ar
open PySem PySem.Spec PyProof.Rows L2
/-! ### contracts of k02 -/
def cI2 (P : Int → Int → Prop) (f : Int → Int → D) : Spec := fun ds S Φ => ∃ x y, ds = [.int x, .int y] ∧ P x y ∧ Φ (f x y) S
theorem cI2_i {P : Int → Int → Prop} {f : Int → Int → D} {x y : Int} {S : Sto} {Φ} (h : P x y) (q : Φ (f x y) S) : cI2 P f [.int x, .int y] S Φ := ⟨x, y, rfl, h, q⟩
def cTurnL : Spec := fun ds S Φ => ∃ c q, ds = [ch c, .int q] ∧ Ltr c ∧ Φ (ch (spinN (q % 4).toNat c)) S
theorem cTurnL_i {c : Nat} {q : Int} {S : Sto} {Φ} (h : Ltr c) (k : Φ (ch (spinN (q % 4).toNat c)) S) : cTurnL [ch c, .int q] S Φ := ⟨c, q, rfl, h, k⟩
structure GR (l : List Run) : Prop where
  gd : Gd 2000 l
  len : l.length ≤ 200
theorem Gd.mono {n m : Nat} {l : List Run} (h : Gd n l) (k : n ≤ m) : Gd m l := ⟨fun r hr => ⟨(h.each r hr).1, (h.each r hr).2.1, (h.each r hr).2.2.mono k⟩, h.nb⟩
theorem GR.good {l : List Run} (h : GR l) : GoodR l := gd_good h.gd h.len
theorem GR.bd {l : List Run} (h : GR l) : ∀ r, r ∈ l → Bd 2000 r.2 := fun r hr => (h.gd.each r hr).2.2
theorem GR.ltr {l : List Run} (h : GR l) : LetR l := fun r hr => (h.gd.each r hr).1
theorem GR.pos {l : List Run} (h : GR l) : ∀ r, r ∈ l → 0 < r.2 := fun r hr => (h.gd.each r hr).2.1
theorem GR.both {l : List Run} (h : GR l) : ∀ r, r ∈ l → Ltr r.1 ∧ Bd 2000 r.2 := fun r hr => ⟨h.ltr r hr, h.bd r hr⟩
def cGR (f : List Run → D) : Spec := fun ds S Φ => ∃ l : List Run, ds = [.tup (l.map rn)] ∧ GR l ∧ Φ (f l) S
theorem cGR_i {f : List Run → D} {l : List Run} {S : Sto} {Φ} (h : GR l) (q : Φ (f l) S) : cGR f [.tup (l.map rn)] S Φ := ⟨l, rfl, h, q⟩
/-- of any depth of lists and tuples -/
def cSure (f : List Run → D) : Spec := fun ds S Φ => ∃ d l, ds = [d] ∧ fitD 2 d = true ∧ nrm d = .tup (l.map rn) ∧ GR l ∧ Φ (f l) S
theorem fit_tupR {l : List Run} (h : GR l) : fitD 2 (.tup (l.map rn)) = true := by
  unfold fitD
  rw [fit_runs, Bool.and_true]
  exact Nat.ble_eq.mpr (le_line (m := 200) (by rw [List.length_map]; exact h.len) rfl)
theorem nrm_tupR {l : List Run} : nrm (.tup (l.map rn)) = .tup (l.map rn) := by
  unfold nrm
  rw [nrm_runs]
theorem cSureT_i {f : List Run → D} {l : List Run} {S : Sto} {Φ} (h : GR l) (q : Φ (f l) S) : cSure f [.tup (l.map rn)] S Φ := ⟨_, l, rfl, fit_tupR h, nrm_tupR, h, q⟩
theorem cSureM_i {f : List Run → D} {d : D} {l : List Run} {S : Sto} {Φ} (h1 : fitD 2 d = true) (h2 : nrm d = .tup (l.map rn)) (h : GR l) (q : Φ (f l) S) : cSure f [d] S Φ := ⟨_, l, rfl, h1, h2, h, q⟩
def cTog2 : Spec := fun ds S Φ => ∃ d, ∃ l : List Run, ds = [d] ∧ (d = .lst (l.map rn) ∨ d = .tup (l.map rn)) ∧ l.length ≤ 100 ∧ LetR l ∧ Φ (.tup ((runTog [] l).map rn)) S
theorem cTog2L_i {l : List Run} {S : Sto} {Φ} (h1 : l.length ≤ 100) (h2 : LetR l) (q : Φ (.tup ((runTog [] l).map rn)) S) : cTog2 [.lst (l.map rn)] S Φ := ⟨_, l, rfl, .inl rfl, h1, h2, q⟩
theorem cTog2T_i {l : List Run} {S : Sto} {Φ} (h1 : l.length ≤ 100) (h2 : LetR l) (q : Φ (.tup ((runTog [] l).map rn)) S) : cTog2 [.tup (l.map rn)] S Φ := ⟨_, l, rfl, .inr rfl, h1, h2, q⟩
def sumR (l : List Run) : Int := (l.map (·.2)).sum
theorem sumR_nil : sumR [] = 0 := rfl
theorem sumR_cons {r : Run} {l : List Run} : sumR (r :: l) = r.2 + sumR l := by
  show ((r :: l).map (·.2)).sum = _
  rw [List.map_cons, List.sum_cons]
  rfl
theorem sumR_append : ∀ {l m : List Run}, sumR (l ++ m) = sumR l + sumR m
  | [], m => by rw [List.nil_append, sumR_nil]; omega
  | r :: l, m => by rw [List.cons_append, sumR_cons, sumR_cons, sumR_append]; omega
theorem sumR_nonneg : ∀ {l : List Run}, (∀ r, r ∈ l → 0 ≤ r.2) → 0 ≤ sumR l
  | [], _ => by rw [sumR_nil]; omega
  | r :: l, h => by
    have h1 := h r List.mem_cons_self
    have h2 := sumR_nonneg (l := l) fun u hu => h u (List.mem_cons_of_mem _ hu)
    rw [sumR_cons]
    omega
theorem sumR_mem : ∀ {l : List Run} {r : Run}, (∀ r, r ∈ l → 0 ≤ r.2) → r ∈ l → r.2 ≤ sumR l
  | [], _, _, m => by cases m
  | u :: l, r, h, m => by
    have h1 := h u List.mem_cons_self
    have h2 := sumR_nonneg (l := l) fun u hu => h u (List.mem_cons_of_mem _ hu)
    rw [sumR_cons]
    rcases List.mem_cons.mp m with e | e
    · rw [e]
      omega
    · have := sumR_mem (l := l) (fun u hu => h u (List.mem_cons_of_mem _ hu)) e
      omega
/-- a text of the runs' letters -/
def expand : List Run → List Nat
  | [] => []
  | r :: l => List.replicate r.2.toNat r.1 ++ expand l
theorem expand_ltr : ∀ {l : List Run}, LetR l → LetW (expand l)
  | [], _ => by intro c hc; cases hc
  | r :: l, h => by
    refine LetW.append (fun c hc => ?_) (expand_ltr fun u hu => h u (List.mem_cons_of_mem _ hu))
    rw [(List.mem_replicate.mp hc).2]
    exact h r List.mem_cons_self
theorem expand_len : ∀ {l : List Run}, (∀ r, r ∈ l → 0 ≤ r.2) → ((expand l).length : Int) = sumR l
  | [], _ => rfl
  | r :: l, h => by
    have h1 := h r List.mem_cons_self
    have h2 := expand_len (l := l) fun u hu => h u (List.mem_cons_of_mem _ hu)
    rw [sumR_cons, ← h2]
    show ((List.replicate r.2.toNat r.1 ++ expand l).length : Int) = _
    rw [List.length_append, List.length_replicate]
    omega
theorem expand_append : ∀ {l m : List Run}, expand (l ++ m) = expand l ++ expand m
  | [], _ => rfl
  | r :: l, m => by
    show List.replicate r.2.toNat r.1 ++ expand (l ++ m) = (List.replicate r.2.toNat r.1 ++ expand l) ++ expand m
    rw [expand_append, List.append_assoc]
def cRouteOf : Spec := fun ds S Φ => ∃ l : List Run, ds = [.tup (l.map rn)] ∧ GR l ∧ sumR l ≤ 2000 ∧ Φ (.str (wd (expand l))) S
theorem cRouteOf_i {l : List Run} {S : Sto} {Φ} (h : GR l) (h2 : sumR l ≤ 2000) (q : Φ (.str (wd (expand l))) S) : cRouteOf [.tup (l.map rn)] S Φ := ⟨l, rfl, h, h2, q⟩
def ones (cs : List Nat) : List Run := cs.map fun c => (c, 1)
def cRunsOf : Spec := fun ds S Φ => ∃ cs, ds = [.str (wd cs)] ∧ LetW cs ∧ cs.length ≤ 100 ∧ Φ (.tup ((runTog [] (ones cs)).map rn)) S
theorem cRunsOf_i {cs : List Nat} {S : Sto} {Φ} (h : LetW cs) (h2 : cs.length ≤ 100) (q : Φ (.tup ((runTog [] (ones cs)).map rn)) S) : cRunsOf [.str (wd cs)] S Φ := ⟨cs, rfl, h, h2, q⟩
def back (l : List Run) : List Run := l.reverse.map fun r => (spinN 2 r.1, r.2)
def cJoinR : Spec := fun ds S Φ => ∃ l m : List Run, ds = [.tup (l.map rn), .tup (m.map rn)] ∧ GR l ∧ GR m ∧ l.length + m.length ≤ 100 ∧ Φ (.tup ((runTog [] (l ++ m)).map rn)) S
theorem cJoinR_i {l m : List Run} {S : Sto} {Φ} (h : GR l) (k : GR m) (h2 : l.length + m.length ≤ 100) (q : Φ (.tup ((runTog [] (l ++ m)).map rn)) S) : cJoinR [.tup (l.map rn), .tup (m.map rn)] S Φ := ⟨l, m, rfl, h, k, h2, q⟩
/-- the first steps of runs -/
def stepL : List Run → Int → List Run
  | [], _ => []
  | r :: l, n => (r.1, min r.2 n) :: stepL l (n - min r.2 n)
def cStep : Spec := fun ds S Φ => ∃ (l : List Run) (n : Int), ds = [.tup (l.map rn), .int n] ∧ Gd 1800 l ∧ l.length ≤ 100 ∧ 0 ≤ n ∧ n ≤ sumR l ∧ Φ (d3 (doR (stepL l n) (0, 0, 0))) S
theorem cStep_i {l : List Run} {n : Int} {S : Sto} {Φ} (h1 : Gd 1800 l) (h2 : l.length ≤ 100) (h3 : 0 ≤ n) (h4 : n ≤ sumR l) (q : Φ (d3 (doR (stepL l n) (0, 0, 0))) S) : cStep [.tup (l.map rn), .int n] S Φ := ⟨l, n, rfl, h1, h2, h3, h4, q⟩
def cDoR : Spec := fun ds S Φ => ∃ l : List Run, ds = [.tup (l.map rn)] ∧ LetR l ∧ l.length ≤ 200 ∧ (∀ r, r ∈ l → Bd 2000 r.2) ∧ Φ (d3 (doR l (0, 0, 0))) S
theorem cDoR_i {l : List Run} {S : Sto} {Φ} (h : LetR l) (h2 : l.length ≤ 200) (hb : ∀ r, r ∈ l → Bd 2000 r.2) (q : Φ (d3 (doR l (0, 0, 0))) S) : cDoR [.tup (l.map rn)] S Φ := ⟨l, rfl, h, h2, hb, q⟩
def cRunsN : Spec := fun ds S Φ => ∃ p b l R n top, ds = [.cell p, .int n, .int top] ∧ S = (p, l) :: R ∧ Tin b l ∧ b ≤ 100000 ∧ (0 ≤ n ∧ n ≤ 20) ∧ 0 < top ∧ Bd 100 top ∧ ∀ (m : List Run) l', Gd 200 m → (∀ r, r ∈ m → r.2 ≤ top) → (m.length : Int) = n → Tin (b + 2 * n.toNat) l' → Φ (.tup (m.map rn)) ((p, l') :: R)
theorem cRunsN_i {p : Addr} {b : Nat} {l : List D} {R : Sto} {n top : Int} {Φ} (h1 : Tin b l) (h2 : b ≤ 100000) (h3 : 0 ≤ n ∧ n ≤ 20) (h4 : 0 < top) (h5 : Bd 100 top) (q : ∀ (m : List Run) l', Gd 200 m → (∀ r, r ∈ m → r.2 ≤ top) → (m.length : Int) = n → Tin (b + 2 * n.toNat) l' → Φ (.tup (m.map rn)) ((p, l') :: R)) : cRunsN [.cell p, .int n, .int top] ((p, l) :: R) Φ := ⟨p, b, l, R, n, top, rfl, rfl, h1, h2, h3, h4, h5, q⟩
mutual
def cntD : D → Nat
  | .tup l => cntL l + 1
  | _ => 0
def cntL : List D → Nat
  | [] => 0
  | d :: l => cntD d + cntL l
end
mutual
/-- tuples alone, of depth at most n -/
def tupO : Nat → D → Bool
  | n + 1, .tup l => Nat.ble l.length sizeLine && tupOL n l
  | 0, .tup _ => false
  | _, .lst _ => false
  | _, .frz _ => false
  | _, .cell _ => false
  | _, .dct _ _ => false
  | _, .rng _ _ => false
  | _, _ => true
def tupOL : Nat → List D → Bool
  | _, [] => true
  | n, d :: l => tupO n d && tupOL n l
end
def cMixed (n : Nat) : Spec := fun ds S Φ => ∃ p b l R d, ds = [.cell p, d] ∧ S = (p, l) :: R ∧ Tin b l ∧ b + cntD d ≤ 100000 ∧ tupO n d = true ∧ ∀ d' l', fitD n d' = true → nrm d' = nrm d → Tin (b + cntD d) l' → Φ d' ((p, l') :: R)
theorem cMixed_i {n : Nat} {p : Addr} {b : Nat} {l : List D} {R : Sto} {d : D} {Φ} (h1 : Tin b l) (h2 : b + cntD d ≤ 100000) (h3 : tupO n d = true) (q : ∀ d' l', fitD n d' = true → nrm d' = nrm d → Tin (b + cntD d) l' → Φ d' ((p, l') :: R)) : cMixed n [.cell p, d] ((p, l) :: R) Φ := ⟨p, b, l, R, d, rfl, rfl, h1, h2, h3, q⟩
theorem tupO_runs : ∀ l : List Run, tupOL 1 (l.map rn) = true
  | [] => by simp [tupOL]
  | r :: l => by
    rw [List.map_cons]
    unfold tupOL
    rw [tupO_runs l, Bool.and_true]
    rfl
theorem tupO_tup {l : List Run} (h : l.length ≤ 200) : tupO 2 (.tup (l.map rn)) = true := by
  unfold tupO
  rw [tupO_runs, Bool.and_true]
  exact Nat.ble_eq.mpr (le_line (m := 200) (by rw [List.length_map]; exact h) rfl)
theorem cnt_runs : ∀ l : List Run, cntL (l.map rn) = l.length
  | [] => by simp [cntL]
  | r :: l => by
    rw [List.map_cons]
    unfold cntL
    rw [cnt_runs l, List.length_cons]
    show cntD (rn r) + l.length = _
    have : cntD (rn r) = 1 := by simp [cntD, cntL]
    omega
/-! ### the plain law -/
theorem runTog_append : ∀ (l m acc : List Run), runTog acc (l ++ m) = runTog (runTog acc l) m
  | [], _, _ => by simp [runTog]
  | r :: l, m, acc => by
    rw [List.cons_append]
    by_cases hk : 0 < r.2
    · rcases nil_or_last acc with rfl | ⟨ini, u, rfl⟩
      · rw [runTog_nil hk, runTog_nil hk]
        exact runTog_append l m _
      · by_cases e : u.1 = r.1
        · rw [runTog_eq hk e, runTog_eq hk e]
          exact runTog_append l m _
        · rw [runTog_ne hk e, runTog_ne hk e]
          exact runTog_append l m _
    · rw [runTog_skip hk, runTog_skip hk]
      exact runTog_append l m _
theorem nb_mid {ini : List Nat} {a b : Nat} {r : List Nat} (h : Nb (ini ++ [a] ++ b :: r)) : a ≠ b := by
  refine h ini.length a b ?_ ?_
  · rw [List.append_assoc, List.getElem?_append_right (Nat.le_refl _), Nat.sub_self]
    rfl
  · rw [List.append_assoc, List.getElem?_append_right (by omega)]
    simp
theorem runTog_nb : ∀ (l acc : List Run), (∀ r, r ∈ l → 0 < r.2) → Nb ((acc ++ l).map (·.1)) → runTog acc l = acc ++ l
  | [], acc, _, _ => by simp [runTog]
  | r :: l, acc, hp, hn => by
    have hk := hp r List.mem_cons_self
    have hp' : ∀ u, u ∈ l → 0 < u.2 := fun u hu => hp u (List.mem_cons_of_mem _ hu)
    rcases nil_or_last acc with rfl | ⟨ini, u, rfl⟩
    · rw [runTog_nil hk, runTog_nb l [r] hp' hn]
      rfl
    · have e : u.1 ≠ r.1 := by
        have hn2 := hn
        rw [List.map_append, List.map_append] at hn2
        exact nb_mid hn2
      rw [runTog_ne hk e, runTog_nb l _ hp' (by rw [List.append_assoc]; exact hn), List.append_assoc]
      rfl
theorem GR.tog {l : List Run} (h : GR l) : runTog [] l = l := by
  rw [runTog_nb l [] h.pos (by rw [List.nil_append]; exact h.gd.nb)]
  rfl
theorem joinT_assoc (a b c : T3) : joinT (joinT a b) c = joinT a (joinT b c) := by
  obtain ⟨a1, a2, a3⟩ := a
  obtain ⟨b1, b2, b3⟩ := b
  obtain ⟨c1, c2, c3⟩ := c
  simp only [joinT, Prod.mk.injEq]
  refine ⟨?_, ?_, ?_⟩ <;> grind
theorem joinT_zero (a : T3) : joinT a (0, 0, 0) = a := by
  obtain ⟨a1, a2, a3⟩ := a
  simp [joinT]
theorem zero_joinT (a : T3) : joinT (0, 0, 0) a = a := by
  obtain ⟨a1, a2, a3⟩ := a
  simp [joinT]
theorem doR_from : ∀ (l : List Run) (t : T3), doR l t = joinT t (doR l (0, 0, 0))
  | [], t => (joinT_zero t).symm
  | r :: l, t => by
    show doR l _ = joinT t (doR l _)
    rw [doR_from l, doR_from l (0 + dx r.1 * r.2, _, _), ← joinT_assoc]
    congr 1
    obtain ⟨x, y, z⟩ := t
    simp only [joinT, Prod.mk.injEq]
    refine ⟨?_, ?_, ?_⟩ <;> grind
theorem doR_join (l m : List Run) : doR (l ++ m) (0, 0, 0) = joinT (doR l (0, 0, 0)) (doR m (0, 0, 0)) := by
  rw [doR_append, doR_from m]
theorem opp_d {c : Nat} (h : Ltr c) : dx (spinN 2 c) = -dx c ∧ dy (spinN 2 c) = -dy c := by
  rcases h with rfl | rfl | rfl | rfl <;> decide
theorem back_do : ∀ (l : List Run), LetR l → joinT (doR l (0, 0, 0)) (doR (back l) (0, 0, 0)) = (0, 0, 0)
  | [], _ => rfl
  | r :: l, h => by
    have ih := back_do l fun u hu => h u (List.mem_cons_of_mem _ hu)
    have e1 : back (r :: l) = back l ++ [(spinN 2 r.1, r.2)] := by
      unfold back
      rw [List.reverse_cons, List.map_append]
      rfl
    have e2 : doR (r :: l) (0, 0, 0) = joinT (doR [r] (0, 0, 0)) (doR l (0, 0, 0)) := doR_join [r] l
    rw [e1, doR_join, e2, joinT_assoc, ← joinT_assoc (doR l (0, 0, 0)), ih, zero_joinT]
    obtain ⟨h1, h2⟩ := opp_d (h r List.mem_cons_self)
    have h3 := dxdy (h r List.mem_cons_self)
    show joinT (0 + dx r.1 * r.2, 0 + dy r.1 * r.2, 0 + 0 * dy r.1 * r.2) (0 + dx (spinN 2 r.1) * r.2, 0 + dy (spinN 2 r.1) * r.2, 0 + 0 * dy (spinN 2 r.1) * r.2) = _
    rw [h1, h2]
    simp only [joinT, Prod.mk.injEq]
    refine ⟨?_, ?_, ?_⟩
    · grind
    · grind
    · grind
theorem back_ltr {l : List Run} (h : LetR l) : LetR (back l) := fun r hr => by
  obtain ⟨u, hu, rfl⟩ := List.mem_map.mp hr
  exact ltr_spinN 2 (h u (List.mem_reverse.mp hu))
theorem doW_rep {c : Nat} (h : Ltr c) : ∀ (n : Nat) (t : T3), doW (List.replicate n c) t = doR [(c, (n : Int))] t
  | 0, t => by
    obtain ⟨x, y, z⟩ := t
    show (x, y, z) = (x + dx c * 0, y + dy c * 0, z + x * dy c * 0)
    simp
  | n + 1, t => by
    obtain ⟨x, y, z⟩ := t
    have h3 := dxdy h
    show doW (List.replicate n c) _ = _
    rw [doW_rep h n]
    show (x + dx c + dx c * (n : Int), y + dy c + dy c * (n : Int), z + x * dy c + (x + dx c) * dy c * (n : Int)) = (x + dx c * ((n + 1 : Nat) : Int), y + dy c * ((n + 1 : Nat) : Int), z + x * dy c * ((n + 1 : Nat) : Int))
    have e : ((n + 1 : Nat) : Int) = (n : Int) + 1 := rfl
    rw [e]
    simp only [Prod.mk.injEq]
    refine ⟨?_, ?_, ?_⟩ <;> grind
theorem doW_expand : ∀ (l : List Run) (t : T3), LetR l → (∀ r, r ∈ l → 0 ≤ r.2) → doW (expand l) t = doR l t
  | [], _, _, _ => rfl
  | r :: l, t, h, h0 => by
    show doW (List.replicate r.2.toNat r.1 ++ expand l) t = doR l _
    rw [doW_append, doW_expand l _ (fun u hu => h u (List.mem_cons_of_mem _ hu)) (fun u hu => h0 u (List.mem_cons_of_mem _ hu)), doW_rep (h r List.mem_cons_self)]
    congr 1
    have e : ((r.2.toNat : Nat) : Int) = r.2 := by have := h0 r List.mem_cons_self; omega
    rw [e]
    rfl
theorem tog_ones {c : Nat} : ∀ (n : Nat) (k : Int) (ini rest : List Run), 0 < k → runTog (ini ++ [(c, k)]) (ones (List.replicate n c) ++ rest) = runTog (ini ++ [(c, k + n)]) rest
  | 0, k, ini, rest, _ => by
    show runTog (ini ++ [(c, k)]) rest = _
    rw [show k + ((0 : Nat) : Int) = k by omega]
  | n + 1, k, ini, rest, hk => by
    show runTog (ini ++ [(c, k)]) ((c, 1) :: (ones (List.replicate n c) ++ rest)) = _
    rw [runTog_eq (r := (c, 1)) (u := (c, k)) (show (0 : Int) < 1 by decide) rfl, tog_ones n (k + 1) ini rest (by omega)]
    rw [show k + 1 + (n : Int) = k + ((n + 1 : Nat) : Int) by omega]
theorem tog_expand : ∀ (l acc : List Run), (∀ r, r ∈ l → 0 < r.2) → Nb ((acc ++ l).map (·.1)) → runTog acc (ones (expand l)) = acc ++ l
  | [], acc, _, _ => by simp [expand, ones, runTog]
  | r :: l, acc, hp, hn => by
    have hk := hp r List.mem_cons_self
    have hp' : ∀ u, u ∈ l → 0 < u.2 := fun u hu => hp u (List.mem_cons_of_mem _ hu)
    obtain ⟨n, hn2⟩ : ∃ n : Nat, r.2.toNat = n + 1 := ⟨r.2.toNat - 1, by omega⟩
    have e1 : ones (expand (r :: l)) = (r.1, 1) :: (ones (List.replicate n r.1) ++ ones (expand l)) := by
      show ones (List.replicate r.2.toNat r.1 ++ expand l) = _
      rw [hn2, List.replicate_succ]
      unfold ones
      rw [List.map_append]
      rfl
    have e3 : (1 : Int) + (n : Int) = r.2 := by omega
    rw [e1]
    rcases nil_or_last acc with rfl | ⟨ini, u, rfl⟩
    · rw [runTog_nil (r := (r.1, 1)) (show (0 : Int) < 1 by decide)]
      show runTog ([] ++ [(r.1, 1)]) _ = _
      rw [tog_ones n 1 [] _ (by decide), e3]
      show runTog [r] _ = _
      rw [tog_expand l [r] hp' hn]
      rfl
    · have e : u.1 ≠ r.1 := by
        have hn2 := hn
        rw [List.map_append, List.map_append] at hn2
        exact nb_mid hn2
      rw [runTog_ne (r := (r.1, 1)) (show (0 : Int) < 1 by decide) e, tog_ones n 1 _ _ (by decide), e3]
      show runTog (ini ++ [u] ++ [r]) _ = _
      rw [tog_expand l _ hp' (by rw [List.append_assoc]; exact hn), List.append_assoc]
      rfl
theorem GR.word {l : List Run} (h : GR l) : runTog [] (ones (expand l)) = l := by
  rw [tog_expand l [] h.pos (by rw [List.nil_append]; exact h.gd.nb)]
  rfl
theorem doR_zeros : ∀ (l : List Run) (t : T3), doR (l.map fun r => (r.1, 0)) t = t
  | [], _ => rfl
  | r :: l, t => by
    obtain ⟨x, y, z⟩ := t
    show doR (l.map fun r => (r.1, 0)) (x + dx r.1 * 0, y + dy r.1 * 0, z + x * dy r.1 * 0) = _
    rw [doR_zeros l]
    simp
theorem stepL_zero : ∀ (l : List Run), (∀ r, r ∈ l → 0 < r.2) → stepL l 0 = l.map fun r => (r.1, 0)
  | [], _ => rfl
  | r :: l, h => by
    have hk := h r List.mem_cons_self
    have ih := stepL_zero l fun u hu => h u (List.mem_cons_of_mem _ hu)
    show (r.1, min r.2 0) :: stepL l (0 - min r.2 0) = (r.1, 0) :: _
    rw [show min r.2 0 = 0 by omega, show (0 : Int) - 0 = 0 by rfl, ih]
theorem stepL_all : ∀ (l : List Run), (∀ r, r ∈ l → 0 < r.2) → stepL l (sumR l) = l
  | [], _ => rfl
  | r :: l, h => by
    have hk := h r List.mem_cons_self
    have hp' : ∀ u, u ∈ l → 0 < u.2 := fun u hu => h u (List.mem_cons_of_mem _ hu)
    have ih := stepL_all l hp'
    have h0 := sumR_nonneg (l := l) fun u hu => Int.le_of_lt (hp' u hu)
    show (r.1, min r.2 (sumR (r :: l))) :: stepL l (sumR (r :: l) - min r.2 (sumR (r :: l))) = r :: l
    rw [sumR_cons, show min r.2 (r.2 + sumR l) = r.2 by omega, show r.2 + sumR l - r.2 = sumR l by omega, ih]
theorem stepL_mid : ∀ (a : List Run) (r : Run) (z : List Run) (n : Int), (∀ u, u ∈ a ++ r :: z → 0 < u.2) → 0 ≤ n → n ≤ r.2 → stepL (a ++ r :: z) (sumR a + n) = a ++ (r.1, n) :: z.map fun r => (r.1, 0)
  | [], r, z, n, h, h0, h1 => by
    show (r.1, min r.2 (sumR [] + n)) :: stepL z (sumR [] + n - min r.2 (sumR [] + n)) = _
    rw [sumR_nil, show (0 : Int) + n = n by omega, show min r.2 n = n by omega, show n - n = 0 by omega, stepL_zero z fun u hu => h u (List.mem_cons_of_mem _ hu)]
    rfl
  | v :: a, r, z, n, h, h0, h1 => by
    have hp' : ∀ u, u ∈ a ++ r :: z → 0 < u.2 := fun u hu => h u (List.mem_cons_of_mem _ hu)
    have hv := h v List.mem_cons_self
    have h2 := sumR_nonneg (l := a) fun u hu => Int.le_of_lt (hp' u (List.mem_append_left _ hu))
    show (v.1, min v.2 (sumR (v :: a) + n)) :: stepL (a ++ r :: z) (sumR (v :: a) + n - min v.2 (sumR (v :: a) + n)) = _
    rw [sumR_cons, show min v.2 (v.2 + sumR a + n) = v.2 by omega, show v.2 + sumR a + n - v.2 = sumR a + n by omega, stepL_mid a r z n hp' h0 h1]
    rfl
theorem expand_take (a : List Run) (r : Run) (z : List Run) (n : Int) (h : ∀ u, u ∈ a ++ r :: z → 0 < u.2) (h0 : 0 ≤ n) (h1 : n ≤ r.2) : (expand (a ++ r :: z)).take (sumR a + n).toNat = expand (a ++ [(r.1, n)]) := by
  have ha : ∀ u, u ∈ a → 0 ≤ u.2 := fun u hu => Int.le_of_lt (h u (List.mem_append_left _ hu))
  have hl := expand_len ha
  have h2 := sumR_nonneg ha
  rw [expand_append, expand_append, List.take_append]
  have e1 : (sumR a + n).toNat = (expand a).length + n.toNat := by omega
  rw [e1, List.take_of_length_le (by omega), show (expand a).length + n.toNat - (expand a).length = n.toNat by omega]
  congr 1
  show (List.replicate r.2.toNat r.1 ++ expand z).take n.toNat = List.replicate n.toNat r.1 ++ []
  rw [List.append_nil, List.take_append, List.length_replicate, List.take_replicate, show n.toNat - r.2.toNat = 0 by omega, List.take_zero, List.append_nil, show min n.toNat r.2.toNat = n.toNat by omega]
theorem split_at {l : List Run} {k : Nat} {r : Run} (h : l[k]? = some r) : l = l.take k ++ r :: l.drop (k + 1) := by
  obtain ⟨hk, e⟩ := List.getElem?_eq_some_iff.mp h
  have : l.drop k = r :: l.drop (k + 1) := by rw [List.drop_eq_getElem_cons hk, e]
  rw [← this, List.take_append_drop]
theorem mul_one_sign {c : Nat} {n : Int} (h0 : 0 ≤ n) (h1 : n ≤ 100000) : MulOk ⟨#[c]⟩ n ∧ Txt.mul ⟨#[c]⟩ n = wd (List.replicate n.toNat c) := by
  refine ⟨⟨?_, fun h2 h3 => ?_, fun h2 h3 => ?_⟩, ?_⟩
  · rw [Bool.or_eq_false_iff]
    exact ⟨decide_eq_false (by omega), decide_eq_false (by omega)⟩
  · show ¬ ((1 : Int) > (2 ^ 63 - 1) / n)
    have : 1 ≤ (2 ^ 63 - 1) / n := by
      rw [Int.le_ediv_iff_mul_le (by omega)]
      omega
    omega
  · show Builtin.Str.tooLong (1 * n.toNat) = false
    unfold Builtin.Str.tooLong
    rw [decide_eq_false]
    have e := sizeLine_eq
    omega
  · unfold Txt.mul
    by_cases h2 : n < 1
    · rw [if_pos h2]
      have : n = 0 := by omega
      subst this
      rfl
    · rw [if_neg h2]
      split
      · rename_i h3
        have h4 : n = 1 := by
          rw [Bool.or_eq_true] at h3
          rcases h3 with h3 | h3
          · exact eq_of_beq h3
          · cases h3
        subst h4
        rfl
      · congr 1
        generalize n.toNat = m
        have go : ∀ (m : Nat) (acc : Array Nat), (List.replicate m (#[c] : Array Nat)).foldl (· ++ ·) acc = acc ++ (List.replicate m c).toArray := by
          intro m
          induction m with
          | zero => intro acc; simp
          | succ m ih =>
            intro acc
            rw [List.replicate_succ, List.foldl_cons, ih, List.replicate_succ]
            apply Array.ext'
            simp
        rw [go]
        simp
end Ar
namespace Ar
open PySem PySem.Spec PyProof.Rows L2
/-! ### helps for k02's walk -/
theorem ones_ltr {cs : List Nat} (h : LetW cs) : LetR (ones cs) := fun r hr => by
  obtain ⟨c, hc, rfl⟩ := List.mem_map.mp hr
  exact h c hc
theorem gd_nil {n : Nat} : Gd n [] := ⟨(by intro r hr; cases hr), (by intro i a b h1 h2; simp at h1)⟩
theorem ones_len {cs : List Nat} (h : LetW cs) : (runTog [] (ones cs)).length ≤ cs.length := by
  have := (tog_good (ones cs) [] 2000 (fun r hr => by
    obtain ⟨c, hc, rfl⟩ := List.mem_map.mp hr
    exact ⟨h c hc, Bd.lit (n := 2000) rfl⟩) gd_nil).2
  unfold ones at this ⊢
  rw [List.length_map] at this
  simpa using this
theorem ones_rn {cs : List Nat} : (charsD (wd cs)).map (fun d => D.tup [d, .int 1]) = (ones cs).map rn := by
  rw [chars_wd]
  unfold ones
  rw [List.map_map, List.map_map]
  rfl
def sndD : D → D
  | .tup [_, b] => b
  | d => d
theorem snd_rn {l : List Run} : (l.map rn).map sndD = (l.map (·.2)).map D.int := by
  rw [List.map_map, List.map_map]
  rfl
def mulD : D → D
  | .tup [.str z, .int n] => .str (Txt.mul z n)
  | d => d
theorem mul_rn {l : List Run} (h : ∀ r, r ∈ l → 0 ≤ r.2 ∧ r.2 ≤ 100000) : (l.map rn).map mulD = (l.map fun r => wd (List.replicate r.2.toNat r.1)).map D.str := by
  rw [List.map_map, List.map_map]
  refine List.map_congr_left fun r hr => ?_
  obtain ⟨h1, h2⟩ := h r hr
  show D.str (Txt.mul ⟨#[r.1]⟩ r.2) = _
  rw [(mul_one_sign h1 h2).2]
  rfl
theorem exp_sum : ∀ l : List Run, ((l.map fun r => wd (List.replicate r.2.toNat r.1)).map (·.length)).sum = (expand l).length
  | [] => rfl
  | r :: l => by
    rw [List.map_cons, List.map_cons, List.sum_cons, exp_sum l, wd_len]
    show _ = (List.replicate r.2.toNat r.1 ++ expand l).length
    rw [List.length_append]
theorem sjoin_exp : ∀ l : List Run, Str.join (Str.ofString "") (l.map fun r => wd (List.replicate r.2.toNat r.1)) = wd (expand l)
  | [] => rfl
  | [r] => by
    show wd (List.replicate r.2.toNat r.1) = wd (List.replicate r.2.toNat r.1 ++ [])
    rw [List.append_nil]
  | r :: u :: l => by
    have h := sjoin_exp (u :: l)
    rw [List.map_cons] at h
    show wd (List.replicate r.2.toNat r.1) ++ (Str.ofString "") ++ Str.join (Str.ofString "") (wd (List.replicate u.2.toNat u.1) :: l.map _) = _
    rw [h, str_nil, wd_append]
    rfl
theorem join_exp (l : List Run) : Txt.join (Str.ofString "") (l.map fun r => wd (List.replicate r.2.toNat r.1)) = wd (expand l) := by
  show Builtin.Str.glued (Str.ofString "") _ = _
  rw [StrLaws.glued_eq_join]
  exact sjoin_exp l
def backD : D → D
  | .tup [.str z, n] => .tup [ch (spinN 2 (z.cps.getD 0 0)), n]
  | d => d
theorem back_rn {l : List Run} : (l.map rn).reverse.map backD = (back l).map rn := by
  unfold back
  rw [← List.map_reverse, List.map_map, List.map_map]
  rfl
theorem stepL_ltr : ∀ {l : List Run} (n : Int), LetR l → LetR (stepL l n)
  | [], _, _ => by intro r hr; cases hr
  | u :: l, n, h => fun r hr => by
    rcases List.mem_cons.mp hr with e | e
    · rw [e]
      exact h u List.mem_cons_self
    · exact stepL_ltr _ (fun v hv => h v (List.mem_cons_of_mem _ hv)) r e
theorem stepL_each : ∀ {l : List Run} {n : Int}, Gd 1800 l → 0 ≤ n → ∀ r, r ∈ stepL l n → 0 ≤ r.2 ∧ Bd 1800 r.2
  | [], _, _, _ => by intro r hr; cases hr
  | u :: l, n, h, h0 => fun r hr => by
    obtain ⟨_, hu, hb⟩ := h.each u List.mem_cons_self
    rcases List.mem_cons.mp hr with e | e
    · rw [e]
      exact ⟨by show 0 ≤ min u.2 n; omega, Bd.le (y := u.2) (by show 0 ≤ min u.2 n; omega) (by show min u.2 n ≤ u.2; omega) hb⟩
    · refine stepL_each (l := l) ⟨fun v hv => h.each v (List.mem_cons_of_mem _ hv), fun i a b h1 h2 => ?_⟩ (by omega) r e
      have h3 := h.nb
      rw [List.map_cons] at h3
      exact h3 (i + 1) a b (by rw [List.getElem?_cons_succ]; exact h1) (by rw [List.getElem?_cons_succ]; exact h2)
theorem step_good {l : List Run} {n : Int} (hg : Gd 1800 l) (hz : (stepL l n).length ≤ 100) (h0 : 0 ≤ n) : doR (runTog [] (stepL l n)) (0, 0, 0) = doR (stepL l n) (0, 0, 0) ∧ (∀ r, r ∈ runTog [] (stepL l n) → Ltr r.1 ∧ Bd 2000 r.2) ∧ (runTog [] (stepL l n)).length ≤ 200 := by
  have hl : LetR l := fun r hr => (hg.each r hr).1
  have hw := stepL_ltr n hl
  have he := stepL_each hg h0
  obtain ⟨a, b⟩ := tog_good (stepL l n) [] 1800 (fun r hr => ⟨hw r hr, (he r hr).2⟩) gd_nil
  rw [List.length_nil] at b
  exact ⟨doR_tog _ _ hw (fun r hr => (he r hr).1) (by intro r hr; cases hr), fun r hr => ⟨(a.each r hr).1, (a.each r hr).2.2.mono (by omega)⟩, by omega⟩
theorem do_p21 {X : Cx} {S : Sto} {Φ : D → Sto → Prop} (q : Φ (.int 1000000000000000000000) S) : DO X (binaryOp .Pow) (.int 10) (.int 21) S Φ := do_pow ⟨by decide, by decide, by decide⟩ q
theorem fitL_snoc {n : Nat} : ∀ {l : List D} {d : D}, fitL n l = true → fitD n d = true → fitL n (l ++ [d]) = true
  | [], d, _, h => by
    show fitL n [d] = true
    unfold fitL
    rw [h]
    unfold fitL
    rfl
  | c :: l, d, h, k => by
    unfold fitL at h
    rw [Bool.and_eq_true] at h
    show fitL n (c :: (l ++ [d])) = true
    unfold fitL
    rw [h.1, fitL_snoc h.2 k]
    rfl
theorem nrmL_append {l m : List D} : nrmL (l ++ m) = nrmL l ++ nrmL m := by
  rw [nrmL_map, nrmL_map, nrmL_map, List.map_append]
theorem tupO_in {n : Nat} {l : List D} (h : tupOL n l = true) : ∀ d, d ∈ l → tupO n d = true := fun d hd => by
  induction l with
  | nil => cases hd
  | cons c l ih =>
    unfold tupOL at h
    rw [Bool.and_eq_true] at h
    rcases List.mem_cons.mp hd with e | e
    · rw [e]; exact h.1
    · exact ih h.2 e
theorem asg_par3l {X : Cx} {t a b : Expr} {es : List Expr} {k2 : Nat} {q p2 pos : Pos} {ρ : Ro} {S : Sto} {E : DEnds} (h : DS X (.Assign [t] (.Tuple [a, b, .List es q] k2 p2) pos) ρ S E) : DS X (.Assign [t] (.Tuple [a, b, .List es q] k2 p2) pos) ρ S E := h
theorem asg_par2l {X : Cx} {t a : Expr} {es : List Expr} {k2 : Nat} {q p2 pos : Pos} {ρ : Ro} {S : Sto} {E : DEnds} (h : DS X (.Assign [t] (.Tuple [a, .List es q] k2 p2) pos) ρ S E) : DS X (.Assign [t] (.Tuple [a, .List es q] k2 p2) pos) ρ S E := h
theorem asg_par3a {X : Cx} {t a b : Expr} {es : List Expr} {k2 : Nat} {q p2 pos : Pos} {ρ : Ro} {S : Sto} {E : DEnds} (h : DS X (.Assign [t] (.Tuple [.List es q, a, b] k2 p2) pos) ρ S E) : DS X (.Assign [t] (.Tuple [.List es q, a, b] k2 p2) pos) ρ S E := h
def goodsF (acc : List Run) (m : List Nat) : List Nat := m.filter fun o => match acc.getLast? with | some u => !decide (o = u.1) | none => true
theorem goodsF_nil {m : List Nat} : goodsF [] m = m := by
  unfold goodsF
  exact List.filter_eq_self.mpr fun _ _ => rfl
theorem goodsF_last {ini : List Run} {u : Run} {m : List Nat} : goodsF (ini ++ [u]) m = m.filter fun o => !decide (o = u.1) := by
  unfold goodsF
  rw [List.getLast?_concat]
theorem goodsF_mem {acc : List Run} {o : Nat} (h : o ∈ goodsF acc [114, 117, 108, 100]) : Ltr o ∧ ∀ ini u, acc = ini ++ [u] → u.1 ≠ o := by
  unfold goodsF at h
  obtain ⟨h1, h2⟩ := List.mem_filter.mp h
  refine ⟨?_, fun ini u e => ?_⟩
  · simp only [List.mem_cons, List.not_mem_nil, or_false] at h1
    exact h1
  · subst e
    rw [List.getLast?_concat] at h2
    simp only [Bool.not_eq_true', decide_eq_false_iff_not] at h2
    exact fun q => h2 q.symm
theorem goodsF_len {acc : List Run} (h : LetR acc) : 1 ≤ (goodsF acc [114, 117, 108, 100]).length ∧ (goodsF acc [114, 117, 108, 100]).length ≤ 4 := by
  rcases nil_or_last acc with rfl | ⟨ini, u, rfl⟩
  · rw [goodsF_nil]
    exact ⟨by decide, by decide⟩
  · rw [goodsF_last]
    rcases h u (List.mem_append_right _ (List.mem_singleton.mpr rfl)) with e | e | e | e <;> rw [e] <;> exact ⟨by decide, by decide⟩
theorem atI_map {α β : Type} {f : α → β} {l : List α} {i : Int} {e : α} (h : atI l i = some e) : atI (l.map f) i = some (f e) := by
  unfold atI at h ⊢
  rw [List.length_map]
  cases hj : ixN l.length i with
  | none => rw [hj] at h; cases h
  | some j =>
    rw [hj] at h
    show (l.map f)[j]? = _
    have h2 : l[j]? = some e := h
    rw [List.getElem?_map, h2]
    rfl
theorem gd_snoc {n : Nat} {acc : List Run} {o : Nat} {k : Int} (h : Gd n acc) (ho : Ltr o) (hk : 0 < k) (hb : Bd n k) (hn : ∀ ini u, acc = ini ++ [u] → u.1 ≠ o) : Gd n (acc ++ [(o, k)]) := by
  refine ⟨fun r hr => ?_, ?_⟩
  · rcases List.mem_append.mp hr with q | q
    · exact h.each r q
    · rw [List.mem_singleton.mp q]
      exact ⟨ho, hk, hb⟩
  · rcases nil_or_last acc with rfl | ⟨ini, u, rfl⟩
    · intro i a b h1 h2
      have := (List.getElem?_eq_some_iff.mp h2).1
      simp at this
    · have h2 := h.nb
      rw [List.map_append] at h2
      rw [List.map_append, List.map_append]
      exact nb_snoc h2 (hn ini u rfl)
end Ar
namespace Ar
open PySem PySem.Spec PyProof.Rows L2
/-! ### maps of all deeds -/
abbrev mpi (a b c p q r : Int) : D := .tup [t3 a b c, t3 p q r]
abbrev mp (u v : T3) : D := .tup [d3 u, d3 v]
def timesT (k : Int) (t : T3) : T3 := (k * t.1, k * t.2.1, k * t.2.2 + k * (k - 1) / 2 * t.1 * t.2.1)
def crossT (u v : T3) : Int := u.1 * v.2.1 - u.2.1 * v.1
def ledT (u v t : T3) : T3 := ((joinT (timesT t.2.1 v) (timesT t.1 u)).1, (joinT (timesT t.2.1 v) (timesT t.1 u)).2.1, (joinT (timesT t.2.1 v) (timesT t.1 u)).2.2 + crossT u v * t.2.2)
def srcT (u v g : T3) : T3 := (crossT u v * crossT g v, crossT u v * crossT u g, crossT u v * (g.2.2 - (ledT u v (crossT u v * crossT g v, crossT u v * crossT u g, 0)).2.2))
abbrev RG : T3 := (1, 0, 0)
abbrev UPt : T3 := (0, 1, 0)
abbrev M2 := T3 × T3
def compM (a b : M2) : M2 := (ledT b.1 b.2 a.1, ledT b.1 b.2 a.2)
abbrev STL : M2 := (RG, UPt)
def itM (a : M2) : Nat → M2
  | 0 => STL
  | n + 1 => compM (itM a n) a
theorem pr_mul (k x : Int) : Pr (k * x) = k * Pr x + Pr k * (x * x) := by
  have h1 := pr_two (k * x)
  have h2 := pr_two k
  have h3 := pr_two x
  have h : 2 * Pr (k * x) = 2 * (k * Pr x + Pr k * (x * x)) := by grind
  omega
theorem led_join (u v s t : T3) : ledT u v (joinT s t) = joinT (ledT u v s) (ledT u v t) := by
  obtain ⟨u1, u2, u3⟩ := u
  obtain ⟨v1, v2, v3⟩ := v
  obtain ⟨x, y, z⟩ := s
  obtain ⟨x', y', z'⟩ := t
  have e1 : (x + x') * (x + x' - 1) / 2 = Pr x + Pr x' + x * x' := pr_add x x'
  have e2 : (y + y') * (y + y' - 1) / 2 = Pr y + Pr y' + y * y' := pr_add y y'
  simp only [ledT, joinT, timesT, crossT, Prod.mk.injEq, e1, e2]
  clear e1 e2
  simp only [Pr]
  generalize x * (x - 1) / 2 = P1
  generalize x' * (x' - 1) / 2 = P2
  generalize y * (y - 1) / 2 = P3
  generalize y' * (y' - 1) / 2 = P4
  refine ⟨?_, ?_, ?_⟩ <;> grind
theorem led_times (u v t : T3) (k : Int) : ledT u v (timesT k t) = timesT k (ledT u v t) := by
  obtain ⟨u1, u2, u3⟩ := u
  obtain ⟨v1, v2, v3⟩ := v
  obtain ⟨x, y, z⟩ := t
  have e1 : k * x * (k * x - 1) / 2 = k * Pr x + Pr k * (x * x) := pr_mul k x
  have e2 : k * y * (k * y - 1) / 2 = k * Pr y + Pr k * (y * y) := pr_mul k y
  have e3 : 2 * (k * (k - 1) / 2) = k * (k - 1) := pr_two k
  simp only [ledT, joinT, timesT, crossT, Prod.mk.injEq, e1, e2]
  clear e1 e2
  simp only [Pr]
  generalize k * (k - 1) / 2 = Pk at *
  generalize x * (x - 1) / 2 = P1
  generalize y * (y - 1) / 2 = P3
  have e4 : k * k = 2 * Pk + k := by grind
  clear e3
  refine ⟨?_, ?_, ?_⟩
  · grind
  · grind
  · grind
theorem led_up (u v : T3) (c : Int) : ledT u v (0, 0, c) = (0, 0, crossT u v * c) := by
  simp [ledT, joinT, timesT]
theorem led_split (u v t : T3) : ledT u v t = joinT (joinT (timesT t.2.1 v) (timesT t.1 u)) (0, 0, crossT u v * t.2.2) := by
  simp [ledT, joinT]
theorem cross_led (z1 z2 u v : T3) : crossT (ledT z1 z2 u) (ledT z1 z2 v) = crossT z1 z2 * crossT u v := by
  obtain ⟨u1, u2, u3⟩ := u
  obtain ⟨v1, v2, v3⟩ := v
  obtain ⟨a1, a2, a3⟩ := z1
  obtain ⟨b1, b2, b3⟩ := z2
  simp only [ledT, joinT, timesT, crossT]
  grind
theorem led_comp (z1 z2 y1 y2 x : T3) : ledT z1 z2 (ledT y1 y2 x) = ledT (ledT z1 z2 y1) (ledT z1 z2 y2) x := by
  rw [led_split y1 y2 x, led_join, led_join, led_times, led_times, led_up, led_split (ledT z1 z2 y1), cross_led, Int.mul_assoc]
theorem led_right (u v : T3) : ledT u v RG = u := by
  obtain ⟨u1, u2, u3⟩ := u
  obtain ⟨v1, v2, v3⟩ := v
  have e : (1 : Int) * (1 - 1) / 2 = 0 := rfl
  have e0 : (0 : Int) * (0 - 1) / 2 = 0 := rfl
  simp [ledT, joinT, timesT]
theorem led_upt (u v : T3) : ledT u v UPt = v := by
  obtain ⟨u1, u2, u3⟩ := u
  obtain ⟨v1, v2, v3⟩ := v
  simp [ledT, joinT, timesT]
theorem led_still (t : T3) : ledT RG UPt t = t := by
  obtain ⟨x, y, z⟩ := t
  simp [ledT, joinT, timesT, crossT]
theorem comp_assoc (a b c : M2) : compM (compM a b) c = compM a (compM b c) := by
  unfold compM
  rw [Prod.mk.injEq]
  exact ⟨led_comp _ _ _ _ _, led_comp _ _ _ _ _⟩
theorem still_comp (a : M2) : compM STL a = a := by
  unfold compM
  rw [led_right, led_upt]
theorem comp_still (a : M2) : compM a STL = a := by
  unfold compM
  rw [led_still, led_still]
theorem it_add (a : M2) (m : Nat) : ∀ n, itM a (m + n) = compM (itM a m) (itM a n)
  | 0 => (comp_still _).symm
  | n + 1 => by
    show compM (itM a (m + n)) a = compM (itM a m) (compM (itM a n) a)
    rw [it_add a m n, comp_assoc]
theorem it_one (a : M2) : itM a 1 = a := still_comp a
theorem it_two (a : M2) : ∀ n, itM (compM a a) n = itM a (2 * n)
  | 0 => rfl
  | n + 1 => by
    show compM (itM (compM a a) n) (compM a a) = itM a (2 * n + 1 + 1)
    rw [it_two a n, ← comp_assoc]
    rfl
/-- a step of powers_of -/
theorem it_even (f a : M2) (n : Nat) : compM f (itM a (2 * n)) = compM f (itM (compM a a) n) := by rw [it_two]
theorem it_odd (f a : M2) (n : Nat) : compM f (itM a (2 * n + 1)) = compM (compM f a) (itM (compM a a) n) := by
  rw [it_two, comp_assoc, Nat.add_comm (2 * n) 1, it_add a 1 (2 * n), it_one]
/-! onto ones -/
def Unit1 (c : Int) : Prop := c = 1 ∨ c = -1
theorem src_led (u v t : T3) (h : Unit1 (crossT u v)) : srcT u v (ledT u v t) = t := by
  have hc : crossT u v * crossT u v = 1 := by rcases h with h | h <;> rw [h] <;> rfl
  have e1 : crossT (ledT u v t) v = crossT u v * t.1 := by
    obtain ⟨u1, u2, u3⟩ := u
    obtain ⟨v1, v2, v3⟩ := v
    obtain ⟨x, y, z⟩ := t
    simp only [ledT, joinT, timesT, crossT]
    grind
  have e2 : crossT u (ledT u v t) = crossT u v * t.2.1 := by
    obtain ⟨u1, u2, u3⟩ := u
    obtain ⟨v1, v2, v3⟩ := v
    obtain ⟨x, y, z⟩ := t
    simp only [ledT, joinT, timesT, crossT]
    grind
  have e3 : crossT u v * (crossT u v * t.1) = t.1 := by rw [← Int.mul_assoc, hc, Int.one_mul]
  have e4 : crossT u v * (crossT u v * t.2.1) = t.2.1 := by rw [← Int.mul_assoc, hc, Int.one_mul]
  have e5 : (ledT u v t).2.2 - (ledT u v (t.1, t.2.1, 0)).2.2 = crossT u v * t.2.2 := by
    show (joinT (timesT t.2.1 v) (timesT t.1 u)).2.2 + crossT u v * t.2.2 - ((joinT (timesT t.2.1 v) (timesT t.1 u)).2.2 + crossT u v * 0) = _
    rw [Int.mul_zero]
    omega
  unfold srcT
  rw [e1, e2, e3, e4, e5, ← Int.mul_assoc, hc, Int.one_mul]
theorem led_src (u v g : T3) (h : Unit1 (crossT u v)) : ledT u v (srcT u v g) = g := by
  have hc : crossT u v * crossT u v = 1 := by rcases h with h | h <;> rw [h] <;> rfl
  have e0 : ∀ x y w : Int, (ledT u v (x, y, w)).2.2 = (ledT u v (x, y, 0)).2.2 + crossT u v * w := fun x y w => by
    show (joinT (timesT y v) (timesT x u)).2.2 + crossT u v * w = (joinT (timesT y v) (timesT x u)).2.2 + crossT u v * 0 + crossT u v * w
    rw [Int.mul_zero, Int.add_zero]
  have e3 : (ledT u v (srcT u v g)).2.2 = g.2.2 := by
    unfold srcT
    rw [e0, ← Int.mul_assoc, hc, Int.one_mul]
    omega
  have e1 : (ledT u v (srcT u v g)).1 = g.1 ∧ (ledT u v (srcT u v g)).2.1 = g.2.1 := by
    have a1 : (ledT u v (srcT u v g)).1 = crossT u v * (crossT u g * v.1 + crossT g v * u.1) := by
      show crossT u v * crossT u g * v.1 + crossT u v * crossT g v * u.1 = _
      grind
    have a2 : (ledT u v (srcT u v g)).2.1 = crossT u v * (crossT u g * v.2.1 + crossT g v * u.2.1) := by
      show crossT u v * crossT u g * v.2.1 + crossT u v * crossT g v * u.2.1 = _
      grind
    have b1 : crossT u g * v.1 + crossT g v * u.1 = crossT u v * g.1 := by
      obtain ⟨u1, u2, u3⟩ := u
      obtain ⟨v1, v2, v3⟩ := v
      obtain ⟨x, y, z⟩ := g
      simp only [crossT]
      grind
    have b2 : crossT u g * v.2.1 + crossT g v * u.2.1 = crossT u v * g.2.1 := by
      obtain ⟨u1, u2, u3⟩ := u
      obtain ⟨v1, v2, v3⟩ := v
      obtain ⟨x, y, z⟩ := g
      simp only [crossT]
      grind
    rw [a1, a2, b1, b2, ← Int.mul_assoc, ← Int.mul_assoc, hc, Int.one_mul, Int.one_mul]
    exact ⟨rfl, rfl⟩
  obtain ⟨a, b⟩ := e1
  exact Prod.ext a (Prod.ext b e3)
theorem led_inj {u v s t : T3} (h : Unit1 (crossT u v)) (e : ledT u v s = ledT u v t) : s = t := by
  rw [← src_led u v s h, e, src_led u v t h]
def backM (a : M2) : M2 := (srcT a.1 a.2 RG, srcT a.1 a.2 UPt)
theorem back_comp {a : M2} (h : Unit1 (crossT a.1 a.2)) : compM (backM a) a = STL := by
  unfold compM backM
  rw [led_src _ _ _ h, led_src _ _ _ h]
theorem back_led {a : M2} (h : Unit1 (crossT a.1 a.2)) (t : T3) : ledT (backM a).1 (backM a).2 t = srcT a.1 a.2 t := by
  refine led_inj h ?_
  rw [led_src _ _ _ h, led_comp]
  unfold backM
  rw [led_src _ _ _ h, led_src _ _ _ h, led_still]
theorem comp_back {a : M2} (h : Unit1 (crossT a.1 a.2)) : compM a (backM a) = STL := by
  have h1 := src_led a.1 a.2 RG h
  have h2 := src_led a.1 a.2 UPt h
  rw [led_right] at h1
  rw [led_upt] at h2
  unfold compM
  rw [back_led h, back_led h, h1, h2]
end Ar
namespace Ar
open PySem PySem.Spec PyProof.Rows L2
/-! ### contracts of k25 -/
def cM0 (f : T3 → T3 → D) : Spec := fun ds S Φ => ∃ a b c p q r, ds = [mpi a b c p q r] ∧ Φ (f (a, b, c) (p, q, r)) S
theorem cM0_i {f : T3 → T3 → D} {a b c p q r : Int} {S : Sto} {Φ} (k : Φ (f (a, b, c) (p, q, r)) S) : cM0 f [mpi a b c p q r] S Φ := ⟨a, b, c, p, q, r, rfl, k⟩
def cMd (f : T3 → T3 → D) : Spec := fun ds S Φ => ∃ d a b c p q r, ds = [d] ∧ fitD 2 d = true ∧ nrm d = mpi a b c p q r ∧ Φ (f (a, b, c) (p, q, r)) S
theorem cMd_i {f : T3 → T3 → D} {d : D} {a b c p q r : Int} {S : Sto} {Φ} (h1 : fitD 2 d = true) (h2 : nrm d = mpi a b c p q r) (k : Φ (f (a, b, c) (p, q, r)) S) : cMd f [d] S Φ := ⟨d, a, b, c, p, q, r, rfl, h1, h2, k⟩
theorem cMdM_i {f : T3 → T3 → D} {a b c p q r : Int} {S : Sto} {Φ} (k : Φ (f (a, b, c) (p, q, r)) S) : cMd f [mpi a b c p q r] S Φ := ⟨_, a, b, c, p, q, r, rfl, rfl, by simp only [nrm, nrmL], k⟩
abbrev B6 (N : Nat) (a b c p q r : Int) : Prop := Bd N a ∧ Bd N b ∧ Bd N c ∧ Bd N p ∧ Bd N q ∧ Bd N r
def cM (N : Nat) (C : T3 → T3 → Prop) (f : T3 → T3 → D) : Spec := fun ds S Φ => ∃ a b c p q r, ds = [mpi a b c p q r] ∧ B6 N a b c p q r ∧ C (a, b, c) (p, q, r) ∧ Φ (f (a, b, c) (p, q, r)) S
theorem cM_i {N : Nat} {C : T3 → T3 → Prop} {f : T3 → T3 → D} {a b c p q r : Int} {S : Sto} {Φ} (h : B6 N a b c p q r) (hc : C (a, b, c) (p, q, r)) (k : Φ (f (a, b, c) (p, q, r)) S) : cM N C f [mpi a b c p q r] S Φ := ⟨a, b, c, p, q, r, rfl, h, hc, k⟩
def cMM (N : Nat) (C : M2 → M2 → Prop) (f : M2 → M2 → D) : Spec := fun ds S Φ => ∃ a b c p q r a' b' c' p' q' r', ds = [mpi a b c p q r, mpi a' b' c' p' q' r'] ∧ B6 N a b c p q r ∧ B6 N a' b' c' p' q' r' ∧ C ((a, b, c), (p, q, r)) ((a', b', c'), (p', q', r')) ∧ Φ (f ((a, b, c), (p, q, r)) ((a', b', c'), (p', q', r'))) S
theorem cMM_i {N : Nat} {C : M2 → M2 → Prop} {f : M2 → M2 → D} {a b c p q r a' b' c' p' q' r' : Int} {S : Sto} {Φ} (h : B6 N a b c p q r) (h' : B6 N a' b' c' p' q' r') (hc : C ((a, b, c), (p, q, r)) ((a', b', c'), (p', q', r'))) (k : Φ (f ((a, b, c), (p, q, r)) ((a', b', c'), (p', q', r'))) S) : cMM N C f [mpi a b c p q r, mpi a' b' c' p' q' r'] S Φ := ⟨a, b, c, p, q, r, a', b', c', p', q', r', rfl, h, h', hc, k⟩
abbrev B3 (N : Nat) (x y z : Int) : Prop := Bd N x ∧ Bd N y ∧ Bd N z
def cMT (N : Nat) (C : T3 → T3 → T3 → Prop) (f : T3 → T3 → T3 → D) : Spec := fun ds S Φ => ∃ a b c p q r x y z, ds = [mpi a b c p q r, t3 x y z] ∧ B6 N a b c p q r ∧ B3 N x y z ∧ C (a, b, c) (p, q, r) (x, y, z) ∧ Φ (f (a, b, c) (p, q, r) (x, y, z)) S
theorem cMT_i {N : Nat} {C : T3 → T3 → T3 → Prop} {f : T3 → T3 → T3 → D} {a b c p q r x y z : Int} {S : Sto} {Φ} (h : B6 N a b c p q r) (h' : B3 N x y z) (hc : C (a, b, c) (p, q, r) (x, y, z)) (k : Φ (f (a, b, c) (p, q, r) (x, y, z)) S) : cMT N C f [mpi a b c p q r, t3 x y z] S Φ := ⟨a, b, c, p, q, r, x, y, z, rfl, h, h', hc, k⟩
/-- the map told by lists and tuples -/
def cMTd (N : Nat) (C : T3 → T3 → T3 → Prop) (f : T3 → T3 → T3 → D) : Spec := fun ds S Φ => ∃ d a b c p q r x y z, ds = [d, t3 x y z] ∧ fitD 2 d = true ∧ nrm d = mpi a b c p q r ∧ B6 N a b c p q r ∧ B3 N x y z ∧ C (a, b, c) (p, q, r) (x, y, z) ∧ Φ (f (a, b, c) (p, q, r) (x, y, z)) S
theorem cMTd_i {N : Nat} {C : T3 → T3 → T3 → Prop} {f : T3 → T3 → T3 → D} {d : D} {a b c p q r x y z : Int} {S : Sto} {Φ} (h1 : fitD 2 d = true) (h2 : nrm d = mpi a b c p q r) (h : B6 N a b c p q r) (h' : B3 N x y z) (hc : C (a, b, c) (p, q, r) (x, y, z)) (k : Φ (f (a, b, c) (p, q, r) (x, y, z)) S) : cMTd N C f [d, t3 x y z] S Φ := ⟨d, a, b, c, p, q, r, x, y, z, rfl, h1, h2, h, h', hc, k⟩
theorem cMTdM_i {N : Nat} {C : T3 → T3 → T3 → Prop} {f : T3 → T3 → T3 → D} {a b c p q r x y z : Int} {S : Sto} {Φ} (h : B6 N a b c p q r) (h' : B3 N x y z) (hc : C (a, b, c) (p, q, r) (x, y, z)) (k : Φ (f (a, b, c) (p, q, r) (x, y, z)) S) : cMTd N C f [mpi a b c p q r, t3 x y z] S Φ := ⟨_, a, b, c, p, q, r, x, y, z, rfl, rfl, by simp only [nrm, nrmL], h, h', hc, k⟩
def cMI (N : Nat) (C : T3 → T3 → Int → Prop) (f : T3 → T3 → Int → D) : Spec := fun ds S Φ => ∃ a b c p q r n, ds = [mpi a b c p q r, .int n] ∧ B6 N a b c p q r ∧ C (a, b, c) (p, q, r) n ∧ Φ (f (a, b, c) (p, q, r) n) S
theorem cMI_i {N : Nat} {C : T3 → T3 → Int → Prop} {f : T3 → T3 → Int → D} {a b c p q r n : Int} {S : Sto} {Φ} (h : B6 N a b c p q r) (hc : C (a, b, c) (p, q, r) n) (k : Φ (f (a, b, c) (p, q, r) n) S) : cMI N C f [mpi a b c p q r, .int n] S Φ := ⟨a, b, c, p, q, r, n, rfl, h, hc, k⟩
def cMW (N : Nat) (f : T3 → T3 → List Nat → D) : Spec := fun ds S Φ => ∃ a b c p q r cs, ds = [mpi a b c p q r, .str (wd cs)] ∧ B6 N a b c p q r ∧ LetW cs ∧ cs.length ≤ 12 ∧ NoD S ∧ Φ (f (a, b, c) (p, q, r) cs) S
theorem cMW_i {N : Nat} {f : T3 → T3 → List Nat → D} {a b c p q r : Int} {cs : List Nat} {S : Sto} {Φ} (h : B6 N a b c p q r) (h1 : LetW cs) (h2 : cs.length ≤ 12) (h3 : NoD S) (k : Φ (f (a, b, c) (p, q, r) cs) S) : cMW N f [mpi a b c p q r, .str (wd cs)] S Φ := ⟨a, b, c, p, q, r, cs, rfl, h, h1, h2, h3, k⟩
def cT1 (N : Nat) (f : T3 → D) : Spec := fun ds S Φ => ∃ x y z, ds = [t3 x y z] ∧ B3 N x y z ∧ Φ (f (x, y, z)) S
theorem cT1_i {N : Nat} {f : T3 → D} {x y z : Int} {S : Sto} {Φ} (h : B3 N x y z) (k : Φ (f (x, y, z)) S) : cT1 N f [t3 x y z] S Φ := ⟨x, y, z, rfl, h, k⟩
abbrev Any2 (_ _ : T3) : Prop := True
abbrev Any3 (_ _ _ : T3) : Prop := True
abbrev AnyM (_ _ : M2) : Prop := True
abbrev m2 (a : M2) : D := mp a.1 a.2
/-! sizes -/
theorem bd_times {n k m : Nat} {c : Int} {t : T3} (hc : Bd k c) (h1 : Bd n t.1) (h2 : Bd n t.2.1) (h3 : Bd m t.2.2) : Bd (k + n) (timesT c t).1 ∧ Bd (k + n) (timesT c t).2.1 ∧ Bd (max (k + m) (2 * k + 2 * n + 2) + 1) (timesT c t).2.2 := by
  refine ⟨hc.mul h1, hc.mul h2, ?_⟩
  have a : Bd (2 * k + 2 * n + 2) (c * (c - 1) / 2 * t.1 * t.2.1) := by
    have e : Bd (k + (max k 1 + 1) + 1) (c * (c - 1) / 2) := ((hc.mul (hc.sub (Bd.lit (n := 1) rfl))).ediv)
    by_cases hk : k = 0
    · subst hk
      have : c = 0 := by
        have := hc.lt
        simp at this
        exact this
      subst this
      have e : (0 : Int) * (0 - 1) / 2 * t.1 * t.2.1 = 0 := by simp
      rw [e]
      exact (Bd.lit (n := 0) rfl).mono (by omega)
    · exact ((e.mul h1).mul h2).mono (by omega)
  exact (hc.mul h3).add a
/-- with the map's numbers within n, the deed's within a and b -/
theorem bd_led2 {n a b : Nat} {u v t : T3} (hu : Bd3 n u) (hv : Bd3 n v) (h1 : Bd a t.1) (h2 : Bd a t.2.1) (h3 : Bd b t.2.2) : Bd (a + n + 1) (ledT u v t).1 ∧ Bd (a + n + 1) (ledT u v t).2.1 ∧ Bd (b + 2 * a + 2 * n + 10) (ledT u v t).2.2 := by
  obtain ⟨y1, y2, y3⟩ := bd_times h2 hv.1 hv.2.1 hv.2.2
  obtain ⟨x1, x2, x3⟩ := bd_times h1 hu.1 hu.2.1 hu.2.2
  refine ⟨(y1.add x1).mono (by omega), (y2.add x2).mono (by omega), ?_⟩
  have c1 : Bd (2 * n + 1) (crossT u v) := ((hu.1.mul hv.2.1).sub (hu.2.1.mul hv.1)).mono (by omega)
  exact (((y3.add x3).add (y1.mul x2)).add (c1.mul h3)).mono (by omega)
theorem bd_led {n : Nat} {u v t : T3} (hu : Bd3 n u) (hv : Bd3 n v) (ht : Bd3 n t) : Bd3 (5 * n + 10) (ledT u v t) := by
  obtain ⟨a, b, c⟩ := bd_led2 hu hv ht.1 ht.2.1 ht.2.2
  exact ⟨a.mono (by omega), b.mono (by omega), c.mono (by omega)⟩
theorem bd_cross {n : Nat} {u v : T3} (hu : Bd3 n u) (hv : Bd3 n v) : Bd (2 * n + 1) (crossT u v) := ((hu.1.mul hv.2.1).sub (hu.2.1.mul hv.1)).mono (by omega)
theorem eqΦ {Φ : D → Sto → Prop} {S : Sto} {d d' : D} (e : d = d') (h : Φ d' S) : Φ d S := by
  rw [e]
  exact h
def Bd2 (N : Nat) (a : M2) : Prop := Bd3 N a.1 ∧ Bd3 N a.2
theorem bd_comp {n : Nat} {a b : M2} (ha : Bd2 n a) (hb : Bd2 n b) : Bd2 (5 * n + 10) (compM a b) := ⟨bd_led hb.1 hb.2 ha.1, bd_led hb.1 hb.2 ha.2⟩
theorem bd_still {n : Nat} (h : 1 ≤ n) : Bd2 n STL := ⟨⟨(Bd.lit (n := 1) rfl).mono h, (Bd.lit (n := 0) rfl).mono (Nat.zero_le _), (Bd.lit (n := 0) rfl).mono (Nat.zero_le _)⟩, ⟨(Bd.lit (n := 0) rfl).mono (Nat.zero_le _), (Bd.lit (n := 1) rfl).mono h, (Bd.lit (n := 0) rfl).mono (Nat.zero_le _)⟩⟩
theorem Bd2.mono {n m : Nat} {a : M2} (h : Bd2 n a) (k : n ≤ m) : Bd2 m a := ⟨⟨h.1.1.mono k, h.1.2.1.mono k, h.1.2.2.mono k⟩, ⟨h.2.1.mono k, h.2.2.1.mono k, h.2.2.2.mono k⟩⟩
theorem Bd2.b6 {n : Nat} {a : M2} (h : Bd2 n a) : B6 n a.1.1 a.1.2.1 a.1.2.2 a.2.1 a.2.2.1 a.2.2.2 := ⟨h.1.1, h.1.2.1, h.1.2.2, h.2.1, h.2.2.1, h.2.2.2⟩
/-! what the loops tell -/
/-- map_order's loop -/
def ordF (a : M2) : Nat → Int → M2 → Int
  | 0, _, _ => 0
  | f + 1, n, g => if g = STL then n else ordF a f (n + 1) (compM g a)
/-- word_led -/
def rowT (u v : T3) (c : Nat) : T3 := if c = 114 then u else if c = 117 then v else if c = 108 then timesT (-1) u else timesT (-1) v
def wordT (u v : T3) : List Nat → T3 → T3
  | [], t => t
  | c :: cs, t => wordT u v cs (joinT t (rowT u v c))
theorem row_led {u v : T3} {c : Nat} (h : Ltr c) : rowT u v c = ledT u v (dx c, dy c, 0) := by
  have e : ((-1 : Int), (0 : Int), (0 : Int)) = timesT (-1) RG := rfl
  have e2 : ((0 : Int), (-1 : Int), (0 : Int)) = timesT (-1) UPt := rfl
  rcases h with rfl | rfl | rfl | rfl
  · exact (led_right u v).symm
  · exact (led_upt u v).symm
  · show timesT (-1) u = ledT u v (-1, 0, 0)
    rw [e, led_times, led_right]
  · show timesT (-1) v = ledT u v (0, -1, 0)
    rw [e2, led_times, led_upt]
theorem word_led : ∀ (cs : List Nat) (u v t : T3), LetW cs → wordT u v cs (ledT u v t) = ledT u v (doW cs t)
  | [], _, _, _, _ => rfl
  | c :: cs, u, v, t, h => by
    have hc := h.head
    show wordT u v cs (joinT (ledT u v t) (rowT u v c)) = ledT u v (doW cs _)
    rw [row_led hc, ← led_join, word_led cs u v _ h.tail]
    congr 2
    simp [joinT]
theorem word_do (cs : List Nat) (u v : T3) (h : LetW cs) : wordT u v cs (0, 0, 0) = ledT u v (doW cs (0, 0, 0)) := by
  rw [← word_led cs u v (0, 0, 0) h]
  congr 1
  have e := led_up u v 0
  rw [e, Int.mul_zero]
theorem rows_look {u v : T3} {c : Nat} (h : Ltr c) : (([Str.ofString "r", Str.ofString "u", Str.ofString "l", Str.ofString "d"] : List Str).zip [d3 u, d3 v, d3 (timesT (-1) u), d3 (timesT (-1) v)]).lookup ⟨#[c]⟩ = some (d3 (rowT u v c)) := by
  rcases h with rfl | rfl | rfl | rfl <;> rfl
theorem bd_row {n : Nat} {u v : T3} {c : Nat} (hu : Bd3 n u) (hv : Bd3 n v) : Bd3 (2 * n + 10) (rowT u v c) := by
  have one : Bd 1 (-1) := Bd.lit rfl
  obtain ⟨y1, y2, y3⟩ := bd_times one hv.1 hv.2.1 hv.2.2
  obtain ⟨x1, x2, x3⟩ := bd_times one hu.1 hu.2.1 hu.2.2
  unfold rowT
  split
  · exact ⟨hu.1.mono (by omega), hu.2.1.mono (by omega), hu.2.2.mono (by omega)⟩
  · split
    · exact ⟨hv.1.mono (by omega), hv.2.1.mono (by omega), hv.2.2.mono (by omega)⟩
    · split
      · exact ⟨x1.mono (by omega), x2.mono (by omega), x3.mono (by omega)⟩
      · exact ⟨y1.mono (by omega), y2.mono (by omega), y3.mono (by omega)⟩
theorem eqv_two {a b c d : Int} : PyData.eqv (toPy (.tup [.int a, .int b])) (toPy (.tup [.int c, .int d])) = decide ((a, b) = (c, d)) := by
  simp only [toPy, toPyL, PyData.eqv, PyData.eqvAll]
  by_cases h1 : a = c <;> by_cases h2 : b = d <;> simp [h1, h2]
theorem eqv_mp {a b : M2} : PyData.eqv (toPy (m2 a)) (toPy (m2 b)) = decide (a = b) := by
  obtain ⟨⟨a1, a2, a3⟩, ⟨a4, a5, a6⟩⟩ := a
  obtain ⟨⟨b1, b2, b3⟩, ⟨b4, b5, b6⟩⟩ := b
  simp only [toPy, toPyL, PyData.eqv, PyData.eqvAll]
  by_cases h1 : a1 = b1 <;> by_cases h2 : a2 = b2 <;> by_cases h3 : a3 = b3 <;> by_cases h4 : a4 = b4 <;> by_cases h5 : a5 = b5 <;> by_cases h6 : a6 = b6 <;> simp [h1, h2, h3, h4, h5, h6]
section
variable {X : Cx} {S : Sto} {Φ : D → Sto → Prop} {P : Program} {w : World} {K : PySem.W.Frag} {mg : Str → Option Value} {base : Heap} {tb : List (Str × Nat)} {names : List (Str × NameKind)} {k : Nat}
theorem do_eqT2 {a b c d : Int} (A : At X P w K mg base tb names k) (h : Φ (.bl (decide ((a, b) = (c, d)))) S) : DO X (compareOp .Eq) (.tup [.int a, .int b]) (.tup [.int c, .int d]) S Φ := do_eqD A rfl (by rw [eqv_two]; exact h)
theorem do_eqM {a b : M2} (A : At X P w K mg base tb names k) (h : Φ (.bl (decide (a = b))) S) : DO X (compareOp .Eq) (m2 a) (m2 b) S Φ := do_eqD A rfl (by rw [eqv_mp]; exact h)
theorem do_inU {c : Int} (h : Φ (.bl (decide (c ∈ ([1, -1] : List Int)))) S) : DO X (compareOp .In) (.int c) (.tup [.int 1, .int (-1)]) S Φ := do_inT (l := [1, -1]) h
theorem do_notInU {c : Int} (h : Φ (.bl (!decide (c ∈ ([1, -1] : List Int)))) S) : DO X (compareOp .NotIn) (.int c) (.tup [.int 1, .int (-1)]) S Φ := do_notInT (l := [1, -1]) h
end
theorem do_eqSTL {X : Cx} {S : Sto} {Φ : D → Sto → Prop} {P : Program} {w : World} {K : PySem.W.Frag} {mg : Str → Option Value} {base : Heap} {tb : List (Str × Nat)} {names : List (Str × NameKind)} {k : Nat} {a : M2} (A : At X P w K mg base tb names k) (h : Φ (.bl (decide (a = STL))) S) : DO X (compareOp .Eq) (m2 a) (mpi 1 0 0 0 1 0) S Φ := do_eqM (b := STL) A h
def Bn : Nat → Nat
  | 0 => 6010
  | i + 1 => 5 * Bn i + 10
def bz : Nat → Nat
  | 0 => 6000
  | j + 1 => bz j + 2 * (6001 * (j + 1)) + 12010
theorem bz_le : ∀ j, j < 13 → bz j ≤ 2000000 := by decide
theorem range_cons {n : Int} {f : Nat} : rangeD n (f + 1) = .int n :: rangeD (n + 1) f := by
  unfold rangeD
  rw [List.range_succ_eq_map, List.map_cons, List.map_map]
  congr 1
  · simp
  · refine List.map_congr_left fun x _ => ?_
    show D.int _ = D.int _
    congr 1
    show n + ((x.succ : Nat) : Int) = n + 1 + (x : Int)
    omega
theorem t3_eq {x y z x' y' z' : Int} (h1 : x = x') (h2 : y = y') (h3 : z = z') : t3 x y z = t3 x' y' z' := by rw [h1, h2, h3]
def cOnto : Spec := fun ds S Φ => ∃ p b l R n, ds = [.cell p, .int n] ∧ S = (p, l) :: R ∧ Tin b l ∧ b ≤ 100000 ∧ 0 ≤ n ∧ Bd 1000 n ∧ ∀ o1 o2 o3 o4 o5 o6 l', B6 6000 o1 o2 o3 o4 o5 o6 → Unit1 (crossT (o1, o2, o3) (o4, o5, o6)) → Tin (b + 13) l' → Φ (mpi o1 o2 o3 o4 o5 o6) ((p, l') :: R)
theorem cOnto_i {p : Addr} {b : Nat} {l : List D} {R : Sto} {n : Int} {Φ} (h1 : Tin b l) (h2 : b ≤ 100000) (h3 : 0 ≤ n) (h4 : Bd 1000 n) (q : ∀ o1 o2 o3 o4 o5 o6 l', B6 6000 o1 o2 o3 o4 o5 o6 → Unit1 (crossT (o1, o2, o3) (o4, o5, o6)) → Tin (b + 13) l' → Φ (mpi o1 o2 o3 o4 o5 o6) ((p, l') :: R)) : cOnto [.cell p, .int n] ((p, l) :: R) Φ := ⟨p, b, l, R, n, rfl, rfl, h1, h2, h3, h4, q⟩
theorem Tin.mono {b b' : Nat} {l : List D} (h : Tin b l) (k : b ≤ b') : Tin b' l := by
  obtain ⟨a, q, c, e1, e2, e3, e4, e5, e6⟩ := h
  exact ⟨a, q, c, e1, e2, e3, e4, e5, by omega⟩
theorem cWord_i {p : Addr} {b : Nat} {l : List D} {R : Sto} {n : Int} {Φ} (h : Tin b l) (hb : b ≤ 100000) (h0 : 0 ≤ n) (h1 : n ≤ 1000) (q : ∀ cs l', LetW cs → (cs.length : Int) = n → Tin (b + n.toNat) l' → Φ (.str (wd cs)) ((p, l') :: R)) : cWord [.cell p, .int n] ((p, l) :: R) Φ := ⟨p, b, l, R, n, rfl, rfl, h, hb, h0, h1, q⟩
theorem cut2 {x y z : D} : cutD [x, y, z] none (some 2) = [x, y] := rfl
theorem unit_mem {c : Int} : decide (c ∈ ([1, -1] : List Int)) = true ↔ Unit1 c := by
  rw [decide_eq_true_iff]
  simp [Unit1]
end Ar
namespace Ar
open PySem PySem.Spec PyProof.Rows L2
/-! ### helps for the law of k25 -/
section
variable {X : Cx} {S : Sto} {Φ : D → Sto → Prop}
theorem do_p3 (q : Φ (.int 1000) S) : DO X (binaryOp .Pow) (.int 10) (.int 3) S Φ := do_pow ⟨by decide, by decide, by decide⟩ q
theorem do_p4 (q : Φ (.int 10000) S) : DO X (binaryOp .Pow) (.int 10) (.int 4) S Φ := do_pow ⟨by decide, by decide, by decide⟩ q
theorem do_p5 (q : Φ (.int 100000) S) : DO X (binaryOp .Pow) (.int 10) (.int 5) S Φ := do_pow ⟨by decide, by decide, by decide⟩ q
end
theorem cnt_mp {a b c p q r : Int} : cntD (mpi a b c p q r) = 3 := by simp [cntD, cntL]
theorem nrm_mp {a b c p q r : Int} : nrm (mpi a b c p q r) = mpi a b c p q r := by simp only [nrm, nrmL]
theorem noD_tin {b : Nat} {c : Addr} {l : List D} (h : Tin b l) : NoD ((c, l) :: []) := fun p m hm => by
  obtain ⟨a, q, x, e, _⟩ := h
  rcases List.mem_cons.mp hm with h | h
  · cases h
    rw [e]
    simp [noDctL, noDct]
  · cases h
theorem bd_src {n : Nat} {u v g : T3} (hu : Bd3 n u) (hv : Bd3 n v) (hg : Bd3 n g) : Bd3 (12 * n + 20) (srcT u v g) := by
  have c0 := bd_cross hu hv
  have c1 := bd_cross hg hv
  have c2 := bd_cross hu hg
  have x1 : Bd (4 * n + 2) (crossT u v * crossT g v) := (c0.mul c1).mono (by omega)
  have x2 : Bd (4 * n + 2) (crossT u v * crossT u g) := (c0.mul c2).mono (by omega)
  have z0 : Bd 0 (0 : Int) := Bd.lit rfl
  obtain ⟨_, _, l3⟩ := bd_led2 (t := (crossT u v * crossT g v, crossT u v * crossT u g, 0)) hu hv x1 x2 z0
  refine ⟨x1.mono (by omega), x2.mono (by omega), ?_⟩
  exact (c0.mul (hg.2.2.sub l3)).mono (by omega)
theorem bd_back {n : Nat} {a : M2} (h : Bd2 n a) (h1 : 1 ≤ n) : Bd2 (12 * n + 20) (backM a) := ⟨bd_src h.1 h.2 (bd_still h1).1, bd_src h.1 h.2 (bd_still h1).2⟩
theorem abs_unit {c : Int} : decide ((if c < 0 then -c else c) = 1) = decide (c ∈ ([1, -1] : List Int)) := by
  refine decide_eq_decide.mpr ⟨fun h => ?_, fun h => ?_⟩
  · simp only [List.mem_cons, List.not_mem_nil, or_false]
    split at h <;> omega
  · simp only [List.mem_cons, List.not_mem_nil, or_false] at h
    rcases h with h | h <;> rw [h] <;> decide
/-- the inner map of a deed -/
abbrev innM (x y : Int) : M2 := ((1, 0, 0 + (x * 0 - y * 1)), (0, 1, 0 + (x * 1 - y * 0)))
theorem inn_led (x y : Int) (t : T3) : ledT (innM x y).1 (innM x y).2 t = (t.1, t.2.1, t.2.2 + (x * t.2.1 - y * t.1)) := by
  obtain ⟨a, b, c⟩ := t
  simp only [ledT, joinT, timesT, crossT, innM, Prod.mk.injEq]
  refine ⟨?_, ?_, ?_⟩ <;> grind
theorem swap_led (t : T3) : (ledT UPt RG t).1 = t.2.1 ∧ (ledT UPt RG t).2.1 = t.1 := by
  obtain ⟨a, b, c⟩ := t
  constructor <;> simp [ledT, joinT, timesT]
theorem unit_comp {a b : M2} (h : Unit1 (crossT a.1 a.2)) (k : Unit1 (crossT b.1 b.2)) : Unit1 (crossT (compM a b).1 (compM a b).2) := by
  unfold compM
  rw [cross_led]
  rcases h with h | h <;> rcases k with k | k <;> rw [h, k]
  · exact .inl rfl
  · exact .inr rfl
  · exact .inr rfl
  · exact .inl rfl
theorem inn_unit (x y : Int) : Unit1 (crossT (innM x y).1 (innM x y).2) := .inl (by simp [crossT])
theorem swap_unit : Unit1 (crossT UPt RG) := .inr (by decide)
theorem inn_alike (o : M2) (x y : Int) : (decide ((o.1.1, o.1.2.1) = ((compM o (innM x y)).1.1, (compM o (innM x y)).1.2.1)) && decide ((o.2.1, o.2.2.1) = ((compM o (innM x y)).2.1, (compM o (innM x y)).2.2.1))) = true := by
  unfold compM
  rw [inn_led, inn_led]
  simp
theorem swap_unlike (o : M2) (x y : Int) (h : Unit1 (crossT o.1 o.2)) : (decide ((o.1.1, o.1.2.1) = ((compM (compM o (innM x y)) (UPt, RG)).1.1, (compM (compM o (innM x y)) (UPt, RG)).1.2.1)) && decide ((o.2.1, o.2.2.1) = ((compM (compM o (innM x y)) (UPt, RG)).2.1, (compM (compM o (innM x y)) (UPt, RG)).2.2.1))) = false := by
  have e1 := swap_led (compM o (innM x y)).1
  have e2 := swap_led (compM o (innM x y)).2
  have f1 : (compM o (innM x y)).1 = (o.1.1, o.1.2.1, _) := inn_led x y o.1
  have f2 : (compM o (innM x y)).2 = (o.2.1, o.2.2.1, _) := inn_led x y o.2
  rw [Bool.and_eq_false_iff]
  by_cases q1 : o.1.1 = o.1.2.1
  · right
    refine decide_eq_false fun q => ?_
    have q2 := congrArg Prod.fst q
    dsimp only at q2
    have q3 : o.2.1 = o.2.2.1 := by
      have : (compM (compM o (innM x y)) (UPt, RG)).2.1 = o.2.2.1 := by
        show (ledT UPt RG (compM o (innM x y)).2).1 = _
        rw [e2.1, f2]
      rw [q2, this]
    have hc : crossT o.1 o.2 = 0 := by
      unfold crossT
      rw [q1, q3]
      grind
    rcases h with h | h <;> rw [hc] at h <;> cases h
  · left
    refine decide_eq_false fun q => q1 ?_
    have q2 := congrArg Prod.fst q
    dsimp only at q2
    have : (compM (compM o (innM x y)) (UPt, RG)).1.1 = o.1.2.1 := by
      show (ledT UPt RG (compM o (innM x y)).1).1 = _
      rw [e1.1, f1]
    rw [q2, this]
theorem lead_led (x y z p q s : Int) : d3 (ledT (innM p q).1 (innM p q).2 (x, y, z)) = fLead x y z p q s := by
  rw [inn_led]
  refine t3_eq ?_ ?_ ?_
  · show x = p + x + -p
    omega
  · show y = q + y + -q
    omega
  · show z + (p * y - q * x) = s + z + p * y + (p * q - s) + (p + x) * -q
    grind
end Ar
namespace Ar
open PySem PySem.Spec PyProof.Rows L2
abbrev p2 (p q : Int) : D := .tup [.int p, .int q]
def isPairB (d : D) : Bool := isLongB d 2 && areNumB d
/-! ### triples in order -/
def lt3 (t u : T3) : Bool := decide (t.1 < u.1 ∨ (t.1 = u.1 ∧ (t.2.1 < u.2.1 ∨ (t.2.1 = u.2.1 ∧ t.2.2 < u.2.2))))
theorem dataLt3 {a b c d e f : Int} : PySem.W.dataLt (toPy (t3 a b c)) (toPy (t3 d e f)) = lt3 (a, b, c) (d, e, f) := by
  have h : PySem.W.dataLt (toPy (t3 a b c)) (toPy (t3 d e f)) = decide ([a, b, c] < [d, e, f]) := by
    show PySem.W.dataLt (.tuple (([a, b, c] : List Int).map .int)) (.tuple (([d, e, f] : List Int).map .int)) = _
    rw [PySem.W.dataLt_tuple]
    exact PySem.W.dataLt_ints _ _
  rw [h]
  unfold lt3
  rw [decide_eq_decide]
  simp only [List.cons_lt_cons_iff, List.not_lt_nil, and_false, or_false]
section
variable {X : Cx} {ρ : Ro} {S : Sto} {Φ : D → Sto → Prop} {P : Program} {w : World} {K : PySem.W.Frag} {mg : Str → Option Value} {base : Heap} {tb : List (Str × Nat)} {names : List (Str × NameKind)} {k : Nat} {pos : Pos} {e1 e2 e3 : Expr}
theorem do_ord3 {op : CmpOp} {a b c d e f : Int} {kk : Bool} (A : At X P w K mg base tb names k) (h : ordT op (toPy (t3 a b c)) (toPy (t3 d e f)) = some kk) (q : Φ (.bl kk) S) : DO X (compareOp op) (t3 a b c) (t3 d e f) S Φ :=
  (tupC_ok A rfl (by
    unfold tupC
    have al : PySem.W.alike (toPy (t3 a b c)) (toPy (t3 d e f)) = true := by simp [toPy, toPyL, PySem.W.alike, PySem.W.alikeAll]
    have d1 : (toPy (t3 a b c)).depth = 1 := by simp [toPy, toPyL, PyData.depth, PyData.depthAll]
    have d2 : (toPy (t3 d e f)).depth = 1 := by simp [toPy, toPyL, PyData.depth, PyData.depthAll]
    rw [al, d1, d2, h]
    rfl) q).2
theorem do_gt3 {a b c d e f : Int} (A : At X P w K mg base tb names k) (q : Φ (.bl (lt3 (d, e, f) (a, b, c))) S) : DO X (compareOp .Gt) (t3 a b c) (t3 d e f) S Φ := do_ord3 A (by unfold ordT; dsimp only; rw [dataLt3]) q
theorem do_lt3 {a b c d e f : Int} (A : At X P w K mg base tb names k) (q : Φ (.bl (lt3 (a, b, c) (d, e, f))) S) : DO X (compareOp .Lt) (t3 a b c) (t3 d e f) S Φ := do_ord3 A (by unfold ordT; dsimp only; rw [dataLt3]) q
theorem do_ge3 {a b c d e f : Int} (A : At X P w K mg base tb names k) (q : Φ (.bl (!lt3 (a, b, c) (d, e, f))) S) : DO X (compareOp .GtE) (t3 a b c) (t3 d e f) S Φ := do_ord3 A (by unfold ordT; dsimp only; rw [dataLt3]) q
theorem de_chain {op op2 : CmpOp} (hm : lastMarks [op, op2] [e2, e3] = false) (h : DE X e1 ρ S fun a S1 => DE X e2 ρ S1 fun b S2 => DO X (compareOp op) a b S2 fun t S3 => ∃ kk, t = .bl kk ∧ if kk = true then DE X e3 ρ S3 fun c S4 => DO X (compareOp op2) b c S4 Φ else Φ (.bl false) S3) : DE X (.Compare e1 [op, op2] [e2, e3] pos) ρ S Φ :=
  DE.of (pe_chain op_w op_w pe_w pe_w pe_w hm) fun Zh σ H Q E P => h.bind E fun x H1 a S1 k1 g1 E1 ra h1 => h1.bind E1 fun y H2 b S2 k2 g2 E2 rb h2 => by
    refine h2.rw E2.st (by rw [k2]; exact E1.st.gr g2 ra) rb fun v' H' t S' k' g' s' r' q' => ?_
    obtain ⟨kk, rfl, q'⟩ := q'
    have E3 := E2.next k' g' s'
    have P3 := ((P.next k1 g1).next k2 g2).next k' g'
    refine ⟨kk, r'.bl, ?_⟩
    cases kk with
    | true =>
      exact (show DE X e3 ρ S' _ from q').bind E3 fun z H4 c S4 k4 g4 E4 rc h4 => h4.rw E4.st (by rw [k4]; exact E3.st.gr g4 (by rw [k']; exact E2.st.gr g' rb)) rc (P3.next k4 g4)
    | false => exact P3.here E3.st rep_bl q'
end
/-! ### ways -/
abbrev hgt (p q : Int) (t : T3) : T3 := (p * t.1 + q * t.2.1, p * t.2.1 - q * t.1, t.2.2)
abbrev aboveT (p q : Int) (t u : T3) : Bool := lt3 (hgt p q u) (hgt p q t)
structure WayB (p q : Int) : Prop where
  ne : decide ((p, q) = ((0, 0) : Int × Int)) = false
  p : Bd 2000 p
  q : Bd 2000 q
def cWay : Spec := fun ds S Φ => ∃ p q, ds = [p2 p q] ∧ WayB p q ∧ Φ (p2 p q) S
theorem cWay_i {p q : Int} {S : Sto} {Φ} (h : WayB p q) (k : Φ (p2 p q) S) : cWay [p2 p q] S Φ := ⟨p, q, rfl, h, k⟩
def cWD (f : Int → Int → T3 → D) : Spec := fun ds S Φ => ∃ p q x y z, ds = [p2 p q, t3 x y z] ∧ WayB p q ∧ (Bd 3000 x ∧ Bd 3000 y ∧ Bd 5000 z) ∧ Φ (f p q (x, y, z)) S
theorem cWD_i {f : Int → Int → T3 → D} {p q x y z : Int} {S : Sto} {Φ} (h : WayB p q) (h1 : Bd 3000 x) (h2 : Bd 3000 y) (h3 : Bd 5000 z) (k : Φ (f p q (x, y, z)) S) : cWD f [p2 p q, t3 x y z] S Φ := ⟨p, q, x, y, z, rfl, h, ⟨h1, h2, h3⟩, k⟩
def cWDD (f : Int → Int → T3 → T3 → D) : Spec := fun ds S Φ => ∃ p q x y z a b c, ds = [p2 p q, t3 x y z, t3 a b c] ∧ WayB p q ∧ (Bd 3000 x ∧ Bd 3000 y ∧ Bd 5000 z) ∧ (Bd 3000 a ∧ Bd 3000 b ∧ Bd 5000 c) ∧ Φ (f p q (x, y, z) (a, b, c)) S
theorem cWDD_i {f : Int → Int → T3 → T3 → D} {p q x y z a b c : Int} {S : Sto} {Φ} (h : WayB p q) (h1 : Bd 3000 x) (h2 : Bd 3000 y) (h3 : Bd 5000 z) (h4 : Bd 3000 a) (h5 : Bd 3000 b) (h6 : Bd 5000 c) (k : Φ (f p q (x, y, z) (a, b, c)) S) : cWDD f [p2 p q, t3 x y z, t3 a b c] S Φ := ⟨p, q, x, y, z, a, b, c, rfl, h, ⟨h1, h2, h3⟩, ⟨h4, h5, h6⟩, k⟩
def cWDDD (f : Int → Int → T3 → T3 → T3 → D) : Spec := fun ds S Φ => ∃ p q x y z a b c u v w, ds = [p2 p q, t3 x y z, t3 a b c, t3 u v w] ∧ WayB p q ∧ (Bd 3000 x ∧ Bd 3000 y ∧ Bd 5000 z) ∧ (Bd 3000 a ∧ Bd 3000 b ∧ Bd 5000 c) ∧ (Bd 3000 u ∧ Bd 3000 v ∧ Bd 5000 w) ∧ Φ (f p q (x, y, z) (a, b, c) (u, v, w)) S
theorem cWDDD_i {f : Int → Int → T3 → T3 → T3 → D} {p q x y z a b c u v w : Int} {S : Sto} {Φ} (h : WayB p q) (h1 : Bd 3000 x) (h2 : Bd 3000 y) (h3 : Bd 5000 z) (h4 : Bd 3000 a) (h5 : Bd 3000 b) (h6 : Bd 5000 c) (h7 : Bd 3000 u) (h8 : Bd 3000 v) (h9 : Bd 5000 w) (k : Φ (f p q (x, y, z) (a, b, c) (u, v, w)) S) : cWDDD f [p2 p q, t3 x y z, t3 a b c, t3 u v w] S Φ := ⟨p, q, x, y, z, a, b, c, u, v, w, rfl, h, ⟨h1, h2, h3⟩, ⟨h4, h5, h6⟩, ⟨h7, h8, h9⟩, k⟩
/-! ### deeds in order -/
abbrev rowD (p q : Int) (t : T3) : D := .tup [d3 (hgt p q t), d3 t]
abbrev ordered (p q : Int) (l : List T3) : List D := isortD leD (l.map (rowD p q))
def second : D → D
  | .tup [_, d] => d
  | d => d
def cDeedsM : Spec := fun ds S Φ => ∃ (l : List T3) (d : D), ds = [d] ∧ fitD 2 d = true ∧ nrm d = .tup (l.map d3) ∧ l.length ≤ 500 ∧ Φ (.tup (l.map d3)) S
theorem cDeedsM_i {l : List T3} {d : D} {S : Sto} {Φ} (h : fitD 2 d = true) (h2 : nrm d = .tup (l.map d3)) (h3 : l.length ≤ 500) (k : Φ (.tup (l.map d3)) S) : cDeedsM [d] S Φ := ⟨l, d, rfl, h, h2, h3, k⟩
def cOrdM (f : Int → Int → List T3 → D) (C : List T3 → Prop) : Spec := fun ds S Φ => ∃ (p q : Int) (l : List T3) (d : D), ds = [p2 p q, d] ∧ WayB p q ∧ fitD 2 d = true ∧ nrm d = .tup (l.map d3) ∧ l.length ≤ 500 ∧ (∀ t, t ∈ l → Bd3 2000 t) ∧ C l ∧ Φ (f p q l) S
theorem cOrdM_i {f : Int → Int → List T3 → D} {C : List T3 → Prop} {p q : Int} {l : List T3} {d : D} {S : Sto} {Φ} (hw : WayB p q) (h : fitD 2 d = true) (h2 : nrm d = .tup (l.map d3)) (h3 : l.length ≤ 500) (h4 : ∀ t, t ∈ l → Bd3 2000 t) (h5 : C l) (k : Φ (f p q l) S) : cOrdM f C [p2 p q, d] S Φ := ⟨p, q, l, d, rfl, hw, h, h2, h3, h4, h5, k⟩
def hD (p q : Int) : D → D
  | .tup [.int x, .int y, .int z] => d3 (hgt p q (x, y, z))
  | d => d
theorem plain_rows {p q : Int} : ∀ l : List T3, plainL (l.map (rowD p q)) = true
  | [] => by simp [plainL]
  | t :: l => by
    rw [List.map_cons]
    unfold plainL
    rw [plain_rows l]
    rfl
theorem py_row {p q : Int} (t : T3) : toPy (rowD p q t) = .tuple [.tuple [.int (hgt p q t).1, .int (hgt p q t).2.1, .int (hgt p q t).2.2], .tuple [.int t.1, .int t.2.1, .int t.2.2]] := by
  simp [toPy, toPyL]
theorem sortO_rows {p q : Int} {l : List T3} (h : l.length ≤ 500) : sortO (.lst (l.map (rowD p q))) = .ok (.lst (ordered p q l)) := by
  have e : toPyL (l.map (rowD p q)) = l.map fun t => toPy (rowD p q t) := by rw [toPyL_map, List.map_map]; rfl
  have a1 : ((toPyL (l.map (rowD p q))).all fun a => (toPyL (l.map (rowD p q))).all fun b => PySem.W.alike a b) = true := by
    rw [e, List.all_map, List.all_eq_true]
    intro t _
    show (List.map _ l).all _ = true
    rw [List.all_map, List.all_eq_true]
    intro u _
    show PySem.W.alike (toPy (rowD p q t)) (toPy (rowD p q u)) = true
    rw [py_row, py_row]
    simp [PySem.W.alike, PySem.W.alikeAll]
  have a2 : (toPyL (l.map (rowD p q))).all tupNe = true := by
    rw [e, List.all_map, List.all_eq_true]
    intro t _
    show tupNe (toPy (rowD p q t)) = true
    rw [py_row]
    rfl
  have a3 : ∀ m : List T3, PyData.depthAll (m.map fun t => toPy (rowD p q t)) ≤ 2 := fun m => by
    induction m with
    | nil => simp [PyData.depthAll]
    | cons t m ih =>
      rw [List.map_cons]
      unfold PyData.depthAll
      have : (toPy (rowD p q t)).depth = 2 := by
        rw [py_row]
        simp [PyData.depth, PyData.depthAll]
      omega
  unfold sortO
  dsimp only
  rw [if_pos]
  rw [plain_rows, a1, a2, Bool.true_and, Bool.true_or, Bool.true_and, Bool.and_eq_true]
  refine ⟨Nat.ble_eq.mpr ?_, Nat.ble_eq.mpr ?_⟩
  · rw [e]
    have := a3 l
    omega
  · rw [List.length_map]
    omega
theorem ordered_len {p q : Int} {l : List T3} : (ordered p q l).length = l.length := by
  rw [(isortD_perm _).length_eq, List.length_map]
theorem ordered_mem {p q : Int} {l : List T3} {d : D} (h : d ∈ ordered p q l) : ∃ t, t ∈ l ∧ d = rowD p q t := by
  obtain ⟨t, ht, e⟩ := List.mem_map.mp ((isortD_perm _).mem_iff.mp h)
  exact ⟨t, ht, e.symm⟩
theorem insD_map {α β : Type} {le : β → β → Bool} {f : α → β} {x : α} : ∀ l : List α, insD le (f x) (l.map f) = (insD (fun a b => le (f a) (f b)) x l).map f
  | [] => rfl
  | y :: l => by
    rw [List.map_cons]
    unfold insD
    split
    · rfl
    · rw [List.map_cons, insD_map l]
theorem isortD_map {α β : Type} {le : β → β → Bool} {f : α → β} : ∀ l : List α, isortD le (l.map f) = (isortD (fun a b => le (f a) (f b)) l).map f
  | [] => rfl
  | x :: l => by
    rw [List.map_cons]
    unfold isortD
    rw [isortD_map l, insD_map]
def ordD (p q : Int) (l : List T3) : List T3 := isortD (fun a b => leD (rowD p q a) (rowD p q b)) l
theorem ordered_eq {p q : Int} {l : List T3} : ordered p q l = (ordD p q l).map (rowD p q) := isortD_map l
theorem ordered_second {p q : Int} {l : List T3} : (ordered p q l).map second = (ordD p q l).map d3 := by
  rw [ordered_eq, List.map_map]
  rfl
theorem ordD_len {p q : Int} {l : List T3} : (ordD p q l).length = l.length := (isortD_perm _).length_eq
theorem ordD_ne {p q : Int} {l : List T3} (h : l ≠ []) : ∃ t m, ordD p q l = t :: m := by
  cases e : ordD p q l with
  | nil =>
    have := ordD_len (p := p) (q := q) (l := l)
    rw [e] at this
    cases l with
    | nil => exact absurd rfl h
    | cons t m => cases this
  | cons t m => exact ⟨t, m, rfl⟩
theorem d3s_ok {l : List T3} (h : l.length ≤ 500) : eqOk (.lst (l.map d3)) = true := by
  unfold eqOk
  rw [Bool.and_eq_true]
  constructor
  · unfold plainD
    rw [plain_d3s, Bool.and_true]
    exact Nat.ble_eq.mpr (le_line (m := 1000) (by rw [List.length_map]; omega) rfl)
  · unfold SeqAt.shaped
    rw [Bool.and_eq_true]
    have h1 : ∀ m : List T3, PyData.canLayAll0 (toPyL (m.map d3)) = true := fun m => by
      induction m with
      | nil => simp [toPyL, PyData.canLayAll0]
      | cons t m ih =>
        rw [List.map_cons]
        simp only [toPyL, PyData.canLayAll0, ih, Bool.and_true]
        simp [toPy, toPyL, PyData.canLay0, PyData.canLayAll0]
    have h2 : ∀ m : List T3, PyData.depthAll (toPyL (m.map d3)) ≤ 1 := fun m => by
      induction m with
      | nil => simp [toPyL, PyData.depthAll]
      | cons t m ih =>
        rw [List.map_cons]
        simp only [toPyL, PyData.depthAll]
        have e : PyData.depth (toPy (d3 t)) = 1 := by simp [toPy, toPyL, PyData.depth, PyData.depthAll]
        omega
    constructor
    · exact h1 l
    · have := h2 l
      refine decide_eq_true ?_
      show PyData.depthAll (toPyL (l.map d3)) + 1 ≤ 64
      omega
section
variable {X : Cx} {ρ : Ro} {S : Sto} {Φ : D → Sto → Prop} {P : Program} {w : World} {K : PySem.W.Frag} {mg : Str → Option Value} {base : Heap} {tb : List (Str × Nat)} {names : List (Str × NameKind)} {k : Nat}
theorem do_eqD3s {l : List T3} (A : At X P w K mg base tb names k) (h : l.length ≤ 500) (q : Φ (.bl l.isEmpty) S) : DO X (compareOp .Eq) (.lst (l.map d3)) (.lst []) S Φ := do_eqD A (by rw [d3s_ok h]; rfl) (by
  have e : PyData.eqv (toPy (.lst (l.map d3))) (toPy (.lst [])) = l.isEmpty := by
    cases l with
    | nil => simp [toPy, toPyL, PyData.eqv, PyData.eqvAll]
    | cons d l => simp [toPy, toPyL, PyData.eqv, PyData.eqvAll]
  rw [e]
  exact q)
end
theorem atI_lastD {t : T3} {m : List T3} : L2.atI ((t :: m).map d3) (-1) = some (d3 ((t :: m).getLastD (0, 0, 0))) := by
  obtain ⟨ini, u, e⟩ : ∃ ini u, t :: m = ini ++ [u] := ⟨(t :: m).dropLast, (t :: m).getLast (List.cons_ne_nil _ _), (List.dropLast_concat_getLast _).symm⟩
  rw [e, List.map_append, List.map_cons, List.map_nil, atI_last, List.getLastD_concat]
theorem atI_first {α : Type} {x : α} {l : List α} : L2.atI (x :: l) 0 = some x := by
  unfold L2.atI L2.ixN
  rw [List.length_cons]
  have h : (0 : Int) < ((l.length + 1 : Nat) : Int) := by omega
  simp [h]
/-! ### clubs -/
theorem nd {p : Prop} [Decidable p] (h : p) : (!decide p) = false := by rw [decide_eq_true h]; rfl
abbrev fullD (a b u e v c : Int) : D := .tup [t3 a b u, t3 0 e v, .int c]
abbrev lineD (x y z c : Int) : D := .tup [t3 x y z, .non, .int c]
abbrev cenD (c : Int) : D := .tup [.non, .non, .int c]
structure FullB (a b u e v c : Int) : Prop where
  a0 : 0 < a
  b0 : 0 ≤ b
  be : b < e
  u0 : 0 ≤ u
  uc : u < c
  v0 : 0 ≤ v
  vc : v < c
  dv : a * e % c = 0
  ab : Bd 100 a
  eb : Bd 100 e
  cb : Bd 100 c
theorem FullB.e0 {a b u e v c : Int} (h : FullB a b u e v c) : 0 < e := by have := h.b0; have := h.be; omega
theorem FullB.c0 {a b u e v c : Int} (h : FullB a b u e v c) : 0 < c := by have := h.u0; have := h.uc; omega
theorem FullB.bb {a b u e v c : Int} (h : FullB a b u e v c) : Bd 100 b := Bd.lt2 h.b0 h.be h.eb
theorem FullB.ub {a b u e v c : Int} (h : FullB a b u e v c) : Bd 100 u := Bd.lt2 h.u0 h.uc h.cb
theorem FullB.vb {a b u e v c : Int} (h : FullB a b u e v c) : Bd 100 v := Bd.lt2 h.v0 h.vc h.cb
structure LineB (x y z c : Int) : Prop where
  x0 : 0 < x
  z0 : 0 ≤ z
  zc : z < c
  xb : Bd 5000 x
  yb : Bd 5000 y
  cb : Bd 100 c
theorem LineB.c0 {x y z c : Int} (h : LineB x y z c) : 0 < c := by have := h.z0; have := h.zc; omega
theorem LineB.zb {x y z c : Int} (h : LineB x y z c) : Bd 100 z := Bd.lt2 h.z0 h.zc h.cb
structure CenB (c : Int) : Prop where
  c0 : 0 < c
  cb : Bd 100 c
inductive ClubB : D → Prop where
  | full {a b u e v c : Int} (h : FullB a b u e v c) : ClubB (fullD a b u e v c)
  | line {x y z c : Int} (h : LineB x y z c) : ClubB (lineD x y z c)
  | cen {c : Int} (h : CenB c) : ClubB (cenD c)
def cClub (f : D → D) : Spec := fun ds S Φ => ∃ d, ds = [d] ∧ ClubB d ∧ Φ (f d) S
theorem cClub_i {f : D → D} {d : D} {S : Sto} {Φ} (h : ClubB d) (k : Φ (f d) S) : cClub f [d] S Φ := ⟨d, rfl, h, k⟩
theorem club_fit {d : D} (h : ClubB d) : fitD 2 d = true ∧ nrm d = d := by
  cases h <;> exact ⟨by simp [fitD, fitL, show Nat.ble 3 sizeLine = true from Nat.ble_eq.mpr (by rw [sizeLine_eq]; decide)], by simp [nrm, nrmL]⟩
def cPos3 (C : Int → Int → Int → Int → Prop) (f : D) : Spec := fun ds S Φ => ∃ x y z c, ds = [t3 x y z, .int c] ∧ 0 < c ∧ (0 ≤ z ∧ z < c) ∧ C x y z c ∧ Φ f S
theorem cPos3_i {C : Int → Int → Int → Int → Prop} {f : D} {x y z c : Int} {S : Sto} {Φ} (h0 : 0 < c) (h1 : 0 ≤ z ∧ z < c) (h2 : C x y z c) (k : Φ f S) : cPos3 C f [t3 x y z, .int c] S Φ := ⟨x, y, z, c, rfl, h0, h1, h2, k⟩
abbrev remF1 (a b u : Int) (t : T3) : T3 := (-(t.1 / a) * a + t.1, -(t.1 / a) * b + t.2.1, -(t.1 / a) * u + -(t.1 / a) * (-(t.1 / a) - 1) / 2 * a * b + t.2.2 + -(t.1 / a) * a * t.2.1)
abbrev remF2 (e v : Int) (t : T3) : T3 := (-(t.2.1 / e) * 0 + t.1, -(t.2.1 / e) * e + t.2.1, -(t.2.1 / e) * v + -(t.2.1 / e) * (-(t.2.1 / e) - 1) / 2 * 0 * e + t.2.2 + -(t.2.1 / e) * 0 * t.2.1)
def partsV (c one two : Int) (o : T3) : D := if decide ((o.1, o.2.1) = ((0, 0) : Int × Int)) = true then (if decide (o.2.2 % c = 0) = true then .tup [.int one, .int two, .int (o.2.2 / c)] else .non) else .non
def inB (c : Int) (o : T3) : Bool := decide ((o.1, o.2.1) = ((0, 0) : Int × Int)) && decide (o.2.2 % c = 0)
theorem parts_non {c one two : Int} {o : T3} : (!isNon (partsV c one two o)) = inB c o := by
  unfold partsV inB
  cases decide ((o.1, o.2.1) = ((0, 0) : Int × Int)) <;> cases decide (o.2.2 % c = 0) <;> rfl
inductive PartB : D → T3 → Int → Int → Int → T3 → Prop where
  | full {a b u e v c : Int} {t : T3} (h : FullB a b u e v c) : PartB (fullD a b u e v c) t c (t.1 / a) ((remF1 a b u t).2.1 / e) (remF2 e v (remF1 a b u t))
  | line {x y z c : Int} {t : T3} (h : LineB x y z c) : PartB (lineD x y z c) t c (t.1 / x) 0 (remF1 x y z t)
theorem PartB.club {d : D} {t o : T3} {c i j : Int} (h : PartB d t c i j o) : ClubB d := by
  cases h with
  | full h => exact .full h
  | line h => exact .line h
def cPart (f : Int → Int → Int → T3 → D) : Spec := fun ds S Φ => ∃ d x y z c i j o, ds = [d, t3 x y z] ∧ PartB d (x, y, z) c i j o ∧ (Bd 2000 x ∧ Bd 2000 y ∧ Bd 2000 z) ∧ Φ (f c i j o) S
theorem cPart_i {f : Int → Int → Int → T3 → D} {d : D} {x y z c i j : Int} {o : T3} {S : Sto} {Φ} (h : PartB d (x, y, z) c i j o) (h1 : Bd 2000 x) (h2 : Bd 2000 y) (h3 : Bd 2000 z) (k : Φ (f c i j o) S) : cPart f [d, t3 x y z] S Φ := ⟨d, x, y, z, c, i, j, o, rfl, h, ⟨h1, h2, h3⟩, k⟩
def cFull (f : Int → Int → Int → Int → Int → Int → D) : Spec := fun ds S Φ => ∃ a b u e v c, ds = [fullD a b u e v c] ∧ FullB a b u e v c ∧ Φ (f a b u e v c) S
theorem cFull_i {f : Int → Int → Int → Int → Int → Int → D} {a b u e v c : Int} {S : Sto} {Φ} (h : FullB a b u e v c) (k : Φ (f a b u e v c) S) : cFull f [fullD a b u e v c] S Φ := ⟨a, b, u, e, v, c, rfl, h, k⟩
/-- with one more deed: from nothing the centre, then a row -/
inductive WithB : D → T3 → D → Prop where
  | cen {c : Int} (h : CenB c) : WithB (cenD 0) (0, 0, c) (cenD c)
  | row {x y z c : Int} (h : CenB c) (hx : 0 < x) : WithB (cenD c) (x, y, z) (lineD x y (z % c) c)
def cWith : Spec := fun ds S Φ => ∃ d x y z r, ds = [d, t3 x y z] ∧ WithB d (x, y, z) r ∧ Φ r S
theorem cWith_i {d : D} {x y z : Int} {r : D} {S : Sto} {Φ} (h : WithB d (x, y, z) r) (k : Φ r S) : cWith [d, t3 x y z] S Φ := ⟨d, x, y, z, r, rfl, h, k⟩
inductive PlainB : D → D → Int → D → Prop where
  | cen {c : Int} : PlainB .non .non c (cenD c)
  | row {x y z c : Int} (h : 0 < c) (hx : 0 < x) : PlainB (t3 x y z) .non c (lineD x y (z % c) c)
def cPlainF : Spec := fun ds S Φ => ∃ d e c r, ds = [d, e, .int c] ∧ PlainB d e c r ∧ Φ r S
theorem cPlainF_i {d e : D} {c : Int} {r : D} {S : Sto} {Φ} (h : PlainB d e c r) (k : Φ r S) : cPlainF [d, e, .int c] S Φ := ⟨d, e, c, r, rfl, h, k⟩
def cMade : Spec := fun ds S Φ => ∃ x y z c, ds = [.lst [t3 0 0 c, t3 x y z]] ∧ CenB c ∧ 0 < x ∧ Φ (lineD x y (z % c) c) S
theorem cMade_i {x y z c : Int} {S : Sto} {Φ} (h : CenB c) (hx : 0 < x) (k : Φ (lineD x y (z % c) c) S) : cMade [.lst [t3 0 0 c, t3 x y z]] S Φ := ⟨x, y, z, c, rfl, h, hx, k⟩
theorem gcd_step {i j : Int} (h0 : 0 ≤ i) (hj : 0 < j) : Int.gcd j (i % j) = Int.gcd i j := by
  obtain ⟨m, rfl⟩ := Int.eq_ofNat_of_zero_le h0
  obtain ⟨n, rfl⟩ := Int.eq_ofNat_of_zero_le (show 0 ≤ j by omega)
  show Nat.gcd n (m % n) = Nat.gcd m n
  rw [Nat.gcd_comm n (m % n), ← Nat.gcd_rec n m, Nat.gcd_comm]
section
variable {X : Cx} {ρ : Ro} {S : Sto} {Φ : D → Sto → Prop} {P : Program} {w : World} {K : PySem.W.Frag} {mg : Str → Option Value} {base : Heap} {tb : List (Str × Nat)} {names : List (Str × NameKind)} {k : Nat}
theorem do_neT2 {a b c d : Int} (A : At X P w K mg base tb names k) (h : Φ (.bl (!decide ((a, b) = (c, d)))) S) : DO X (compareOp .NotEq) (.tup [.int a, .int b]) (.tup [.int c, .int d]) S Φ := do_neD A rfl (by rw [eqv_two]; exact h)
end
def cLeast : Spec := fun ds S Φ => ∃ p q d c, ds = [p2 p q, d] ∧ WayB p q ∧ ((∃ a b u e v, d = fullD a b u e v c ∧ FullB a b u e v c) ∨ (d = cenD c ∧ CenB c)) ∧ 0 < c ∧ Φ (t3 0 0 c) S
def cLevelB : Spec := fun ds S Φ => ∃ p q d x y z c i j o, ds = [p2 p q, d, t3 x y z] ∧ WayB p q ∧ PartB d (x, y, z) c i j o ∧ (Bd 2000 x ∧ Bd 2000 y ∧ Bd 2000 z) ∧ inB c o = true ∧ Φ (.bl (decide (p * x + q * y = 0))) S
theorem cLevelB_i {p q : Int} {d : D} {x y z c i j : Int} {o : T3} {S : Sto} {Φ} (hw : WayB p q) (h : PartB d (x, y, z) c i j o) (h1 : Bd 2000 x) (h2 : Bd 2000 y) (h3 : Bd 2000 z) (hi : inB c o = true) (k : Φ (.bl (decide (p * x + q * y = 0))) S) : cLevelB [p2 p q, d, t3 x y z] S Φ := ⟨p, q, d, x, y, z, c, i, j, o, rfl, hw, h, ⟨h1, h2, h3⟩, hi, k⟩
/-! ### levels -/
abbrev timesR (k : Int) (x y z : Int) : T3 := (k * x, k * y, k * z + k * (k - 1) / 2 * x * y)
abbrev acrossT (a b u e v n m : Int) : T3 := joinT (timesR (m / Int.gcd n m) a b u) (timesR (-n / Int.gcd n m) 0 e v)
def cAcross : Spec := fun ds S Φ => ∃ a b u e v c n m, ds = [t3 a b u, t3 0 e v, .int n, .int m] ∧ FullB a b u e v c ∧ Bd 3000 n ∧ Bd 3000 m ∧ n ≠ 0 ∧ 0 < m ∧ Φ (d3 (acrossT a b u e v n m)) S
theorem cAcross_i {a b u e v c n m : Int} {S : Sto} {Φ} (hF : FullB a b u e v c) (h1 : Bd 3000 n) (h2 : Bd 3000 m) (h3 : n ≠ 0) (h4 : 0 < m) (k : Φ (d3 (acrossT a b u e v n m)) S) : cAcross [t3 a b u, t3 0 e v, .int n, .int m] S Φ := ⟨a, b, u, e, v, c, n, m, rfl, hF, h1, h2, h3, h4, k⟩
def levelT (p q a b u e v : Int) : T3 := if p * a + q * b = 0 then (a, b, u) else acrossT a b u e v (p * a + q * b) (q * e)
def levelD (p q a b u e v c : Int) : D := lineD (levelT p q a b u e v).1 (levelT p q a b u e v).2.1 ((levelT p q a b u e v).2.2 % c) c
def cLevel : Spec := fun ds S Φ => ∃ p q a b u e v c, ds = [p2 p q, fullD a b u e v c] ∧ WayB p q ∧ 0 < q ∧ FullB a b u e v c ∧ Φ (levelD p q a b u e v c) S
theorem cLevel_i {p q a b u e v c : Int} {S : Sto} {Φ} (hw : WayB p q) (hq : 0 < q) (hF : FullB a b u e v c) (k : Φ (levelD p q a b u e v c) S) : cLevel [p2 p q, fullD a b u e v c] S Φ := ⟨p, q, a, b, u, e, v, c, rfl, hw, hq, hF, k⟩
theorem gcd_le {n m : Int} (h : 0 < m) : ((Int.gcd n m : Nat) : Int) ≤ m := by
  have h1 : Int.gcd n m ≤ m.natAbs := Nat.gcd_le_right _ (by omega)
  omega
theorem across_pos {a b u e v n m : Int} (ha : 0 < a) (hm : 0 < m) : 0 < (acrossT a b u e v n m).1 := by
  have hd : 0 < m / ((Int.gcd n m : Nat) : Int) := Int.ediv_pos_of_pos_of_dvd hm (by omega) (Int.gcd_dvd_right ..)
  show 0 < m / ((Int.gcd n m : Nat) : Int) * a + -n / ((Int.gcd n m : Nat) : Int) * 0
  have := Int.mul_pos hd ha
  omega
/-! ### comprehensions with a test -/
section
variable {X : Cx} {ρ : Ro} {S : Sto} {P : Program} {w : World} {K : PySem.W.Frag} {mg : Str → Option Value} {base : Heap} {tb : List (Str × Nat)} {names : List (Str × NameKind)} {k : Nat} {pos px : Pos}
theorem lcf {scope : Scope} {own : List (Str × Nat)} {x : Str} {elt c : Expr} {i : Nat} {p : D → Bool} {f : D → D} {Φ : D → Sto → Prop} (A : At X P w K mg base tb names k) (hk : scope.kind = .function) (hx : tb.lookup x = some i) (hv : (stB (scope.names.lookup x) && okOf own i) = true) : ∀ {ds acc : List D},
    (∀ d, d ∈ ds → ∀ X', At X' P w K mg base tb scope.names k → (∀ Ξ : Bool → Sto → Prop, Ξ (p d) S → DT X' c (ρ.set i (some d)) S Ξ) ∧ (p d = true → ∀ Ξ : D → Sto → Prop, Ξ (f d) S → DE X' elt (ρ.set i (some d)) S Ξ)) → Φ (.lst (acc ++ (ds.filter p).map f)) S → LcD (blks X scope) (okOf own) (.Name x px) [c] elt ds ρ S acc Φ
  | [], acc, _, q => by
    rw [List.filter_nil, List.map_nil, List.append_nil] at q
    exact q
  | d :: ds, acc, h, q => fun X' hX => dg_name (A.blk hk hX) ⟨i, hx, hv, fun X2 hX2 => ((h d List.mem_cons_self X2 (A.blk hk hX2)).1 _ (by
      cases hp : p d with
      | true =>
        show DEb (blks X scope) elt _ S _
        exact fun X3 hX3 => (h d List.mem_cons_self X3 (A.blk hk hX3)).2 hp _ (lcf A hk hx hv (fun e he => h e (List.mem_cons_of_mem _ he)) (by
          rw [List.filter_cons_of_pos hp, List.map_cons] at q
          rw [List.append_assoc]
          exact q))
      | false =>
        show LcD _ _ _ _ _ _ _ _ _ _
        exact lcf A hk hx hv (fun e he => h e (List.mem_cons_of_mem _ he)) (by
          rw [List.filter_cons_of_neg (by rw [hp]; decide)] at q
          exact q)))⟩
theorem de_lcF {scope : Scope} {own : List (Str × Nat)} {x : Str} {iter elt c : Expr} {Φ : D → Sto → Prop} (i : Nat) (p : D → Bool) (f : D → D) (A : At X P w K mg base tb names k) (hk : scope.kind = .function) (hb : blkD tb names scope.names own = true) (hs : ∀ x, foldedSetIterable iter X.env x = pure x) (hx : tb.lookup x = some i) (hv : (stB (scope.names.lookup x) && okOf own i) = true)
    (h : DI X (.Name x px) iter ρ S fun ds S1 => ds.length ≤ sizeLine ∧ (∀ d, d ∈ ds → ∀ X', At X' P w K mg base tb scope.names k → (∀ Ξ : Bool → Sto → Prop, Ξ (p d) S1 → DT X' c ((wipeR ρ (own.map (·.2))).set i (some d)) S1 Ξ) ∧ (p d = true → ∀ Ξ : D → Sto → Prop, Ξ (f d) S1 → DE X' elt ((wipeR ρ (own.map (·.2))).set i (some d)) S1 Ξ)) ∧ Φ (.lst ((ds.filter p).map f)) S1) : DE X (.ListComp elt [⟨.Name x px, iter, [c], 0⟩] scope pos) ρ S Φ :=
  de_lc (own := own) A hk hb hs (DI.mono h fun ds S1 ⟨h1, h2, h3⟩ => ⟨h1, lcf A hk hx hv h2 h3⟩)
end
/-! ### the law's own words of clubs -/
inductive MkB : D → List D → Prop where
  | full {a b u e v c : Int} (h : FullB a b u e v c) : MkB (fullD a b u e v c) [t3 a b u, t3 0 e v, t3 0 0 c]
  | line {x y z c : Int} (h : LineB x y z c) : MkB (lineD x y z c) [t3 x y z, t3 0 0 c]
def cMk : Spec := fun ds S Φ => ∃ d r, ds = [d] ∧ MkB d r ∧ Φ (.lst r) S
theorem cMk_i {d : D} {r : List D} {S : Sto} {Φ} (h : MkB d r) (k : Φ (.lst r) S) : cMk [d] S Φ := ⟨d, r, rfl, h, k⟩
def cFinite : Spec := fun ds S Φ => ∃ p b l R n, ds = [.cell p, .int n] ∧ S = (p, l) :: R ∧ Tin b l ∧ b ≤ 100000 ∧ 1 ≤ n ∧ n ≤ 12 ∧ ∀ a bb u e v c l', FullB a bb u e v c → a ≤ n → e ≤ n → c ≤ n → Tin (b + 6) l' → Φ (fullD a bb u e v c) ((p, l') :: R)
theorem cFinite_i {p : Addr} {b : Nat} {l : List D} {R : Sto} {n : Int} {Φ} (h : Tin b l) (hb : b ≤ 100000) (h1 : 1 ≤ n) (h2 : n ≤ 12) (q : ∀ a bb u e v c l', FullB a bb u e v c → a ≤ n → e ≤ n → c ≤ n → Tin (b + 6) l' → Φ (fullD a bb u e v c) ((p, l') :: R)) : cFinite [.cell p, .int n] ((p, l) :: R) Φ := ⟨p, b, l, R, n, rfl, rfl, h, hb, h1, h2, q⟩
def goodB (m n : Int) : D → Bool
  | .int k => decide (m % k = 0) && decide (k ≤ n)
  | _ => false
theorem mem_rangeD {lo : Int} {n : Nat} {d : D} (h : d ∈ rangeD lo n) : ∃ k : Int, d = .int k ∧ lo ≤ k ∧ k < lo + n := by
  unfold rangeD at h
  obtain ⟨i, hi, rfl⟩ := List.mem_map.mp h
  rw [List.mem_range] at hi
  exact ⟨_, rfl, by omega, by omega⟩
def goodL (m n : Int) : List D := ((rangeD 1 (m + 1 - 1).toNat).filter (goodB m n)).map fun d => d
theorem goodL_mem {m n : Int} {d : D} (h : d ∈ goodL m n) : ∃ k : Int, d = .int k ∧ 1 ≤ k ∧ k ≤ n ∧ m % k = 0 := by
  unfold goodL at h
  obtain ⟨c, hc, rfl⟩ := List.mem_map.mp h
  obtain ⟨h1, h2⟩ := List.mem_filter.mp hc
  obtain ⟨k, rfl, h3, _⟩ := mem_rangeD h1
  unfold goodB at h2
  rw [Bool.and_eq_true] at h2
  exact ⟨k, rfl, h3, of_decide_eq_true h2.2, of_decide_eq_true h2.1⟩
theorem goodL_len {m n : Int} (h1 : 1 ≤ m) (h2 : m ≤ 144) (hn : 1 ≤ n) : 0 < (goodL m n).length ∧ (goodL m n).length ≤ 144 := by
  constructor
  · refine List.length_pos_of_mem (a := D.int 1) ?_
    unfold goodL
    refine List.mem_map.mpr ⟨D.int 1, List.mem_filter.mpr ⟨?_, ?_⟩, rfl⟩
    · unfold rangeD
      exact List.mem_map.mpr ⟨0, List.mem_range.mpr (by omega), rfl⟩
    · unfold goodB
      rw [Bool.and_eq_true]
      exact ⟨decide_eq_true (Int.emod_one m), decide_eq_true hn⟩
  · unfold goodL
    rw [List.length_map]
    refine Nat.le_trans (List.length_filter_le _ _) ?_
    rw [rangeD_len]
    omega
end Ar
namespace Ar
open PySem PySem.Spec PyProof.Rows L2
theorem fit_lst {n : Nat} {l : List D} (h : Nat.ble l.length 1000 = true) (k : ∀ d, d ∈ l → fitD n d = true) : fitD (n + 1) (.lst l) = true := by
  unfold fitD
  rw [Bool.and_eq_true]
  refine ⟨Nat.ble_eq.mpr (sz h), ?_⟩
  clear h
  induction l with
  | nil => unfold fitL; rfl
  | cons c l ih =>
    unfold fitL
    rw [k c List.mem_cons_self, ih fun d hd => k d (List.mem_cons_of_mem _ hd)]
    rfl
theorem noFrz_lst {l : List D} (k : ∀ d, d ∈ l → noFrz d = true) : noFrz (.lst l) = true := by
  unfold noFrz
  induction l with
  | nil => unfold noFrzL; rfl
  | cons c l ih =>
    unfold noFrzL
    rw [k c List.mem_cons_self, ih fun d hd => k d (List.mem_cons_of_mem _ hd)]
    rfl
/-! ### orders, plain -/
theorem lt3_congr {t u t' u' : T3} (h1 : t'.1 - u'.1 = t.1 - u.1) (h2 : t'.2.1 - u'.2.1 = t.2.1 - u.2.1) (h3 : t.1 = u.1 → t.2.1 = u.2.1 → t'.2.2 - u'.2.2 = t.2.2 - u.2.2) : lt3 t' u' = lt3 t u := by
  unfold lt3
  rw [decide_eq_decide]
  by_cases e1 : t.1 = u.1
  · by_cases e2 : t.2.1 = u.2.1
    · have := h3 e1 e2
      omega
    · omega
  · omega
theorem lt3_anti {t u : T3} (h : t ≠ u) : lt3 u t = !lt3 t u := by
  have hne : ¬ (t.1 = u.1 ∧ t.2.1 = u.2.1 ∧ t.2.2 = u.2.2) := fun ⟨a, b, c⟩ => h (Prod.ext a (Prod.ext b c))
  unfold lt3
  by_cases q : t.1 < u.1 ∨ (t.1 = u.1 ∧ (t.2.1 < u.2.1 ∨ (t.2.1 = u.2.1 ∧ t.2.2 < u.2.2)))
  · rw [decide_eq_true q, decide_eq_false (by omega)]
    rfl
  · rw [decide_eq_false q, decide_eq_true (by omega)]
    rfl
theorem lt3_irr (t : T3) : lt3 t t = false := by
  unfold lt3
  exact decide_eq_false (by omega)
theorem way_sq {p q : Int} (h : decide ((p, q) = ((0, 0) : Int × Int)) = false) : 0 < p * p + q * q := by
  have hn := of_decide_eq_false h
  have h1 : 0 ≤ p * p := by
    rcases Int.le_total 0 p with g | g
    · exact Int.mul_nonneg g g
    · exact Int.mul_nonneg_of_nonpos_of_nonpos g g
  have h2 : 0 ≤ q * q := by
    rcases Int.le_total 0 q with g | g
    · exact Int.mul_nonneg g g
    · exact Int.mul_nonneg_of_nonpos_of_nonpos g g
  by_cases hp : p = 0
  · by_cases hq : q = 0
    · exact absurd (by rw [hp, hq]) hn
    · have : q * q ≠ 0 := Int.mul_ne_zero hq hq
      omega
  · have : p * p ≠ 0 := Int.mul_ne_zero hp hp
    omega
theorem hgt_inj {p q : Int} {t u : T3} (hw : decide ((p, q) = ((0, 0) : Int × Int)) = false) (h1 : p * t.1 + q * t.2.1 = p * u.1 + q * u.2.1) (h2 : p * t.2.1 - q * t.1 = p * u.2.1 - q * u.1) : t.1 = u.1 ∧ t.2.1 = u.2.1 := by
  have hs := way_sq hw
  have a : (p * p + q * q) * (t.1 - u.1) = 0 := by grind
  have b : (p * p + q * q) * (t.2.1 - u.2.1) = 0 := by grind
  have a' := (Int.mul_eq_zero.mp a).resolve_left (by omega)
  have b' := (Int.mul_eq_zero.mp b).resolve_left (by omega)
  omega
theorem hgt_eq {p q : Int} {t u : T3} (hw : decide ((p, q) = ((0, 0) : Int × Int)) = false) (h : hgt p q t = hgt p q u) : t = u := by
  have e1 := congrArg Prod.fst h
  have e2 := congrArg (fun x => x.2.1) h
  have e3 := congrArg (fun x => x.2.2) h
  obtain ⟨a, b⟩ := hgt_inj hw e1 e2
  exact Prod.ext a (Prod.ext b e3)
theorem above_join {p q : Int} {t u v : T3} (hw : decide ((p, q) = ((0, 0) : Int × Int)) = false) : aboveT p q (joinT t v) (joinT u v) = aboveT p q t u := by
  refine lt3_congr ?_ ?_ fun h1 h2 => ?_
  · show p * (u.1 + v.1) + q * (u.2.1 + v.2.1) - (p * (t.1 + v.1) + q * (t.2.1 + v.2.1)) = _
    grind
  · show p * (u.2.1 + v.2.1) - q * (u.1 + v.1) - (p * (t.2.1 + v.2.1) - q * (t.1 + v.1)) = _
    grind
  · obtain ⟨a, b⟩ := hgt_inj hw h1 h2
    show u.2.2 + v.2.2 + u.1 * v.2.1 - (t.2.2 + v.2.2 + t.1 * v.2.1) = u.2.2 - t.2.2
    rw [a]
    omega
theorem above_joinL {p q : Int} {t u v : T3} (hw : decide ((p, q) = ((0, 0) : Int × Int)) = false) : aboveT p q (joinT v t) (joinT v u) = aboveT p q t u := by
  refine lt3_congr ?_ ?_ fun h1 h2 => ?_
  · show p * (v.1 + u.1) + q * (v.2.1 + u.2.1) - (p * (v.1 + t.1) + q * (v.2.1 + t.2.1)) = _
    grind
  · show p * (v.2.1 + u.2.1) - q * (v.1 + u.1) - (p * (v.2.1 + t.2.1) - q * (v.1 + t.1)) = _
    grind
  · obtain ⟨a, b⟩ := hgt_inj hw h1 h2
    show v.2.2 + u.2.2 + v.1 * u.2.1 - (v.2.2 + t.2.2 + v.1 * t.2.1) = u.2.2 - t.2.2
    rw [b]
    omega
abbrev undoT (t : T3) : T3 := (-t.1, -t.2.1, t.1 * t.2.1 - t.2.2)
theorem above_undo {p q : Int} {t u : T3} (hw : decide ((p, q) = ((0, 0) : Int × Int)) = false) : aboveT p q (undoT u) (undoT t) = aboveT p q t u := by
  refine lt3_congr ?_ ?_ fun h1 h2 => ?_
  · show p * (-t.1) + q * (-t.2.1) - (p * (-u.1) + q * (-u.2.1)) = _
    grind
  · show p * (-t.2.1) - q * (-t.1) - (p * (-u.2.1) - q * (-u.1)) = _
    grind
  · obtain ⟨a, b⟩ := hgt_inj hw h1 h2
    show t.1 * t.2.1 - t.2.2 - (u.1 * u.2.1 - u.2.2) = u.2.2 - t.2.2
    rw [a, b]
    omega
theorem above_lead {p q : Int} {t u v : T3} (hw : decide ((p, q) = ((0, 0) : Int × Int)) = false) : aboveT p q (joinT (joinT v t) (undoT v)) (joinT (joinT v u) (undoT v)) = aboveT p q t u := by
  rw [above_join hw, above_joinL hw]
/-! ### clubs, plain -/
def tri (n : Int) : Int := n * (n - 1) / 2
theorem tri2 (n : Int) : 2 * tri n = n * (n - 1) := by
  unfold tri
  have h : n * (n - 1) % 2 = 0 := by
    rcases Int.emod_two_eq n with h | h
    · rw [Int.mul_emod, h]
      simp
    · rw [Int.mul_emod, show (n - 1) % 2 = 0 by omega]
      simp
  omega
theorem tri_add (m n : Int) : tri (m + n) = tri m + tri n + m * n := by
  have h1 := tri2 m
  have h2 := tri2 n
  have h3 := tri2 (m + n)
  have : 2 * tri (m + n) = 2 * (tri m + tri n + m * n) := by grind
  omega
theorem tri_mul (k i : Int) : tri (k * i) = k * tri i + tri k * (i * i) := by
  have h1 := tri2 i
  have h2 := tri2 k
  have h3 := tri2 (k * i)
  have : 2 * tri (k * i) = 2 * (k * tri i + tri k * (i * i)) := by grind
  omega
theorem tri_neg (k : Int) : tri (-k) = k * k - tri k := by
  have h2 := tri2 k
  have h3 := tri2 (-k)
  have : 2 * tri (-k) = 2 * (k * k - tri k) := by grind
  omega
def Mem (a b u e v c : Int) (t : T3) : Prop := ∃ i j w : Int, t.1 = i * a ∧ t.2.1 = i * b + j * e ∧ t.2.2 = i * u + tri i * a * b + j * v + c * w
section
variable {a b u e v c : Int}
theorem mem_join {f : Int} (hf : a * e = c * f) {t s : T3} (h1 : Mem a b u e v c t) (h2 : Mem a b u e v c s) : Mem a b u e v c (joinT t s) := by
  obtain ⟨i, j, w, x1, y1, z1⟩ := h1
  obtain ⟨i', j', w', x2, y2, z2⟩ := h2
  refine ⟨i + i', j + j', w + w' + i * j' * f, ?_, ?_, ?_⟩
  · show t.1 + s.1 = _
    rw [x1, x2]
    grind
  · show t.2.1 + s.2.1 = _
    rw [y1, y2]
    grind
  · show t.2.2 + s.2.2 + t.1 * s.2.1 = _
    rw [z1, z2, x1, y2, tri_add]
    grind
theorem mem_zero : Mem a b u e v c (0, 0, 0) := ⟨0, 0, 0, by simp, by simp, by simp [tri]⟩
theorem mem_first (k : Int) : Mem a b u e v c (timesR k a b u) := ⟨k, 0, 0, rfl, by show k * b = _; grind, by
  show k * u + k * (k - 1) / 2 * a * b = k * u + tri k * a * b + 0 * v + c * 0
  unfold tri
  grind⟩
theorem mem_second (k : Int) : Mem a b u e v c (timesR k 0 e v) := ⟨0, k, 0, by show k * 0 = _; grind, by show k * e = _; grind, by
  show k * v + k * (k - 1) / 2 * 0 * e = 0 * u + tri 0 * a * b + k * v + c * 0
  have : tri 0 = 0 := rfl
  grind⟩
theorem mem_centre (k : Int) : Mem a b u e v c (timesR k 0 0 c) := ⟨0, 0, k, by show k * 0 = _; grind, by show k * 0 = _; grind, by
  show k * c + k * (k - 1) / 2 * 0 * 0 = 0 * u + tri 0 * a * b + 0 * v + c * k
  have : tri 0 = 0 := rfl
  grind⟩
theorem full_in (hF : FullB a b u e v c) {t : T3} (h : Mem a b u e v c t) : inB c (remF2 e v (remF1 a b u t)) = true := by
  obtain ⟨f, hf⟩ : ∃ f, a * e = c * f := ⟨a * e / c, by have := Int.mul_ediv_add_emod (a * e) c; rw [hF.dv] at this; omega⟩
  obtain ⟨i, j, w, x1, y1, z1⟩ := h
  have ha := hF.a0
  have he := hF.e0
  have q1 : t.1 / a = i := by rw [x1]; exact Int.mul_ediv_cancel i (by omega)
  have q2 : (remF1 a b u t).2.1 = j * e := by
    show -(t.1 / a) * b + t.2.1 = _
    rw [q1, y1]
    grind
  have q3 : (remF1 a b u t).2.1 / e = j := by rw [q2]; exact Int.mul_ediv_cancel j (by omega)
  unfold inB
  rw [Bool.and_eq_true]
  constructor
  · refine decide_eq_true (Prod.ext ?_ ?_)
    · show -((remF1 a b u t).2.1 / e) * 0 + (-(t.1 / a) * a + t.1) = 0
      rw [q1, x1]
      grind
    · show -((remF1 a b u t).2.1 / e) * e + (remF1 a b u t).2.1 = 0
      rw [q3, q2]
      grind
  · refine decide_eq_true ?_
    show (-((remF1 a b u t).2.1 / e) * v + -((remF1 a b u t).2.1 / e) * (-((remF1 a b u t).2.1 / e) - 1) / 2 * 0 * e + (-(t.1 / a) * u + -(t.1 / a) * (-(t.1 / a) - 1) / 2 * a * b + t.2.2 + -(t.1 / a) * a * t.2.1) + -((remF1 a b u t).2.1 / e) * 0 * (remF1 a b u t).2.1) % c = 0
    rw [q3, q1]
    have e1 : -i * (-i - 1) / 2 = tri (-i) := rfl
    rw [e1, tri_neg, z1, y1]
    have : -j * v + -j * (-j - 1) / 2 * 0 * e + (-i * u + (i * i - tri i) * a * b + (i * u + tri i * a * b + j * v + c * w) + -i * a * (i * b + j * e)) + -j * 0 * (remF1 a b u t).2.1 = c * (w - i * j * f) := by grind
    rw [this]
    exact Int.mul_emod_right c _
theorem cop_dvd {i m n : Int} (h : Int.gcd n m = 1) (hd : m ∣ i * n) : m ∣ i := by
  have h1 : m.natAbs ∣ i.natAbs * n.natAbs := by
    rw [← Int.natAbs_mul]
    exact Int.natAbs_dvd_natAbs.mpr hd
  have h2 : Nat.Coprime m.natAbs n.natAbs := by
    show Nat.gcd _ _ = 1
    rw [Nat.gcd_comm]
    exact h
  exact Int.natAbs_dvd_natAbs.mp (Nat.Coprime.dvd_of_dvd_mul_right h2 h1)
/-- the row of a level -/
theorem level_row {p q : Int} (hq : 0 < q) (hF : FullB a b u e v c) : ∃ i j w : Int, 0 < i ∧ (levelT p q a b u e v).1 = i * a ∧ (levelT p q a b u e v).2.1 = i * b + j * e ∧ (levelT p q a b u e v).2.2 = i * u + tri i * a * b + j * v + c * w ∧
    i * (p * a + q * b) + j * (q * e) = 0 ∧ ∀ i' j' : Int, i' * (p * a + q * b) + j' * (q * e) = 0 → ∃ k, i' = k * i ∧ j' = k * j := by
  obtain ⟨f, hf⟩ : ∃ f, a * e = c * f := ⟨a * e / c, by have := Int.mul_ediv_add_emod (a * e) c; rw [hF.dv] at this; omega⟩
  have hm0 : 0 < q * e := Int.mul_pos hq hF.e0
  generalize hn : p * a + q * b = n
  generalize hm : q * e = m at hm0
  unfold levelT
  rw [hn, hm]
  by_cases h0 : n = 0
  · rw [if_pos h0]
    refine ⟨1, 0, 0, by decide, by simp, by simp, by have : tri 1 = 0 := rfl; simp [this], by simp [h0], fun i' j' h => ⟨i', by simp, ?_⟩⟩
    rw [h0, Int.mul_zero, Int.zero_add] at h
    rw [(Int.mul_eq_zero.mp h).resolve_right (by omega)]
    simp
  · rw [if_neg h0]
    have hg : 0 < Int.gcd n m := Int.gcd_pos_of_ne_zero_left m h0
    have hgi : (0 : Int) < (Int.gcd n m : Nat) := by omega
    have c1 := Int.gcd_ediv_gcd_ediv_gcd hg
    have d1 : ((Int.gcd n m : Nat) : Int) ∣ n := Int.gcd_dvd_left ..
    have d2 : ((Int.gcd n m : Nat) : Int) ∣ m := Int.gcd_dvd_right ..
    have e1 := Int.mul_ediv_cancel' d1
    have e2 := Int.mul_ediv_cancel' d2
    have e3 : -n / ((Int.gcd n m : Nat) : Int) = -(n / ((Int.gcd n m : Nat) : Int)) := Int.neg_ediv_of_dvd d1
    have p1 : 0 < m / ((Int.gcd n m : Nat) : Int) := Int.ediv_pos_of_pos_of_dvd hm0 (by omega) d2
    show ∃ i j w : Int, 0 < i ∧ m / ((Int.gcd n m : Nat) : Int) * a + -n / ((Int.gcd n m : Nat) : Int) * 0 = i * a ∧ m / ((Int.gcd n m : Nat) : Int) * b + -n / ((Int.gcd n m : Nat) : Int) * e = i * b + j * e ∧
      m / ((Int.gcd n m : Nat) : Int) * u + m / ((Int.gcd n m : Nat) : Int) * (m / ((Int.gcd n m : Nat) : Int) - 1) / 2 * a * b + (-n / ((Int.gcd n m : Nat) : Int) * v + -n / ((Int.gcd n m : Nat) : Int) * (-n / ((Int.gcd n m : Nat) : Int) - 1) / 2 * 0 * e) + m / ((Int.gcd n m : Nat) : Int) * a * (-n / ((Int.gcd n m : Nat) : Int) * e) = i * u + tri i * a * b + j * v + c * w ∧ _
    rw [e3]
    generalize ((Int.gcd n m : Nat) : Int) = g at *
    generalize hn' : n / g = n' at *
    generalize hm' : m / g = m' at *
    refine ⟨m', -n', m' * -n' * f, p1, by grind, rfl, ?_, ?_, fun i' j' h => ?_⟩
    · rw [show m' * (m' - 1) / 2 = tri m' from rfl]
      grind
    · rw [← e1, ← e2]
      grind
    · have k1 : g * (i' * n' + j' * m') = 0 := by
        rw [← e1, ← e2] at h
        grind
      have k2 := (Int.mul_eq_zero.mp k1).resolve_left (by omega)
      obtain ⟨k, hk⟩ := cop_dvd c1 (show m' ∣ i' * n' from ⟨-j', by grind⟩)
      refine ⟨k, by rw [hk]; grind, ?_⟩
      rw [hk] at k2
      have k3 : m' * (k * n' + j') = 0 := by grind
      have k4 := (Int.mul_eq_zero.mp k3).resolve_left (by omega)
      grind
theorem dot_times {p q k x y : Int} (h : p * x + q * y = 0) : p * (k * x) + q * (k * y) = 0 := by
  have : p * (k * x) + q * (k * y) = k * (p * x + q * y) := by grind
  rw [this, h, Int.mul_zero]
theorem self_sub {k x t : Int} (h : -k * x + t = 0) : t = k * x := by
  rw [Int.neg_mul] at h
  omega
theorem sub_self2 {k x : Int} : -k * x + k * x = 0 := by
  rw [Int.neg_mul]
  omega
theorem dot_row {p q i j a b e : Int} : p * (i * a) + q * (i * b + j * e) = i * (p * a + q * b) + j * (q * e) := by grind
theorem sub_self3 {k i j b e : Int} : -k * (i * b + j * e) + (k * i * b + k * j * e) = 0 := by grind
theorem area_line {a b u e v c f i j k w w1 : Int} (hf : a * e = c * f) : -k * (i * u + tri i * a * b + j * v + c * w1) + (k * k - tri k) * (i * a) * (i * b + j * e) + (k * i * u + (k * tri i + tri k * (i * i)) * a * b + k * j * v + c * w) + -k * (i * a) * (k * i * b + k * j * e) = c * (w - k * w1 - tri k * i * j * f) := by grind
theorem rest_form {r c z w0 : Int} (h : r = z + c * w0) : ∃ w1, r % c = z + c * w1 := ⟨w0 - r / c, by
  have := Int.mul_ediv_add_emod r c
  have e : c * (w0 - r / c) = c * w0 - c * (r / c) := Int.mul_sub ..
  omega⟩
/-- what of a club is in its level -/
theorem line_in {p q : Int} (hq : 0 < q) (hF : FullB a b u e v c) {t : T3} (h : Mem a b u e v c t) :
    inB c (remF1 (levelT p q a b u e v).1 (levelT p q a b u e v).2.1 ((levelT p q a b u e v).2.2 % c) t) = decide (p * t.1 + q * t.2.1 = 0) := by
  obtain ⟨f, hf⟩ : ∃ f, a * e = c * f := ⟨a * e / c, by have := Int.mul_ediv_add_emod (a * e) c; rw [hF.dv] at this; omega⟩
  obtain ⟨i0, j0, w0, hi0, X, Y, Z, hd0, hgen⟩ := level_row (p := p) hq hF
  obtain ⟨w1, hz⟩ := rest_form Z
  generalize (levelT p q a b u e v).2.2 % c = z at hz
  generalize (levelT p q a b u e v).1 = x at X
  generalize (levelT p q a b u e v).2.1 = y at Y
  have hx0 : 0 < x := by rw [X]; exact Int.mul_pos hi0 hF.a0
  have hdot : p * x + q * y = 0 := by rw [X, Y, dot_row]; exact hd0
  obtain ⟨i, j, w, x1, y1, z1⟩ := h
  by_cases hd : p * t.1 + q * t.2.1 = 0
  · obtain ⟨k, hk1, hk2⟩ := hgen i j (by rw [x1, y1, dot_row] at hd; exact hd)
    have q0 : t.1 = k * x := by rw [x1, hk1, X, Int.mul_assoc]
    have q1 : t.1 / x = k := by rw [q0]; exact Int.mul_ediv_cancel k (by omega)
    rw [decide_eq_true hd]
    unfold inB
    rw [Bool.and_eq_true]
    constructor
    · refine decide_eq_true (Prod.ext ?_ ?_)
      · show -(t.1 / x) * x + t.1 = 0
        rw [q1, q0]
        exact sub_self2
      · show -(t.1 / x) * y + t.2.1 = 0
        rw [q1, y1, Y, hk1, hk2]
        exact sub_self3
    · refine decide_eq_true ?_
      show (-(t.1 / x) * z + -(t.1 / x) * (-(t.1 / x) - 1) / 2 * x * y + t.2.2 + -(t.1 / x) * x * t.2.1) % c = 0
      rw [q1, show -k * (-k - 1) / 2 = tri (-k) from rfl, tri_neg, z1, y1, hz, hk1, hk2, tri_mul, X, Y, area_line hf]
      exact Int.mul_emod_right c _
  · rw [decide_eq_false hd]
    unfold inB
    rw [decide_eq_false, Bool.false_and]
    intro hz0
    have g1 : -(t.1 / x) * x + t.1 = 0 := congrArg Prod.fst hz0
    have g2 : -(t.1 / x) * y + t.2.1 = 0 := congrArg Prod.snd hz0
    refine hd ?_
    have a1 := self_sub g1
    have a2 := self_sub g2
    generalize t.1 / x = k at a1 a2
    rw [a1, a2]
    exact dot_times hdot
end
/-! ### values by tests, nothing else changed -/
section
variable {X : Cx} {ρ : Ro} {S : Sto} {Φ : D → Sto → Prop} {P : Program} {w : World} {K : PySem.W.Frag} {mg : Str → Option Value} {base : Heap} {tb : List (Str × Nat)} {names : List (Str × NameKind)} {k : Nat} {pos : Pos} {a b c : Expr}
theorem de_ifV {t : Bool} {d1 d2 : D} (hc : ∀ Ψ : Bool → Sto → Prop, Ψ t S → DT X c ρ S Ψ) (h1 : ∀ Ψ : D → Sto → Prop, Ψ d1 S → DE X a ρ S Ψ) (h2 : ∀ Ψ : D → Sto → Prop, Ψ d2 S → DE X b ρ S Ψ) (q : Φ (if t = true then d1 else d2) S) : DE X (.IfExp c a b pos) ρ S Φ := de_if (hc _ (by
  cases t with
  | true => exact h1 _ q
  | false => exact h2 _ q))
theorem de_andV {t u : Bool} {rest : List Expr} (h1 : ∀ Ψ : D → Sto → Prop, Ψ (.bl t) S → DE X a ρ S Ψ) (h2 : ∀ Ψ : D → Sto → Prop, Ψ (.bl u) S → DE X (.BoolOp .And (b :: rest) pos) ρ S Ψ) (q : Φ (.bl (t && u)) S) : DE X (.BoolOp .And (a :: b :: rest) pos) ρ S Φ := de_and (h1 _ ⟨t, rfl, by
  cases t with
  | true => exact h2 _ q
  | false => exact q⟩)
theorem do_neT3 {x y z p q s : Int} (A : At X P w K mg base tb names k) (h : Φ (.bl (!decide ((x, y, z) = (p, q, s)))) S) : DO X (compareOp .NotEq) (t3 x y z) (t3 p q s) S Φ := do_neD A rfl (by rw [eqv_t3]; exact h)
end
/-! ### the law's rows -/
section
variable {p q x1 y1 z1 x2 y2 z2 x3 y3 z3 : Int}
theorem above_anti {t u : T3} (hw : decide ((p, q) = ((0, 0) : Int × Int)) = false) : aboveT p q u t = (!decide (t = u) && !aboveT p q t u) := by
  by_cases h : t = u
  · subst h
    rw [decide_eq_true rfl]
    exact lt3_irr _
  · rw [decide_eq_false h, Bool.not_false, Bool.true_and]
    exact lt3_anti fun z => h (hgt_eq hw z.symm)
theorem up_anti {t : T3} (hw : decide ((p, q) = ((0, 0) : Int × Int)) = false) {d1 d2 : D} : (if lt3 (hgt p q t) (0, 0, 0) = true then d2 else d1) = if (lt3 (0, 0, 0) (hgt p q t) || decide (t = (0, 0, 0))) = true then d1 else d2 := by
  by_cases h : t = (0, 0, 0)
  · subst h
    have e : hgt p q (0, 0, 0) = (0, 0, 0) := by show (p * 0 + q * 0, p * 0 - q * 0, (0 : Int)) = _; simp
    rw [e, lt3_irr, decide_eq_true rfl]
    rfl
  · have hne : hgt p q t ≠ (0, 0, 0) := fun z => h (hgt_eq hw (z.trans (by show _ = (p * 0 + q * 0, p * 0 - q * 0, (0 : Int)); simp)))
    rw [decide_eq_false h, Bool.or_false, lt3_anti hne]
    cases lt3 (hgt p q t) (0, 0, 0) <;> rfl
theorem law_one (hw : WayB p q) : D.lst [D.bl (aboveT p q (x1, y1, z1) (x2, y2, z2)), D.bl (aboveT p q (x2, y2, z2) (x1, y1, z1)), D.bl (aboveT p q (x1, y1, z1) (x1, y1, z1)), D.bl (lt3 (0, 0, 0) (hgt p q (x1, y1, z1))), if lt3 (hgt p q (x1, y1, z1)) (0, 0, 0) = true then fUndo x1 y1 z1 else d3 (x1, y1, z1)] =
    D.lst [D.bl (aboveT p q (x1, y1, z1) (x2, y2, z2)), D.bl (!decide ((x1, y1, z1) = (x2, y2, z2)) && !aboveT p q (x1, y1, z1) (x2, y2, z2)), D.bl false, D.bl (lt3 (0, 0, 0) (hgt p q (x1, y1, z1))), if (lt3 (0, 0, 0) (hgt p q (x1, y1, z1)) || decide ((x1, y1, z1) = (0, 0, 0))) = true then t3 x1 y1 z1 else fUndo x1 y1 z1] := by
  rw [above_anti (t := (x1, y1, z1)) (u := (x2, y2, z2)) hw.ne, up_anti hw.ne, show aboveT p q (x1, y1, z1) (x1, y1, z1) = false from lt3_irr _]
theorem law_two (hw : WayB p q) : D.lst ([D.bl (aboveT p q (x1 + x3, y1 + y3, z1 + z3 + x1 * y3) (x2 + x3, y2 + y3, z2 + z3 + x2 * y3)), D.bl (aboveT p q (x3 + x1, y3 + y1, z3 + z1 + x3 * y1) (x3 + x2, y3 + y2, z3 + z2 + x3 * y2))] ++
      [D.bl (aboveT p q (-x2, -y2, x2 * y2 - z2) (-x1, -y1, x1 * y1 - z1)), D.bl (aboveT p q (x3 + x1 + -x3, y3 + y1 + -y3, z3 + z1 + x3 * y1 + (x3 * y3 - z3) + (x3 + x1) * -y3) (x3 + x2 + -x3, y3 + y2 + -y3, z3 + z2 + x3 * y2 + (x3 * y3 - z3) + (x3 + x2) * -y3)),
        D.bl (aboveT p q (x1, y1, z1) (x2, y2, z2) && aboveT p q (x3, y3, z3) (x1, y1, z1))]) =
    D.lst ([D.bl (aboveT p q (x1, y1, z1) (x2, y2, z2)), D.bl (aboveT p q (x1, y1, z1) (x2, y2, z2)), D.bl (aboveT p q (x1, y1, z1) (x2, y2, z2)), D.bl (aboveT p q (x1, y1, z1) (x2, y2, z2))] ++ [D.bl (aboveT p q (x1, y1, z1) (x2, y2, z2) && aboveT p q (x3, y3, z3) (x1, y1, z1))]) := by
  rw [show aboveT p q (x1 + x3, y1 + y3, z1 + z3 + x1 * y3) (x2 + x3, y2 + y3, z2 + z3 + x2 * y3) = aboveT p q (x1, y1, z1) (x2, y2, z2) from above_join (t := (x1, y1, z1)) (u := (x2, y2, z2)) (v := (x3, y3, z3)) hw.ne,
    show aboveT p q (x3 + x1, y3 + y1, z3 + z1 + x3 * y1) (x3 + x2, y3 + y2, z3 + z2 + x3 * y2) = aboveT p q (x1, y1, z1) (x2, y2, z2) from above_joinL (t := (x1, y1, z1)) (u := (x2, y2, z2)) (v := (x3, y3, z3)) hw.ne,
    show aboveT p q (-x2, -y2, x2 * y2 - z2) (-x1, -y1, x1 * y1 - z1) = aboveT p q (x1, y1, z1) (x2, y2, z2) from above_undo (t := (x1, y1, z1)) (u := (x2, y2, z2)) hw.ne,
    show aboveT p q (x3 + x1 + -x3, y3 + y1 + -y3, z3 + z1 + x3 * y1 + (x3 * y3 - z3) + (x3 + x1) * -y3) (x3 + x2 + -x3, y3 + y2 + -y3, z3 + z2 + x3 * y2 + (x3 * y3 - z3) + (x3 + x2) * -y3) = aboveT p q (x1, y1, z1) (x2, y2, z2) from above_lead (t := (x1, y1, z1)) (u := (x2, y2, z2)) (v := (x3, y3, z3)) hw.ne]
  rfl
end
theorem cnt_d3s : ∀ l : List T3, cntL (l.map d3) = l.length
  | [] => by simp [cntL]
  | t :: l => by
    rw [List.map_cons]
    unfold cntL
    rw [cnt_d3s l, List.length_cons]
    have : cntD (d3 t) = 1 := by simp [cntD, cntL]
    omega
theorem tupO_d3s : ∀ l : List T3, tupOL 1 (l.map d3) = true
  | [] => by simp [tupOL]
  | t :: l => by
    rw [List.map_cons]
    unfold tupOL
    rw [tupO_d3s l]
    rfl
theorem noFrz_d3s : ∀ l : List T3, noFrzL (l.map d3) = true
  | [] => by simp [noFrzL]
  | t :: l => by
    rw [List.map_cons]
    unfold noFrzL
    rw [noFrz_d3s l]
    rfl
theorem fit_row {l : List T3} (h : l.length ≤ 500) : fitD 2 (.lst (l.map d3)) = true ∧ fitD 2 (.tup (l.map d3)) = true := by
  constructor <;> (unfold fitD; rw [fit_d3s, Bool.and_true]; exact Nat.ble_eq.mpr (le_line (m := 1000) (by rw [List.length_map]; omega) rfl))
theorem law_rows {l : List T3} {a b : D} (h : l.length ≤ 500) (ha : fitD 2 a = true ∧ noFrz a = true) (hb : fitD 2 b = true ∧ noFrz b = true) : fitD 3 (.lst [.lst (l.map d3), a, b, .lst (([] : List T3).map d3)]) = true ∧ noFrz (.lst [.lst (l.map d3), a, b, .lst (([] : List T3).map d3)]) = true := by
  constructor
  · refine fit_lst rfl fun d hd => ?_
    simp only [List.mem_cons, List.not_mem_nil, or_false] at hd
    rcases hd with rfl | rfl | rfl | rfl
    · exact (fit_row h).1
    · exact ha.1
    · exact hb.1
    · rfl
  · refine noFrz_lst fun d hd => ?_
    simp only [List.mem_cons, List.not_mem_nil, or_false] at hd
    rcases hd with rfl | rfl | rfl | rfl
    · unfold noFrz
      exact noFrz_d3s l
    · exact ha.2
    · exact hb.2
    · rfl
/-! ### the row of a level, for the law's tail -/
section
variable {a b u e v c : Int}
theorem mem_cen : Mem a b u e v c (0, 0, c) := ⟨0, 0, 1, by simp, by simp, by simp [tri]⟩
theorem level_line {p q : Int} (hp : Bd 100 p) (hq2 : Bd 100 q) (hq : 0 < q) (hF : FullB a b u e v c) : LineB (levelT p q a b u e v).1 (levelT p q a b u e v).2.1 ((levelT p q a b u e v).2.2 % c) c ∧ Bd 2000 (levelT p q a b u e v).1 ∧ Bd 2000 (levelT p q a b u e v).2.1 := by
  obtain ⟨i, j, w, hi, X, Y, Z, h1, h2⟩ := level_row (p := p) hq hF
  have hm : Bd 200 (q * e) := hq2.mul hF.eb
  have hn : Bd 201 (p * a + q * b) := (hp.mul hF.ab).add (hq2.mul hF.bb)
  have hb : Bd 2000 (levelT p q a b u e v).1 ∧ Bd 2000 (levelT p q a b u e v).2.1 := by
    unfold levelT
    by_cases h : p * a + q * b = 0
    · rw [if_pos h]
      exact ⟨hF.ab.mono (by decide), hF.bb.mono (by decide)⟩
    · rw [if_neg h]
      show Bd 2000 (q * e / (Int.gcd _ _ : Nat) * a + -(p * a + q * b) / (Int.gcd _ _ : Nat) * 0) ∧ Bd 2000 (q * e / (Int.gcd _ _ : Nat) * b + -(p * a + q * b) / (Int.gcd _ _ : Nat) * e)
      have z0 : Bd 1 (0 : Int) := Bd.lit rfl
      exact ⟨(((hm.ediv).mul hF.ab).add ((hn.neg.ediv).mul z0)).mono (by decide), (((hm.ediv).mul hF.bb).add ((hn.neg.ediv).mul hF.eb)).mono (by decide)⟩
  exact ⟨⟨by rw [X]; exact Int.mul_pos hi hF.a0, Int.emod_nonneg _ (by have := hF.c0; omega), Int.emod_lt_of_pos _ hF.c0, hb.1.mono (by decide), hb.2.mono (by decide), hF.cb⟩, hb⟩
theorem level_mem {p q : Int} (hq : 0 < q) (hF : FullB a b u e v c) : Mem a b u e v c ((levelT p q a b u e v).1, (levelT p q a b u e v).2.1, (levelT p q a b u e v).2.2 % c) ∧ p * (levelT p q a b u e v).1 + q * (levelT p q a b u e v).2.1 = 0 := by
  obtain ⟨i, j, w, hi, X, Y, Z, h1, h2⟩ := level_row (p := p) hq hF
  obtain ⟨w1, hz⟩ := rest_form Z
  refine ⟨⟨i, j, w1, X, Y, hz⟩, ?_⟩
  rw [X, Y]
  have := dot_row (p := p) (q := q) (i := i) (j := j) (a := a) (b := b) (e := e)
  omega
structure Flat (p q a b u e v c x y z : Int) : Prop where
  line : LineB x y z c
  xb : Bd 2000 x
  yb : Bd 2000 y
  mem : Mem a b u e v c (x, y, z)
  dot : p * x + q * y = 0
  has : ∀ t, Mem a b u e v c t → inB c (remF1 x y z t) = decide (p * t.1 + q * t.2.1 = 0)
theorem flat_ok {p q : Int} (hp : Bd 100 p) (hq2 : Bd 100 q) (hq : 0 < q) (hF : FullB a b u e v c) : ∃ x y z, levelD p q a b u e v c = lineD x y z c ∧ Flat p q a b u e v c x y z :=
  ⟨_, _, _, rfl, (level_line hp hq2 hq hF).1, (level_line hp hq2 hq hF).2.1, (level_line hp hq2 hq hF).2.2, (level_mem hq hF).1, (level_mem hq hF).2, fun t h => line_in hq hF h⟩
theorem Flat.part {p q x y z : Int} (h : Flat p q a b u e v c x y z) {r s t : Int} (hm : Mem a b u e v c (r, s, t)) : ∃ i o, PartB (lineD x y z c) (r, s, t) c i 0 o ∧ inB c o = decide (p * r + q * s = 0) := ⟨_, _, .line h.line, h.has _ hm⟩
theorem full_part (hF : FullB a b u e v c) {r s t : Int} (hm : Mem a b u e v c (r, s, t)) : ∃ i j o, PartB (fullD a b u e v c) (r, s, t) c i j o ∧ inB c o = true := ⟨_, _, _, .full hF, full_in hF hm⟩
theorem times_bd {k x y z : Int} (h1 : -4 ≤ k) (h2 : k ≤ 4) (hx : Bd 100 x) (hy : Bd 100 y) (hz : Bd 100 z) : Bd3 300 (timesR k x y z) := by
  have hk : Bd 3 k := ⟨by omega⟩
  have ht : Bd 8 (k * (k - 1) / 2) := ⟨by
    have hc : k = -4 ∨ k = -3 ∨ k = -2 ∨ k = -1 ∨ k = 0 ∨ k = 1 ∨ k = 2 ∨ k = 3 ∨ k = 4 := by omega
    rcases hc with rfl | rfl | rfl | rfl | rfl | rfl | rfl | rfl | rfl <;> decide⟩
  exact ⟨(hk.mul hx).mono (by decide), (hk.mul hy).mono (by decide), ((hk.mul hz).add ((ht.mul hx).mul hy)).mono (by decide)⟩
/-- the law's own deed after n joins -/
def Lap (n : Nat) (a b u e v c x y z : Int) : Prop := Mem a b u e v c (x, y, z) ∧ Bd (300 + n) x ∧ Bd (300 + n) y ∧ Bd (700 + 2 * n) z
theorem lap_zero : Lap 0 a b u e v c 0 0 0 := ⟨mem_zero, Bd.lit rfl, Bd.lit rfl, Bd.lit rfl⟩
theorem lap_join (hF : FullB a b u e v c) {n : Nat} {x y z r s t : Int} (hn : n ≤ 2) (h : Lap n a b u e v c x y z) (hm : Mem a b u e v c (r, s, t)) (h1 : Bd 300 r) (h2 : Bd 300 s) (h3 : Bd 300 t) : Lap (n + 1) a b u e v c (x + r) (y + s) (z + t + x * s) := by
  obtain ⟨f, hf⟩ : ∃ f, a * e = c * f := ⟨a * e / c, by have := Int.mul_ediv_add_emod (a * e) c; rw [hF.dv] at this; omega⟩
  exact ⟨mem_join hf h.1 hm, (h.2.1.add h1).mono (by omega), (h.2.2.1.add h2).mono (by omega), ((h.2.2.2.add h3).add (h.2.1.mul h2)).mono (by omega)⟩
theorem Lap.bd {n : Nat} {x y z : Int} (hn : n ≤ 3) (h : Lap n a b u e v c x y z) : Bd 1000 x ∧ Bd 1000 y ∧ Bd 1000 z := ⟨h.2.1.mono (by omega), h.2.2.1.mono (by omega), h.2.2.2.mono (by omega)⟩
end
end Ar
namespace Ar
open PySem PySem.Spec PyProof.Rows L2

def topS (i : Nat) : Stmt := PySem.Challenge.pw_arearoutes_k28_whole_deeds_in_order.main.body.getD i (.Pass ⟨0, 0, 0, 0⟩)
structure Mod (K : PySem.W.Frag) (w : World) (mg : Str → Option Value) : Prop where
  nob : NoB mg
  h_is_number : Has K mg "is_number" (topS 4) ["thing"]
  h_is_from : Has K mg "is_from" (topS 5) ["thing", "least"]
  h_is_long : Has K mg "is_long" (topS 6) ["thing", "length"]
  h_tupled : Has K mg "tupled" (topS 7) ["value"]
  h_are_numbers : Has K mg "are_numbers" (topS 8) ["thing"]
  h_are_from : Has K mg "are_from" (topS 9) ["thing", "least"]
  h_is_row_of : Has K mg "is_row_of" (topS 10) ["thing", "many", "least"]
  h_is_pair : Has K mg "is_pair" (topS 11) ["thing"]
  h_common : Has K mg "common" (topS 12) ["one", "other"]
  h_pairs_of : Has K mg "pairs_of" (topS 13) ["number"]
  h_is_triple : Has K mg "is_triple" (topS 14) ["thing"]
  h_rest : Has K mg "rest" (topS 15) ["number", "many"]
  h_divides : Has K mg "divides" (topS 16) ["many", "number"]
  h_is_deed : Has K mg "is_deed" (topS 19) ["thing"]
  h_sure_deed : Has K mg "sure_deed" (topS 20) ["value"]
  h_sure_deeds : Has K mg "sure_deeds" (topS 21) ["value"]
  h_joined : Has K mg "joined" (topS 22) ["one", "other"]
  h_undone_in : Has K mg "undone_in" (topS 23) ["deed"]
  h_times_in : Has K mg "times_in" (topS 24) ["deed", "many"]
  h_crossed : Has K mg "crossed" (topS 25) ["one", "other"]
  h_is_first : Has K mg "is_first" (topS 28) ["own", "centre"]
  h_is_second : Has K mg "is_second" (topS 29) ["own", "centre"]
  h_is_club : Has K mg "is_club" (topS 30) ["thing"]
  h_sure_club : Has K mg "sure_club" (topS 31) ["value"]
  h_exchanged : Has K mg "exchanged" (topS 32) ["known", "own", "place"]
  h_plain_form : Has K mg "plain_form" (topS 33) ["first", "second", "centre"]
  h_with_deed : Has K mg "with_deed" (topS 34) ["club", "deed"]
  h_made_by : Has K mg "made_by" (topS 35) ["deeds"]
  h_parts_in : Has K mg "parts_in" (topS 36) ["club", "deed"]
  h_has_in : Has K mg "has_in" (topS 37) ["club", "deed"]
  h_has : Has K mg "has" (topS 38) ["club", "deed"]
  h_index_in : Has K mg "index_in" (topS 39) ["club"]
  h_sure_way : Has K mg "sure_way" (topS 41) ["value"]
  h_height : Has K mg "height" (topS 42) ["way", "deed"]
  h_is_above : Has K mg "is_above" (topS 43) ["way", "deed", "other"]
  h_is_up : Has K mg "is_up" (topS 44) ["way", "deed"]
  h_in_order : Has K mg "in_order" (topS 45) ["way", "deeds"]
  h_lowest : Has K mg "lowest" (topS 46) ["way", "deeds"]
  h_highest : Has K mg "highest" (topS 47) ["way", "deeds"]
  h_up_or_undone : Has K mg "up_or_undone" (topS 48) ["way", "deed"]
  h_lies_between : Has K mg "lies_between" (topS 49) ["way", "deed", "low", "high"]
  h_least_up : Has K mg "least_up" (topS 50) ["way", "club"]
  h_level : Has K mg "level" (topS 51) ["way", "club"]
  h_across : Has K mg "across" (topS 52) ["first", "second", "one", "two"]
  h_row_times : Has K mg "row_times" (topS 53) ["deed", "many"]
  h_is_level : Has K mg "is_level" (topS 54) ["way", "club", "deed"]
  h__law_box : Has K mg "_law_box" (topS 56) ["script", "k"]
  h__law_take : Has K mg "_law_take" (topS 57) ["tin", "below_so"]
  h__law_cells : Has K mg "_law_cells" (topS 58) ["script", "most_so"]
  h__law_of : Has K mg "_law_of" (topS 59) ["tin", "goods_so"]
  h__law_mixed : Has K mg "_law_mixed" (topS 60) ["tin", "matter"]
  h__law_same : Has K mg "_law_same" (topS 61) ["got", "due"]
  h__law_join : Has K mg "_law_join" (topS 62) ["one", "two"]
  h__law_undo : Has K mg "_law_undo" (topS 63) ["one"]
  h__law_times : Has K mg "_law_times" (topS 64) ["one", "k"]
  h__law_lead : Has K mg "_law_lead" (topS 65) ["one", "two"]
  h__law_whole : Has K mg "_law_whole" (topS 66) ["tin", "top_so"]
  h__law_deed : Has K mg "_law_deed" (topS 67) ["tin", "top_so"]
  h__law_parts : Has K mg "_law_parts" (topS 68) ["club_so", "deed_so"]
  h__law_has : Has K mg "_law_has" (topS 69) ["club_so", "deed_so"]
  h__law_makers : Has K mg "_law_makers" (topS 70) ["club_so"]
  h__law_finite : Has K mg "_law_finite" (topS 71) ["tin", "top_so"]
  h__law_height : Has K mg "_law_height" (topS 72) ["way_so", "deed_so"]
  h_law : Has K mg "law" (topS 73) ["script"]
  gl_NOTHING : GlobD K mg "NOTHING" (t3 0 0 0)
  gl_EMPTY : GlobD K mg "EMPTY" (cenD 0)


local macro_rules | `(tactic| walk_at "dnat") => `(tactic| first | assumption | omega | exact Nat.le_of_ble_eq_true rfl)
local macro_rules | `(tactic| walk_at "dnatz") => `(tactic| first | exact trivial | walk_at "dnat")
local macro_rules | `(tactic| walk_at "bd6") => `(tactic| first | assumption | exact ⟨by walk_at "bd", by walk_at "bd", by walk_at "bd", by walk_at "bd", by walk_at "bd", by walk_at "bd"⟩)
local macro_rules | `(tactic| walk_at "bd3") => `(tactic| first | assumption | exact ⟨by walk_at "bd", by walk_at "bd", by walk_at "bd"⟩)
local macro_rules | `(tactic| walk_at "dcnd") => `(tactic| first | exact trivial | assumption | exact ⟨rfl, rfl⟩)
local macro_rules | `(tactic| walk_at "dk2") => `(tactic| first
  | ((with_reducible apply cTake_i); (with_reducible assumption); (walk_at "dnat"); (walk_at "dnat"); (walk_at "bd"))
  | ((with_reducible apply cWhole_i); (with_reducible assumption); (walk_at "dnat"); (walk_at "dnat"); (walk_at "bd"))
  | ((with_reducible apply cOnto_i); (with_reducible assumption); (walk_at "dnat"); (walk_at "dnat"); (walk_at "bd"))
  | ((with_reducible apply cWord_i); (with_reducible assumption); (walk_at "dnat"); (walk_at "dnat"); (walk_at "dnat"))
  | ((with_reducible apply cDeed_i); (with_reducible assumption); (walk_at "dnat"); (walk_at "dnat"); (walk_at "bd"))
  | ((with_reducible refine cRoute_i ?_ ?_ ?_); (assumption); (walk_at "dnat"))
  | ((with_reducible refine cI2_i ?_ ?_); (walk_at "dnatz"))
  | ((with_reducible refine cM0_i ?_))
  | ((with_reducible refine cMdM_i ?_))
  | ((with_reducible apply cMd_i); (assumption); (assumption))
  | ((with_reducible refine cM_i ?_ ?_ ?_); (walk_at "bd6"); (walk_at "dcnd"))
  | ((with_reducible refine cMM_i ?_ ?_ ?_ ?_); (walk_at "bd6"); (walk_at "bd6"); (walk_at "dcnd"))
  | ((with_reducible refine cMT_i ?_ ?_ ?_ ?_); (walk_at "bd6"); (walk_at "bd3"); (walk_at "dcnd"))
  | ((with_reducible refine cMTdM_i ?_ ?_ ?_ ?_); (walk_at "bd6"); (walk_at "bd3"); (walk_at "dcnd"))
  | ((with_reducible apply cMTd_i); (assumption); (assumption); (walk_at "bd6"); (walk_at "bd3"); (walk_at "dcnd"))
  | ((with_reducible refine cMI_i ?_ ?_ ?_); (walk_at "bd6"); (walk_at "dcnd"))
  | ((with_reducible refine cMW_i ?_ ?_ ?_ ?_ ?_); (walk_at "bd6"); (assumption); (walk_at "dnat"); (assumption))
  | ((with_reducible refine cT1_i ?_ ?_); (walk_at "bd3"))
  | ((with_reducible refine cWay_i ?_ ?_); (assumption))
  | ((with_reducible refine cWD_i ?_ ?_ ?_ ?_ ?_); (assumption); (walk_at "bd"); (walk_at "bd"); (walk_at "bd"))
  | ((with_reducible refine cWDD_i ?_ ?_ ?_ ?_ ?_ ?_ ?_ ?_); (assumption); (walk_at "bd"); (walk_at "bd"); (walk_at "bd"); (walk_at "bd"); (walk_at "bd"); (walk_at "bd"))
  | ((with_reducible refine cClub_i ?_ ?_); (assumption))
  | ((with_reducible refine cPos3_i ?_ ?_ ?_ ?_); (assumption); (assumption); (assumption))
  | ((with_reducible apply cPart_i); (assumption); (walk_at "bd"); (walk_at "bd"); (walk_at "bd"))
  | ((with_reducible refine cFull_i ?_ ?_); (assumption))
  | ((with_reducible apply cWith_i); (first | assumption | exact .cen (by assumption) | exact .row (by assumption) (by assumption)))
  | ((with_reducible apply cPlainF_i); (first | exact .cen | exact .row (by assumption) (by assumption)))
  | ((with_reducible refine cMade_i ?_ ?_ ?_); (assumption); (assumption))
  | ((with_reducible apply cAcross_i); (assumption); (walk_at "bd"); (walk_at "bd"); (assumption); (assumption))
  | ((with_reducible apply cLevel_i); (assumption); (assumption); (assumption))
  | ((with_reducible apply cLevelB_i); (assumption); (assumption); (walk_at "bd"); (walk_at "bd"); (walk_at "bd"); (assumption))
  | ((with_reducible refine cWDDD_i ?_ ?_ ?_ ?_ ?_ ?_ ?_ ?_ ?_ ?_ ?_); (assumption); (walk_at "bd"); (walk_at "bd"); (walk_at "bd"); (walk_at "bd"); (walk_at "bd"); (walk_at "bd"); (walk_at "bd"); (walk_at "bd"); (walk_at "bd"))
  | ((with_reducible refine cMk_i ?_ ?_); (first | assumption | exact .full (by assumption) | exact .line (by assumption)))
  | ((with_reducible refine cFinite_i ?_ ?_ ?_ ?_ ?_); (assumption); (omega); (decide); (decide))
  | ((with_reducible apply cDeedsM_i); (assumption); (assumption); (assumption))
  | ((with_reducible apply cOrdM_i); (assumption); (assumption); (assumption); (assumption); (assumption); (first | exact trivial | assumption))
  | refine ⟨_, ⟨_, List.mem_cons_self, rfl⟩, ?_⟩)

local macro_rules | `(tactic| walk_at "bd") => `(tactic| focus ((with_reducible apply Bd.fit); (repeat' (first | with_reducible assumption | with_reducible apply Bd.add | with_reducible apply Bd.sub | with_reducible apply Bd.mul | with_reducible apply Bd.neg | with_reducible apply Bd.ediv | with_reducible apply Bd.emod | decide | exact Bd.lit (n := 64) rfl | exact Bd.lit (n := 300) rfl)); (all_goals (exact rfl))))
local macro_rules | `(tactic| walk_at "dok") => `(tactic| first | exact trivial | assumption | exact rfl)
local macro_rules | `(tactic| walk_at "dm") => `(tactic| first | (exact Bd.okL (Bd.lit rfl)) | (exact Bd.okR (Bd.lit rfl)) | (exact Bd.okR (by with_reducible assumption)) | (refine Bd.ok (n := 60000000) (m := 60000000) ?_ ?_ rfl <;> walk_at "bd"))
local macro_rules | `(tactic| walk_at "dty") => `(tactic| first | with_reducible exact tyInt | with_reducible exact tyBool | with_reducible exact tyStr | with_reducible exact tyTuple | with_reducible exact tyList)
local macro_rules | `(tactic| walk_at "dk") => `(tactic| first
  | ((with_reducible refine cIsNumber_i ?_ ?_); (walk_at "dok"))
  | ((with_reducible refine cIsLong_i ?_ ?_); (walk_at "dok"))
  | ((with_reducible refine cTupled_i ?_ ?_); (walk_at "dok"))
  | ((with_reducible refine cPlain1_i ?_ ?_); (walk_at "dok"))
  | ((with_reducible refine cRowOf_i ?_ ?_); (walk_at "dok"))
  | ((with_reducible refine cSureDeed_i  ?_))
  | ((with_reducible refine cSureNumber_i  ?_))
  | ((with_reducible refine cD1_i ?_ ?_ ?_ ?_); (walk_at "bd"); (walk_at "bd"); (walk_at "bd"))
  | ((with_reducible refine cD2_i ?_ ?_ ?_ ?_ ?_ ?_ ?_); (walk_at "bd"); (walk_at "bd"); (walk_at "bd"); (walk_at "bd"); (walk_at "bd"); (walk_at "bd"))
  | ((with_reducible refine cDI_i ?_ ?_ ?_ ?_ ?_); (walk_at "bd"); (walk_at "bd"); (walk_at "bd"); (walk_at "bd"))
  | ((with_reducible refine cI1_i ?_ ?_); (walk_at "bd"))
  | walk_at "dk2")
local macro_rules | `(tactic| walk_at "dlen") => `(tactic| first | with_reducible assumption | ((first | (with_reducible refine le_line6 ?_) | (with_reducible refine lt_line6 ?_)); (focus ((try simp only [List.length_map, List.length_append, List.length_cons, List.length_nil, rangeD_len]); (first | done | omega)))))
local macro_rules | `(tactic| walk_at "dnorm") => `(tactic| ((try dsimp only [wipeR, List.map, List.set]); (try exact rfl)))
local macro_rules | `(tactic| walk_at "dS") => `(tactic| ((fail_if_success (with_reducible refine asg_list ?_)); (fail_if_success (with_reducible refine asg_par3l ?_)); (fail_if_success (with_reducible refine asg_par2l ?_)); (fail_if_success (with_reducible refine asg_par3a ?_)); first
  | with_reducible refine ds_retCN ?_
  | with_reducible refine ds_ret ?_
  | ((with_reducible refine vPar3 (by assumption) (by assumption) (by assumption) (by assumption) ?_ ?_ ?_ ?_); (decide +kernel); (exact rfl); (exact ⟨rfl, rfl, rfl⟩))
  | ((with_reducible refine vPar (by assumption) (by assumption) (by assumption) ?_ ?_ ?_ ?_); (decide +kernel); (exact rfl); (exact rfl))
  | ((with_reducible refine vAsgF ?_ ?_ ?_ ?_); (decide +kernel); (exact rfl); (exact rfl))
  | ((with_reducible refine vAsgC (by assumption) ?_ ?_ ?_ ?_); (decide +kernel); (exact rfl); (exact rfl))
  | ((with_reducible refine vSet (by assumption) (by assumption) ?_ ?_); (exact rfl))
  | ((with_reducible refine ds_store ?_ ?_ ?_ ?_ ?_); (exact rfl); (exact rfl); (exact rfl); (exact fun _ => rfl))
  | ((with_reducible refine ds_asg ?_ ?_ ?_ ?_); (exact rfl); (exact rfl); (exact rfl))
  | (with_reducible refine ds_if ?_)
  | ((with_reducible refine vAug (by assumption) (by assumption) ?_); (refine ⟨_, rfl, ?_⟩))
  | ((with_reducible refine ds_expr ?_ ?_); (exact rfl))))
local macro_rules | `(tactic| walk_at "dG") => `(tactic| first
  | ((with_reducible refine vG (by assumption) (by assumption) ?_ ?_); (exact rfl))
  | ((with_reducible refine dg_tup (n := _) (by assumption) rfl ?_ ?_); (exact rfl); (refine ⟨_, rfl, rfl, ?_⟩)))
local macro_rules | `(tactic| walk_at "dC") => `(tactic| first
  | ((with_reducible refine vIsi (by assumption) (by assumption) (by walk_at "dty") (by assumption) (by assumption) ?_ ?_); (exact rfl))
  | ((with_reducible refine vIsi2 (by assumption) (by assumption) (by walk_at "dty") (by walk_at "dty") (by assumption) (by assumption) (by assumption) ?_ ?_); (exact rfl))
  | ((with_reducible refine vCall (by assumption) (by assumption) (by assumption) ?_ ?_ ?_ ?_); (exact rfl); (exact rfl); (exact rfl))
  | ((with_reducible refine de_append ?_ ?_ ?_ ?_ ?_); (exact rfl); (exact rfl); (exact rfl); (exact rfl))
  | ((with_reducible refine de_extend ?_ ?_ ?_ ?_ ?_); (exact rfl); (exact rfl); (exact rfl); (exact rfl))
  | ((with_reducible refine de_join ?_ ?_ ?_ ?_); (exact rfl); (exact rfl); (exact rfl))
  | ((with_reducible refine de_sindex ?_ ?_ ?_ ?_); (exact rfl); (exact rfl); (exact rfl))
  | ((with_reducible refine de_len (by assumption) (by assumption) (Glo.g (by assumption)) ?_ ?_); (exact rfl))
  | ((with_reducible refine de_abs (by assumption) (by assumption) (Glo.g (by assumption)) ?_ ?_); (exact rfl))
  | ((with_reducible refine de_intI (by assumption) (by assumption) (Glo.g (by assumption)) ?_ ?_); (exact rfl))
  | ((with_reducible refine de_sum (by assumption) (by assumption) (Glo.g (by assumption)) ?_ ?_); (exact rfl))
  | ((with_reducible refine de_min2 (by assumption) (by assumption) (Glo.g (by assumption)) ?_ ?_ ?_ ?_); (exact rfl); (exact rfl); (exact rfl))
  | ((with_reducible refine de_tupleOf (by assumption) (by assumption) (Glo.g (by assumption)) ?_ ?_); (exact rfl))
  | ((with_reducible refine de_all (by assumption) (by assumption) (Glo.g (by assumption)) ?_ ?_); (exact rfl))
  | ((with_reducible refine de_any (by assumption) (by assumption) (Glo.g (by assumption)) ?_ ?_); (exact rfl)))
local macro_rules | `(tactic| walk_at "dE") => `(tactic| first
  | ((with_reducible refine vName (by assumption) (by assumption) ?_); (refine ⟨_, rfl, ?_⟩))
  | ((with_reducible refine de_glob (by assumption) (by assumption) (Glo.g (by assumption)) ?_))
  | (with_reducible refine de_int ?_)
  | ((with_reducible refine de_callId ?_); walk_at "dC")
  | (with_reducible refine de_bin ?_)
  | ((with_reducible refine de_cmp ?_ ?_); (exact rfl))
  | ((with_reducible refine de_chain ?_ ?_); (exact rfl))
  | (with_reducible refine de_revT ?_)
  | (with_reducible refine de_slLo ?_)
  | (with_reducible refine de_slHi ?_)
  | (with_reducible refine de_slLH ?_)
  | ((with_reducible refine de_kd (by assumption) (by assumption) (Glo.g (by assumption)) ?_ ?_); (exact fun _ _ => rfl))
  | ((with_reducible refine vDctIx (by assumption) (by assumption) ?_ ?_); (exact fun _ _ => rfl); (refine ⟨_, _, rfl, ?_⟩))
  | ((with_reducible refine de_ix ?_ ?_); (exact fun _ _ => rfl))
  | ((with_reducible refine de_tup ?_ ?_); (exact rfl))
  | (with_reducible refine de_neg ?_)
  | (with_reducible refine de_if ?_)
  | (with_reducible refine de_bl ?_)
  | (with_reducible refine de_str ?_)
  | (with_reducible refine de_non ?_)
  | (with_reducible refine de_not ?_)
  | (with_reducible refine de_and ?_)
  | (with_reducible refine de_or ?_)
  | (with_reducible refine de_bool1 ?_)
  | ((with_reducible refine de_lst ?_ ?_); (exact rfl)))
local macro_rules | `(tactic| walk_at "dT") => `(tactic| first
  | (with_reducible refine dt_bool ?_)
  | (with_reducible refine dt_not ?_)
  | ((with_reducible refine dt_cmp ?_ ?_); (exact rfl))
  | ((with_reducible refine dt_truth ?_ ?_); (exact fun _ => rfl)))
local macro_rules | `(tactic| walk_at "dW") => `(tactic| first
  | (with_reducible refine dw_and ?_)
  | (with_reducible refine dw_or ?_)
  | (with_reducible refine dw_and1 ?_)
  | (with_reducible refine dw_or1 ?_))
local macro_rules | `(tactic| walk_at "dO") => `(tactic| first
  | with_reducible refine do_add ?_
  | with_reducible refine do_sub ?_
  | ((with_reducible refine do_cat ?_ ?_); (exact sz rfl))
  | ((with_reducible refine do_mulX ?_ ?_); (walk_at "dm"))
  | ((with_reducible refine do_fdiv ?_ ?_); (exact Bd.div (by decide) (Bd.lit (n := 9000) rfl) rfl))
  | ((with_reducible refine do_fdiv ?_ ?_); (exact Bd.div (by assumption) (by assumption) rfl))
  | ((with_reducible refine do_mod ?_ ?_); (first | (exact (by decide)) | assumption | omega))
  | ((with_reducible refine do_mulS ?_ ?_); (assumption))
  | ((with_reducible refine do_catT ?_ ?_); (walk_at "dlen"))
  | (with_reducible refine do_eqC (by assumption) ?_)
  | with_reducible refine do_gt3 (by assumption) ?_
  | with_reducible refine do_lt3 (by assumption) ?_
  | with_reducible refine do_ge3 (by assumption) ?_
  | with_reducible refine do_p3 ?_
  | with_reducible refine do_p4 ?_
  | with_reducible refine do_p5 ?_
  | with_reducible refine do_eqT2 (by assumption) ?_
  | with_reducible refine do_eqSTL (by assumption) ?_
  | with_reducible refine do_inU ?_
  | with_reducible refine do_notInU ?_
  | with_reducible refine do_p8 ?_
  | with_reducible refine do_p21 ?_
  | with_reducible refine do_p18 ?_
  | with_reducible refine do_p7 ?_
  | with_reducible refine do_p20 ?_
  | with_reducible refine do_p29 ?_
  | with_reducible refine do_eqI ?_
  | with_reducible refine do_neI ?_
  | with_reducible refine do_lt ?_
  | with_reducible refine do_le ?_
  | with_reducible refine do_gt ?_
  | with_reducible refine do_ge ?_
  | with_reducible refine do_isN ?_
  | with_reducible refine do_notN ?_
  | with_reducible refine do_inS ?_
  | with_reducible refine do_eqB ?_
  | with_reducible refine do_neB ?_
  | with_reducible refine do_eqS ?_
  | with_reducible refine do_neS ?_
  | with_reducible refine do_eqT3 (by assumption) ?_
  | with_reducible refine do_neNil (by assumption) ?_
  | with_reducible refine do_iadd ?_
  | with_reducible refine do_isub ?_)
local macro_rules | `(tactic| walk_at "dw") => `(tactic| first
  | ((with_reducible refine de_id ?_); walk_at "dE")
  | ((with_reducible refine do_id ?_); walk_at "dO")
  | ((with_reducible refine da_cons ?_ ?_); rotate_left; (exact rfl))
  | ((with_reducible refine dn_lst ?_ ?_); (exact rfl))
  | (with_reducible refine da_nil ?_)
  | ((with_reducible refine ds_id ?_); walk_at "dS")
  | with_reducible refine ds_cons ?_
  | with_reducible refine ds_nil ?_
  | with_reducible refine ds_one ?_
  | ((with_reducible refine dt_id ?_); walk_at "dT")
  | ((with_reducible refine dw_id ?_); walk_at "dW")
  | ((with_reducible refine dg_id ?_); walk_at "dG")
  | ((with_reducible refine dgs_cons ?_ ?_); (exact rfl))
  | (with_reducible refine dgs_nil ?_)
  | with_reducible refine nx_mk ?_
  | with_reducible refine rt_mk ?_
  | ((with_reducible apply nx_norm); (walk_at "dnorm"))
  | ((with_reducible apply nxG_norm); (walk_at "dnorm"))
  | with_reducible refine RetP.same ?_
  | ((with_reducible refine RetP.here ?_ ?_); (exact rfl))
  | ((with_reducible refine vRange1 (by assumption) (by assumption) (by assumption) ?_ ?_); (exact rfl))
  | ((with_reducible refine rng_and ?_ ?_); (exact ⟨by omega, by omega⟩))
  | ((with_reducible refine len_and ?_ ?_); (walk_at "dlen"))
  | ((with_reducible refine le_and ?_ ?_); (walk_at "dlen"))
  | ((with_reducible refine okc_and ?_ ?_); (walk_at "dok"))
  | ((with_reducible refine ite_t ?_ ?_); (exact rfl))
  | ((with_reducible refine ite_f ?_ ?_); (exact rfl))
  | ((with_reducible refine ite_t ?_ ?_); (with_reducible assumption))
  | ((with_reducible refine ite_f ?_ ?_); (with_reducible assumption))
  | walk_at "dk"
  | refine ⟨_, rfl, ?_⟩
  | refine ⟨_, _, rfl, rfl, ?_⟩
  | refine ⟨_, _, rfl, ⟨by with_reducible assumption, rfl⟩, ?_⟩
  | refine ⟨_, _, rfl, ?_⟩
  | refine ⟨_, _, _, rfl, ?_⟩
  | refine ⟨_, ⟨sz rfl, _, rfl, rfl⟩, ?_⟩
  | refine ⟨_, ⟨sz rfl, rfl⟩, ?_⟩
  | refine .inl ⟨_, rfl, ?_⟩
  | refine .inr ⟨_, rfl, ?_⟩
  | refine ⟨_, _, _, _, rfl, rfl, ?_⟩)

theorem sc_is_number : FnScope ["thing"] ["thing"] (defScope (topS 4)) := ⟨rfl, rfl, rfl, by decide +kernel, rfl, by decide +kernel, by decide +kernel⟩
def tb_is_number : List (Str × Nat) := [("thing", 0)]
def nm_is_number : List (Str × NameKind) := [("thing", .local), ("isinstance", .globalImplicit), ("int", .globalImplicit), ("bool", .globalImplicit)]
theorem ok_is_number {P : Program} {w : World} {K : PySem.W.Frag} {mg : Str → Option Value} {base : Heap} (M : Mod K w mg) : Fn P w K mg base "is_number" 1 1 (cIsNumber) := by
  refine (M.h_is_number).fn (tb := tb_is_number) sc_is_number rfl (names := nm_is_number) rfl (by decide +kernel) fun X A ds S Φ hl h => ?_
  have G := M.nob
  have v_thing := A.var "thing" 0 (by decide +kernel)
  have s_thing := A.stv "thing" 0 (by decide +kernel)
  have l_thing := A.lcv "thing" 0 (by decide +kernel)
  have g_isinstance := A.glo "isinstance" (by decide +kernel)
  have g_int := A.glo "int" (by decide +kernel)
  have g_bool := A.glo "bool" (by decide +kernel)
  obtain ⟨d, rfl, hc, h⟩ := h
  (change DSs X _ [some (d)] _ _; (first | refine ds_one ?_ | refine ds_cons ?_))
  cases d <;> repeat walk_at "dw"
  all_goals exact h

theorem sc_is_long : FnScope ["thing", "length"] ["thing", "length"] (defScope (topS 6)) := ⟨rfl, rfl, rfl, by decide +kernel, rfl, by decide +kernel, by decide +kernel⟩
def tb_is_long : List (Str × Nat) := [("thing", 0), ("length", 1)]
def nm_is_long : List (Str × NameKind) := [("thing", .local), ("length", .local), ("isinstance", .globalImplicit), ("tuple", .globalImplicit), ("len", .globalImplicit)]
theorem ok_is_long {P : Program} {w : World} {K : PySem.W.Frag} {mg : Str → Option Value} {base : Heap} (M : Mod K w mg) : Fn P w K mg base "is_long" 2 1 (cIsLong) := by
  refine (M.h_is_long).fn (tb := tb_is_long) sc_is_long rfl (names := nm_is_long) rfl (by decide +kernel) fun X A ds S Φ hl h => ?_
  have G := M.nob
  have v_thing := A.var "thing" 0 (by decide +kernel)
  have s_thing := A.stv "thing" 0 (by decide +kernel)
  have l_thing := A.lcv "thing" 0 (by decide +kernel)
  have v_length := A.var "length" 1 (by decide +kernel)
  have s_length := A.stv "length" 1 (by decide +kernel)
  have l_length := A.lcv "length" 1 (by decide +kernel)
  have g_isinstance := A.glo "isinstance" (by decide +kernel)
  have g_tuple := A.glo "tuple" (by decide +kernel)
  have g_len := A.glo "len" (by decide +kernel)
  obtain ⟨d, n, rfl, hc, h⟩ := h
  (change DSs X _ [some (d), some (.int n)] _ _; (first | refine ds_one ?_ | refine ds_cons ?_))
  cases d <;> repeat walk_at "dw"
  all_goals exact h

def tb_tupled : List (Str × Nat) := [("value", 0), ("own", 1)]
def nm_tupled : List (Str × NameKind) := [("value", .local), ("isinstance", .globalImplicit), ("list", .globalImplicit), ("tuple", .globalImplicit)]
theorem sc_tupled : FnScope ["value", "own"] ["value"] (defScope (topS 7)) := ⟨rfl, rfl, rfl, by decide +kernel, rfl, by decide +kernel, by decide +kernel⟩
theorem ok_tupled {P : Program} {w : World} {K : PySem.W.Frag} {mg : Str → Option Value} {base : Heap} (M : Mod K w mg) (n : Nat) : Fn P w K mg base "tupled" 1 (n + 1) (cTupled n) := by
  induction n with
  | zero =>
    refine (M.h_tupled).fn (tb := tb_tupled) sc_tupled rfl (names := nm_tupled) rfl (by decide +kernel) fun X A ds S Φ hl h => ?_
    have G := M.nob
    have v_value := A.var "value" 0 (by decide +kernel)
    have s_value := A.stv "value" 0 (by decide +kernel)
    have l_value := A.lcv "value" 0 (by decide +kernel)
    have g_isinstance := A.glo "isinstance" (by decide +kernel)
    have g_list := A.glo "list" (by decide +kernel)
    have g_tuple := A.glo "tuple" (by decide +kernel)
    obtain ⟨d, rfl, h2, h⟩ := h
    change DSs X _ [some d, none] S _
    refine ds_one ?_
    cases d
    case tup => unfold fitD at h2; cases h2
    case lst => unfold fitD at h2; cases h2
    case frz => unfold fitD at h2; cases h2
    case cell => unfold fitD at h2; cases h2
    case dct => unfold fitD at h2; cases h2
    case rng => unfold fitD at h2; cases h2
    all_goals repeat walk_at "dw"
    all_goals (unfold nrm at h; exact h)
  | succ n ih =>
    refine (M.h_tupled).fn (tb := tb_tupled) sc_tupled rfl (names := nm_tupled) rfl (by decide +kernel) fun X A ds S Φ hl h => ?_
    have G := M.nob
    have v_value := A.var "value" 0 (by decide +kernel)
    have s_value := A.stv "value" 0 (by decide +kernel)
    have l_value := A.lcv "value" 0 (by decide +kernel)
    have g_isinstance := A.glo "isinstance" (by decide +kernel)
    have g_list := A.glo "list" (by decide +kernel)
    have g_tuple := A.glo "tuple" (by decide +kernel)
    obtain ⟨d, rfl, h2, h⟩ := h
    change DSs X _ [some d, none] S _
    refine ds_one ?_
    cases d
    case cell => unfold fitD at h2; cases h2
    case dct => unfold fitD at h2; cases h2
    case rng => unfold fitD at h2; cases h2
    case tup =>
      repeat walk_at "dw"      
      rename_i l
      have hf := h2
      unfold fitD at hf
      rw [Bool.and_eq_true] at hf
      refine de_lcN (own := [("own", 1)]) 1 nrm A rfl (by decide +kernel) (fun _ => rfl) (by decide +kernel) (by decide +kernel) ?_
      refine di_tup (vName A (by assumption) ⟨_, rfl, ?_⟩)
      refine ⟨_, rfl, Nat.le_of_ble_eq_true hf.1, ?_, ?_⟩
      · intro d hd X' A' Ξ hΞ
        refine de_norm (by walk_at "dnorm") ?_
        have hfd := fit_in hf.2 d hd
        have w_own := A'.var "own" 1 (by decide +kernel)
        have h_tupled := A'.glo "tupled" (by decide +kernel)
        refine vCall A' ih h_tupled (by rw [ble_self]; exact rfl) rfl rfl ?_
        repeat walk_at "dw"
        exact hΞ
      · refine ⟨_, rfl, ?_⟩
        repeat walk_at "dw"
        unfold nrm at h
        rw [nrmL_map] at h
        exact h
      
    case lst =>
      repeat walk_at "dw"      
      rename_i l
      have hf := h2
      unfold fitD at hf
      rw [Bool.and_eq_true] at hf
      refine de_lcN (own := [("own", 1)]) 1 nrm A rfl (by decide +kernel) (fun _ => rfl) (by decide +kernel) (by decide +kernel) ?_
      refine di_lst (vName A (by assumption) ⟨_, rfl, ?_⟩)
      refine ⟨_, rfl, Nat.le_of_ble_eq_true hf.1, ?_, ?_⟩
      · intro d hd X' A' Ξ hΞ
        refine de_norm (by walk_at "dnorm") ?_
        have hfd := fit_in hf.2 d hd
        have w_own := A'.var "own" 1 (by decide +kernel)
        have h_tupled := A'.glo "tupled" (by decide +kernel)
        refine vCall A' ih h_tupled (by rw [ble_self]; exact rfl) rfl rfl ?_
        repeat walk_at "dw"
        exact hΞ
      · refine ⟨_, rfl, ?_⟩
        repeat walk_at "dw"
        unfold nrm at h
        rw [nrmL_map] at h
        exact h
      
    case frz =>
      repeat walk_at "dw"      
      rename_i l
      have hf := h2
      unfold fitD at hf
      rw [Bool.and_eq_true] at hf
      refine de_lcN (own := [("own", 1)]) 1 nrm A rfl (by decide +kernel) (fun _ => rfl) (by decide +kernel) (by decide +kernel) ?_
      refine di_frz (vName A (by assumption) ⟨_, rfl, ?_⟩)
      refine ⟨_, rfl, Nat.le_of_ble_eq_true hf.1, ?_, ?_⟩
      · intro d hd X' A' Ξ hΞ
        refine de_norm (by walk_at "dnorm") ?_
        have hfd := fit_in hf.2 d hd
        have w_own := A'.var "own" 1 (by decide +kernel)
        have h_tupled := A'.glo "tupled" (by decide +kernel)
        refine vCall A' ih h_tupled (by rw [ble_self]; exact rfl) rfl rfl ?_
        repeat walk_at "dw"
        exact hΞ
      · refine ⟨_, rfl, ?_⟩
        repeat walk_at "dw"
        unfold nrm at h
        rw [nrmL_map] at h
        exact h
      
    all_goals repeat walk_at "dw"
    all_goals (unfold nrm at h; exact h)

theorem sc_are_numbers : FnScope ["thing", "own"] ["thing"] (defScope (topS 8)) := ⟨rfl, rfl, rfl, by decide +kernel, rfl, by decide +kernel, by decide +kernel⟩
def tb_are_numbers : List (Str × Nat) := [("thing", 0), ("own", 1)]
def nm_are_numbers : List (Str × NameKind) := [("thing", .local), ("isinstance", .globalImplicit), ("tuple", .globalImplicit), ("all", .globalImplicit)]
theorem ok_are_numbers {P : Program} {w : World} {K : PySem.W.Frag} {mg : Str → Option Value} {base : Heap} (M : Mod K w mg) : Fn P w K mg base "are_numbers" 1 2 (cPlain1 fun d => .bl (areNumB d)) := by
  have d_is_number := ok_is_number (P := P) (w := w) (base := base) M
  refine (M.h_are_numbers).fn (tb := tb_are_numbers) sc_are_numbers rfl (names := nm_are_numbers) rfl (by decide +kernel) fun X A ds S Φ hl h => ?_
  have G := M.nob
  have v_thing := A.var "thing" 0 (by decide +kernel)
  have s_thing := A.stv "thing" 0 (by decide +kernel)
  have l_thing := A.lcv "thing" 0 (by decide +kernel)
  have g_isinstance := A.glo "isinstance" (by decide +kernel)
  have g_tuple := A.glo "tuple" (by decide +kernel)
  have g_all := A.glo "all" (by decide +kernel)
  obtain ⟨d, rfl, hc, h⟩ := h
  have hok := plain_ok (S := S) hc
  (change DSs X _ [some (d), none] _ _; (first | refine ds_one ?_ | refine ds_cons ?_))
  cases d
  case tup l =>
    repeat walk_at "dw"
    refine de_lcN (own := [("own", 1)]) 1 (fun d => .bl (isNumB d)) A rfl (by decide +kernel) (fun _ => rfl) (by decide +kernel) (by decide +kernel) ?_
    refine di_tup (vName A (by assumption) ⟨_, rfl, ?_⟩)
    refine ⟨_, rfl, ?_, ?_, ?_⟩
    · exact (plain_tup hc).1
    · intro d hd X' A' Ξ hΞ
      refine de_norm (by walk_at "dnorm") ?_
      have w_own := A'.var "own" 1 (by decide +kernel)
      have u_own := A'.stv "own" 1 (by decide +kernel)
      have h_is_number := A'.glo "is_number" (by decide +kernel)
      have hokd := plain_ok (S := S) (plain_in (plain_tup hc).2 d hd)
      repeat walk_at "dw"
      exact hΞ
    · refine ⟨l.map isNumB, congrArg D.lst bls_map, ?_⟩
      repeat walk_at "dw"
      rw [List.all_map]
      exact h
  all_goals repeat walk_at "dw"
  all_goals exact h

theorem sc_is_row_of : FnScope ["thing", "many", "least"] ["thing", "many", "least"] (defScope (topS 10)) := ⟨rfl, rfl, rfl, by decide +kernel, rfl, by decide +kernel, by decide +kernel⟩
def tb_is_row_of : List (Str × Nat) := [("thing", 0), ("many", 1), ("least", 2)]
def nm_is_row_of : List (Str × NameKind) := [("thing", .local), ("many", .local), ("least", .local), ("is_long", .globalImplicit), ("are_numbers", .globalImplicit), ("are_from", .globalImplicit)]
theorem ok_is_row_of {P : Program} {w : World} {K : PySem.W.Frag} {mg : Str → Option Value} {base : Heap} (M : Mod K w mg) : Fn P w K mg base "is_row_of" 3 3 (cRowOf) := by
  have d_is_long := ok_is_long (P := P) (w := w) (base := base) M
  have d_are_numbers := ok_are_numbers (P := P) (w := w) (base := base) M
  refine (M.h_is_row_of).fn (tb := tb_is_row_of) sc_is_row_of rfl (names := nm_is_row_of) rfl (by decide +kernel) fun X A ds S Φ hl h => ?_
  have G := M.nob
  have v_thing := A.var "thing" 0 (by decide +kernel)
  have s_thing := A.stv "thing" 0 (by decide +kernel)
  have l_thing := A.lcv "thing" 0 (by decide +kernel)
  have v_many := A.var "many" 1 (by decide +kernel)
  have s_many := A.stv "many" 1 (by decide +kernel)
  have l_many := A.lcv "many" 1 (by decide +kernel)
  have v_least := A.var "least" 2 (by decide +kernel)
  have s_least := A.stv "least" 2 (by decide +kernel)
  have l_least := A.lcv "least" 2 (by decide +kernel)
  have g_is_long := A.glo "is_long" (by decide +kernel)
  have g_are_numbers := A.glo "are_numbers" (by decide +kernel)
  have g_are_from := A.glo "are_from" (by decide +kernel)
  obtain ⟨d, n, rfl, hc, h⟩ := h
  have hok := plain_ok (S := S) hc
  (change DSs X _ [some (d), some (.int n), some (.non)] _ _; (first | refine ds_one ?_ | refine ds_cons ?_))
  repeat walk_at "dw"
  refine ite_c (fun e => ?_) (fun e => ?_) <;> rw [e] at h <;> repeat walk_at "dw"
  all_goals first | exact h | (rw [e]; exact h)

theorem sc_is_triple : FnScope ["thing"] ["thing"] (defScope (topS 14)) := ⟨rfl, rfl, rfl, by decide +kernel, rfl, by decide +kernel, by decide +kernel⟩
def tb_is_triple : List (Str × Nat) := [("thing", 0)]
def nm_is_triple : List (Str × NameKind) := [("thing", .local), ("is_row_of", .globalImplicit)]
theorem ok_is_triple {P : Program} {w : World} {K : PySem.W.Frag} {mg : Str → Option Value} {base : Heap} (M : Mod K w mg) : Fn P w K mg base "is_triple" 1 4 (cPlain1 fun d => .bl (isTripB d)) := by
  have d_is_row_of := ok_is_row_of (P := P) (w := w) (base := base) M
  refine (M.h_is_triple).fn (tb := tb_is_triple) sc_is_triple rfl (names := nm_is_triple) rfl (by decide +kernel) fun X A ds S Φ hl h => ?_
  have G := M.nob
  have v_thing := A.var "thing" 0 (by decide +kernel)
  have s_thing := A.stv "thing" 0 (by decide +kernel)
  have l_thing := A.lcv "thing" 0 (by decide +kernel)
  have g_is_row_of := A.glo "is_row_of" (by decide +kernel)
  obtain ⟨d, rfl, hc, h⟩ := h
  (change DSs X _ [some (d)] _ _; (first | refine ds_one ?_ | refine ds_cons ?_))
  repeat walk_at "dw"
  exact h

theorem sc_is_deed : FnScope ["thing"] ["thing"] (defScope (topS 19)) := ⟨rfl, rfl, rfl, by decide +kernel, rfl, by decide +kernel, by decide +kernel⟩
def tb_is_deed : List (Str × Nat) := [("thing", 0)]
def nm_is_deed : List (Str × NameKind) := [("thing", .local), ("is_triple", .globalImplicit)]
theorem ok_is_deed {P : Program} {w : World} {K : PySem.W.Frag} {mg : Str → Option Value} {base : Heap} (M : Mod K w mg) : Fn P w K mg base "is_deed" 1 5 (cPlain1 fun d => .bl (isTripB d)) := by
  have d_is_triple := ok_is_triple (P := P) (w := w) (base := base) M
  refine (M.h_is_deed).fn (tb := tb_is_deed) sc_is_deed rfl (names := nm_is_deed) rfl (by decide +kernel) fun X A ds S Φ hl h => ?_
  have G := M.nob
  have v_thing := A.var "thing" 0 (by decide +kernel)
  have s_thing := A.stv "thing" 0 (by decide +kernel)
  have l_thing := A.lcv "thing" 0 (by decide +kernel)
  have g_is_triple := A.glo "is_triple" (by decide +kernel)
  obtain ⟨d, rfl, hc, h⟩ := h
  (change DSs X _ [some (d)] _ _; (first | refine ds_one ?_ | refine ds_cons ?_))
  repeat walk_at "dw"
  exact h

theorem sc_pairs_of : FnScope ["number"] ["number"] (defScope (topS 13)) := ⟨rfl, rfl, rfl, by decide +kernel, rfl, by decide +kernel, by decide +kernel⟩
def tb_pairs_of : List (Str × Nat) := [("number", 0)]
def nm_pairs_of : List (Str × NameKind) := [("number", .local)]
theorem ok_pairs_of {P : Program} {w : World} {K : PySem.W.Frag} {mg : Str → Option Value} {base : Heap} (M : Mod K w mg) : Fn P w K mg base "pairs_of" 1 1 (cI1 30000000 fun n => .int (n * (n - 1) / 2)) := by
  refine (M.h_pairs_of).fn (tb := tb_pairs_of) sc_pairs_of rfl (names := nm_pairs_of) rfl (by decide +kernel) fun X A ds S Φ hl h => ?_
  have G := M.nob
  have v_number := A.var "number" 0 (by decide +kernel)
  have s_number := A.stv "number" 0 (by decide +kernel)
  have l_number := A.lcv "number" 0 (by decide +kernel)
  obtain ⟨n, rfl, hn, h⟩ := h
  (change DSs X _ [some (.int n)] _ _; (first | refine ds_one ?_ | refine ds_cons ?_))
  repeat walk_at "dw"
  exact h

theorem sc_sure_deed : FnScope ["value", "own"] ["value"] (defScope (topS 20)) := ⟨rfl, rfl, rfl, by decide +kernel, rfl, by decide +kernel, by decide +kernel⟩
def tb_sure_deed : List (Str × Nat) := [("value", 0), ("own", 1)]
def nm_sure_deed : List (Str × NameKind) := [("value", .local), ("own", .local), ("tupled", .globalImplicit), ("is_triple", .globalImplicit), ("Unfit", .globalImplicit)]
theorem ok_sure_deed {P : Program} {w : World} {K : PySem.W.Frag} {mg : Str → Option Value} {base : Heap} (M : Mod K w mg) : Fn P w K mg base "sure_deed" 1 5 (cSureDeed) := by
  have d_tupled := ok_tupled (P := P) (w := w) (base := base) M 1
  have d_is_triple := ok_is_triple (P := P) (w := w) (base := base) M
  refine (M.h_sure_deed).fn (tb := tb_sure_deed) sc_sure_deed rfl (names := nm_sure_deed) rfl (by decide +kernel) fun X A ds S Φ hl h => ?_
  have G := M.nob
  have v_value := A.var "value" 0 (by decide +kernel)
  have s_value := A.stv "value" 0 (by decide +kernel)
  have l_value := A.lcv "value" 0 (by decide +kernel)
  have v_own := A.var "own" 1 (by decide +kernel)
  have s_own := A.stv "own" 1 (by decide +kernel)
  have l_own := A.lcv "own" 1 (by decide +kernel)
  have g_tupled := A.glo "tupled" (by decide +kernel)
  have g_is_triple := A.glo "is_triple" (by decide +kernel)
  have g_Unfit := A.glo "Unfit" (by decide +kernel)
  obtain ⟨x, y, z, rfl, h⟩ := h
  (change DSs X _ [some (t3 x y z), none] _ _; (first | refine ds_one ?_ | refine ds_cons ?_))
  repeat walk_at "dw"
  exact h

theorem sc_joined : FnScope ["one", "other"] ["one", "other"] (defScope (topS 22)) := ⟨rfl, rfl, rfl, by decide +kernel, rfl, by decide +kernel, by decide +kernel⟩
def tb_joined : List (Str × Nat) := [("one", 0), ("other", 1)]
def nm_joined : List (Str × NameKind) := [("one", .local), ("other", .local)]
theorem ok_joined {P : Program} {w : World} {K : PySem.W.Frag} {mg : Str → Option Value} {base : Heap} (M : Mod K w mg) : Fn P w K mg base "joined" 2 1 (cD2 10000000 fJoin) := by
  refine (M.h_joined).fn (tb := tb_joined) sc_joined rfl (names := nm_joined) rfl (by decide +kernel) fun X A ds S Φ hl h => ?_
  have G := M.nob
  have v_one := A.var "one" 0 (by decide +kernel)
  have s_one := A.stv "one" 0 (by decide +kernel)
  have l_one := A.lcv "one" 0 (by decide +kernel)
  have v_other := A.var "other" 1 (by decide +kernel)
  have s_other := A.stv "other" 1 (by decide +kernel)
  have l_other := A.lcv "other" 1 (by decide +kernel)
  obtain ⟨x, y, z, p, q, s, rfl, ⟨hx, hy, hz⟩, ⟨hp, hq, hs⟩, h⟩ := h
  (change DSs X _ [some (t3 x y z), some (t3 p q s)] _ _; (first | refine ds_one ?_ | refine ds_cons ?_))
  repeat walk_at "dw"
  exact h

theorem sc_undone_in : FnScope ["deed"] ["deed"] (defScope (topS 23)) := ⟨rfl, rfl, rfl, by decide +kernel, rfl, by decide +kernel, by decide +kernel⟩
def tb_undone_in : List (Str × Nat) := [("deed", 0)]
def nm_undone_in : List (Str × NameKind) := [("deed", .local)]
theorem ok_undone_in {P : Program} {w : World} {K : PySem.W.Frag} {mg : Str → Option Value} {base : Heap} (M : Mod K w mg) : Fn P w K mg base "undone_in" 1 1 (cD1 10000000 fUndo) := by
  refine (M.h_undone_in).fn (tb := tb_undone_in) sc_undone_in rfl (names := nm_undone_in) rfl (by decide +kernel) fun X A ds S Φ hl h => ?_
  have G := M.nob
  have v_deed := A.var "deed" 0 (by decide +kernel)
  have s_deed := A.stv "deed" 0 (by decide +kernel)
  have l_deed := A.lcv "deed" 0 (by decide +kernel)
  obtain ⟨x, y, z, rfl, ⟨hx, hy, hz⟩, h⟩ := h
  (change DSs X _ [some (t3 x y z)] _ _; (first | refine ds_one ?_ | refine ds_cons ?_))
  repeat walk_at "dw"
  exact h

theorem sc_times_in : FnScope ["deed", "many"] ["deed", "many"] (defScope (topS 24)) := ⟨rfl, rfl, rfl, by decide +kernel, rfl, by decide +kernel, by decide +kernel⟩
def tb_times_in : List (Str × Nat) := [("deed", 0), ("many", 1)]
def nm_times_in : List (Str × NameKind) := [("deed", .local), ("many", .local), ("pairs_of", .globalImplicit)]
theorem ok_times_in {P : Program} {w : World} {K : PySem.W.Frag} {mg : Str → Option Value} {base : Heap} (M : Mod K w mg) : Fn P w K mg base "times_in" 2 2 (cDI 10000000 fTimes) := by
  have d_pairs_of := ok_pairs_of (P := P) (w := w) (base := base) M
  refine (M.h_times_in).fn (tb := tb_times_in) sc_times_in rfl (names := nm_times_in) rfl (by decide +kernel) fun X A ds S Φ hl h => ?_
  have G := M.nob
  have v_deed := A.var "deed" 0 (by decide +kernel)
  have s_deed := A.stv "deed" 0 (by decide +kernel)
  have l_deed := A.lcv "deed" 0 (by decide +kernel)
  have v_many := A.var "many" 1 (by decide +kernel)
  have s_many := A.stv "many" 1 (by decide +kernel)
  have l_many := A.lcv "many" 1 (by decide +kernel)
  have g_pairs_of := A.glo "pairs_of" (by decide +kernel)
  obtain ⟨x, y, z, k, rfl, ⟨hx, hy, hz⟩, hk, h⟩ := h
  (change DSs X _ [some (t3 x y z), some (.int k)] _ _; (first | refine ds_one ?_ | refine ds_cons ?_))
  repeat walk_at "dw"
  exact h

theorem sc_crossed : FnScope ["one", "other"] ["one", "other"] (defScope (topS 25)) := ⟨rfl, rfl, rfl, by decide +kernel, rfl, by decide +kernel, by decide +kernel⟩
def tb_crossed : List (Str × Nat) := [("one", 0), ("other", 1)]
def nm_crossed : List (Str × NameKind) := [("one", .local), ("other", .local)]
theorem ok_crossed {P : Program} {w : World} {K : PySem.W.Frag} {mg : Str → Option Value} {base : Heap} (M : Mod K w mg) : Fn P w K mg base "crossed" 2 1 (cD2 10000000 fCross) := by
  refine (M.h_crossed).fn (tb := tb_crossed) sc_crossed rfl (names := nm_crossed) rfl (by decide +kernel) fun X A ds S Φ hl h => ?_
  have G := M.nob
  have v_one := A.var "one" 0 (by decide +kernel)
  have s_one := A.stv "one" 0 (by decide +kernel)
  have l_one := A.lcv "one" 0 (by decide +kernel)
  have v_other := A.var "other" 1 (by decide +kernel)
  have s_other := A.stv "other" 1 (by decide +kernel)
  have l_other := A.lcv "other" 1 (by decide +kernel)
  obtain ⟨x, y, z, p, q, s, rfl, ⟨hx, hy, hz⟩, ⟨hp, hq, hs⟩, h⟩ := h
  (change DSs X _ [some (t3 x y z), some (t3 p q s)] _ _; (first | refine ds_one ?_ | refine ds_cons ?_))
  repeat walk_at "dw"
  exact h

theorem sc__law_join : FnScope ["one", "two"] ["one", "two"] (defScope (topS 62)) := ⟨rfl, rfl, rfl, by decide +kernel, rfl, by decide +kernel, by decide +kernel⟩
def tb__law_join : List (Str × Nat) := [("one", 0), ("two", 1)]
def nm__law_join : List (Str × NameKind) := [("one", .local), ("two", .local)]
theorem ok__law_join {P : Program} {w : World} {K : PySem.W.Frag} {mg : Str → Option Value} {base : Heap} (M : Mod K w mg) : Fn P w K mg base "_law_join" 2 1 (cD2 10000000 fJoin) := by
  refine (M.h__law_join).fn (tb := tb__law_join) sc__law_join rfl (names := nm__law_join) rfl (by decide +kernel) fun X A ds S Φ hl h => ?_
  have G := M.nob
  have v_one := A.var "one" 0 (by decide +kernel)
  have s_one := A.stv "one" 0 (by decide +kernel)
  have l_one := A.lcv "one" 0 (by decide +kernel)
  have v_two := A.var "two" 1 (by decide +kernel)
  have s_two := A.stv "two" 1 (by decide +kernel)
  have l_two := A.lcv "two" 1 (by decide +kernel)
  obtain ⟨x, y, z, p, q, s, rfl, ⟨hx, hy, hz⟩, ⟨hp, hq, hs⟩, h⟩ := h
  (change DSs X _ [some (t3 x y z), some (t3 p q s)] _ _; (first | refine ds_one ?_ | refine ds_cons ?_))
  repeat walk_at "dw"
  exact h

theorem sc__law_undo : FnScope ["one"] ["one"] (defScope (topS 63)) := ⟨rfl, rfl, rfl, by decide +kernel, rfl, by decide +kernel, by decide +kernel⟩
def tb__law_undo : List (Str × Nat) := [("one", 0)]
def nm__law_undo : List (Str × NameKind) := [("one", .local)]
theorem ok__law_undo {P : Program} {w : World} {K : PySem.W.Frag} {mg : Str → Option Value} {base : Heap} (M : Mod K w mg) : Fn P w K mg base "_law_undo" 1 1 (cD1 10000000 fUndo) := by
  refine (M.h__law_undo).fn (tb := tb__law_undo) sc__law_undo rfl (names := nm__law_undo) rfl (by decide +kernel) fun X A ds S Φ hl h => ?_
  have G := M.nob
  have v_one := A.var "one" 0 (by decide +kernel)
  have s_one := A.stv "one" 0 (by decide +kernel)
  have l_one := A.lcv "one" 0 (by decide +kernel)
  obtain ⟨x, y, z, rfl, ⟨hx, hy, hz⟩, h⟩ := h
  (change DSs X _ [some (t3 x y z)] _ _; (first | refine ds_one ?_ | refine ds_cons ?_))
  repeat walk_at "dw"
  exact h

theorem sc__law_times : FnScope ["one", "k"] ["one", "k"] (defScope (topS 64)) := ⟨rfl, rfl, rfl, by decide +kernel, rfl, by decide +kernel, by decide +kernel⟩
def tb__law_times : List (Str × Nat) := [("one", 0), ("k", 1)]
def nm__law_times : List (Str × NameKind) := [("one", .local), ("k", .local)]
theorem ok__law_times {P : Program} {w : World} {K : PySem.W.Frag} {mg : Str → Option Value} {base : Heap} (M : Mod K w mg) : Fn P w K mg base "_law_times" 2 1 (cDI 10000000 fTimes) := by
  refine (M.h__law_times).fn (tb := tb__law_times) sc__law_times rfl (names := nm__law_times) rfl (by decide +kernel) fun X A ds S Φ hl h => ?_
  have G := M.nob
  have v_one := A.var "one" 0 (by decide +kernel)
  have s_one := A.stv "one" 0 (by decide +kernel)
  have l_one := A.lcv "one" 0 (by decide +kernel)
  have v_k := A.var "k" 1 (by decide +kernel)
  have s_k := A.stv "k" 1 (by decide +kernel)
  have l_k := A.lcv "k" 1 (by decide +kernel)
  obtain ⟨x, y, z, k, rfl, ⟨hx, hy, hz⟩, hk, h⟩ := h
  (change DSs X _ [some (t3 x y z), some (.int k)] _ _; (first | refine ds_one ?_ | refine ds_cons ?_))
  repeat walk_at "dw"
  exact h

theorem sc__law_lead : FnScope ["one", "two"] ["one", "two"] (defScope (topS 65)) := ⟨rfl, rfl, rfl, by decide +kernel, rfl, by decide +kernel, by decide +kernel⟩
def tb__law_lead : List (Str × Nat) := [("one", 0), ("two", 1)]
def nm__law_lead : List (Str × NameKind) := [("one", .local), ("two", .local), ("_law_join", .globalImplicit), ("_law_undo", .globalImplicit)]
theorem ok__law_lead {P : Program} {w : World} {K : PySem.W.Frag} {mg : Str → Option Value} {base : Heap} (M : Mod K w mg) : Fn P w K mg base "_law_lead" 2 2 (cD2 1000000 fLead) := by
  have d__law_join := ok__law_join (P := P) (w := w) (base := base) M
  have d__law_undo := ok__law_undo (P := P) (w := w) (base := base) M
  refine (M.h__law_lead).fn (tb := tb__law_lead) sc__law_lead rfl (names := nm__law_lead) rfl (by decide +kernel) fun X A ds S Φ hl h => ?_
  have G := M.nob
  have v_one := A.var "one" 0 (by decide +kernel)
  have s_one := A.stv "one" 0 (by decide +kernel)
  have l_one := A.lcv "one" 0 (by decide +kernel)
  have v_two := A.var "two" 1 (by decide +kernel)
  have s_two := A.stv "two" 1 (by decide +kernel)
  have l_two := A.lcv "two" 1 (by decide +kernel)
  have g__law_join := A.glo "_law_join" (by decide +kernel)
  have g__law_undo := A.glo "_law_undo" (by decide +kernel)
  obtain ⟨x, y, z, p, q, s, rfl, ⟨hx, hy, hz⟩, ⟨hp, hq, hs⟩, h⟩ := h
  (change DSs X _ [some (t3 x y z), some (t3 p q s)] _ _; (first | refine ds_one ?_ | refine ds_cons ?_))
  repeat walk_at "dw"
  exact h

theorem sc__law_take : FnScope ["tin", "below_so", "drawn_so", "once_so", "wide_so", "twice_so"] ["tin", "below_so"] (defScope (topS 57)) := ⟨rfl, rfl, rfl, by decide +kernel, rfl, by decide +kernel, by decide +kernel⟩
def tb__law_take : List (Str × Nat) := [("tin", 0), ("below_so", 1), ("drawn_so", 2), ("once_so", 3), ("wide_so", 4), ("twice_so", 5)]
def nm__law_take : List (Str × NameKind) := [("tin", .local), ("below_so", .local), ("drawn_so", .local), ("once_so", .local), ("wide_so", .local), ("twice_so", .local), ("int", .globalImplicit)]
theorem ok__law_take {P : Program} {w : World} {K : PySem.W.Frag} {mg : Str → Option Value} {base : Heap} (M : Mod K w mg) : Fn P w K mg base "_law_take" 2 1 (cTake) := by
  refine (M.h__law_take).fn (tb := tb__law_take) sc__law_take rfl (names := nm__law_take) rfl (by decide +kernel) fun X A ds S Φ hl h => ?_
  have G := M.nob
  have v_tin := A.var "tin" 0 (by decide +kernel)
  have s_tin := A.stv "tin" 0 (by decide +kernel)
  have l_tin := A.lcv "tin" 0 (by decide +kernel)
  have v_below_so := A.var "below_so" 1 (by decide +kernel)
  have s_below_so := A.stv "below_so" 1 (by decide +kernel)
  have l_below_so := A.lcv "below_so" 1 (by decide +kernel)
  have v_drawn_so := A.var "drawn_so" 2 (by decide +kernel)
  have s_drawn_so := A.stv "drawn_so" 2 (by decide +kernel)
  have l_drawn_so := A.lcv "drawn_so" 2 (by decide +kernel)
  have v_once_so := A.var "once_so" 3 (by decide +kernel)
  have s_once_so := A.stv "once_so" 3 (by decide +kernel)
  have l_once_so := A.lcv "once_so" 3 (by decide +kernel)
  have v_wide_so := A.var "wide_so" 4 (by decide +kernel)
  have s_wide_so := A.stv "wide_so" 4 (by decide +kernel)
  have l_wide_so := A.lcv "wide_so" 4 (by decide +kernel)
  have v_twice_so := A.var "twice_so" 5 (by decide +kernel)
  have s_twice_so := A.stv "twice_so" 5 (by decide +kernel)
  have l_twice_so := A.lcv "twice_so" 5 (by decide +kernel)
  have g_int := A.glo "int" (by decide +kernel)
  obtain ⟨p, b, l, R, n, rfl, rfl, ⟨a, q, c, rfl, ha, hq, hqb, hc, hcb⟩, hb, hn, hnb, h⟩ := h
  have hc1 : Bd 31 (c + 1) := ⟨by have e : (2 : Nat) ^ 31 = 2147483648 := rfl; omega⟩
  (change DSs X _ [some (.cell p), some (.int n), none, none, none, none] _ _; (first | refine ds_one ?_ | refine ds_cons ?_))
  repeat walk_at "dw"
  refine ite_c (fun e => ?_) (fun e => ?_)
  · have e := of_decide_eq_true e
    repeat walk_at "dw"
    refine ⟨_, [], _, _, _, _, rfl, rfl, rfl, rfl, ?_⟩
    refine (?_ : DEnds.nx _ _ ((p, [.int (a / n), .int q, .int c]) :: R))
    repeat walk_at "dw"
    exact h _ _ (Int.emod_nonneg _ (by omega)) (Int.emod_lt_of_pos _ hn) ⟨_, _, _, rfl, Int.ediv_nonneg ha (by omega), hq, hqb, hc, by omega⟩
  · repeat walk_at "dw"
    refine ⟨_, [], _, _, _, _, rfl, rfl, rfl, rfl, ?_⟩
    refine (?_ : DEnds.nx _ _ ((p, [.int a, .int q, .int (c + 1)]) :: R))
    repeat walk_at "dw"
    exact h _ _ (Int.emod_nonneg _ (by omega)) (Int.emod_lt_of_pos _ hn) ⟨_, _, _, rfl, ha, hq, hqb, by omega, by omega⟩

theorem sc__law_of : FnScope ["tin", "goods_so"] ["tin", "goods_so"] (defScope (topS 59)) := ⟨rfl, rfl, rfl, by decide +kernel, rfl, by decide +kernel, by decide +kernel⟩
def tb__law_of : List (Str × Nat) := [("tin", 0), ("goods_so", 1)]
def nm__law_of : List (Str × NameKind) := [("tin", .local), ("goods_so", .local), ("_law_take", .globalImplicit), ("len", .globalImplicit)]
theorem ok__law_of {P : Program} {w : World} {K : PySem.W.Frag} {mg : Str → Option Value} {base : Heap} (M : Mod K w mg) : Fn P w K mg base "_law_of" 2 2 (cOf) := by
  have d__law_take := ok__law_take (P := P) (w := w) (base := base) M
  refine (M.h__law_of).fn (tb := tb__law_of) sc__law_of rfl (names := nm__law_of) rfl (by decide +kernel) fun X A ds S Φ hl h => ?_
  have G := M.nob
  have v_tin := A.var "tin" 0 (by decide +kernel)
  have s_tin := A.stv "tin" 0 (by decide +kernel)
  have l_tin := A.lcv "tin" 0 (by decide +kernel)
  have v_goods_so := A.var "goods_so" 1 (by decide +kernel)
  have s_goods_so := A.stv "goods_so" 1 (by decide +kernel)
  have l_goods_so := A.lcv "goods_so" 1 (by decide +kernel)
  have g__law_take := A.glo "_law_take" (by decide +kernel)
  have g_len := A.glo "len" (by decide +kernel)
  obtain ⟨p, b, l, R, g, n, rfl, rfl, ht, hb, hok, hlen, h0, h1, h⟩ := h
  have h0' : (0 : Int) < (n : Int) := by omega
  have hb' : Bd 20 (n : Int) := ⟨by have e : (2 : Nat) ^ 20 = 1048576 := rfl; omega⟩
  (change DSs X _ [some (.cell p), some (g)] _ _; (first | refine ds_one ?_ | refine ds_cons ?_))
  repeat walk_at "dw"
  refine ⟨n, hlen.nil, ?_⟩
  repeat walk_at "dw"
  intro r l' r0 r1 ht'
  obtain ⟨e, he, hq⟩ := h r l' r0 r1 ht'
  refine ⟨e, he.nil, ?_⟩
  repeat walk_at "dw"
  exact hq

theorem sc__law_whole : FnScope ["tin", "top_so"] ["tin", "top_so"] (defScope (topS 66)) := ⟨rfl, rfl, rfl, by decide +kernel, rfl, by decide +kernel, by decide +kernel⟩
def tb__law_whole : List (Str × Nat) := [("tin", 0), ("top_so", 1)]
def nm__law_whole : List (Str × NameKind) := [("tin", .local), ("top_so", .local), ("_law_take", .globalImplicit)]
theorem ok__law_whole {P : Program} {w : World} {K : PySem.W.Frag} {mg : Str → Option Value} {base : Heap} (M : Mod K w mg) : Fn P w K mg base "_law_whole" 2 2 (cWhole) := by
  have d__law_take := ok__law_take (P := P) (w := w) (base := base) M
  refine (M.h__law_whole).fn (tb := tb__law_whole) sc__law_whole rfl (names := nm__law_whole) rfl (by decide +kernel) fun X A ds S Φ hl h => ?_
  have G := M.nob
  have v_tin := A.var "tin" 0 (by decide +kernel)
  have s_tin := A.stv "tin" 0 (by decide +kernel)
  have l_tin := A.lcv "tin" 0 (by decide +kernel)
  have v_top_so := A.var "top_so" 1 (by decide +kernel)
  have s_top_so := A.stv "top_so" 1 (by decide +kernel)
  have l_top_so := A.lcv "top_so" 1 (by decide +kernel)
  have g__law_take := A.glo "_law_take" (by decide +kernel)
  obtain ⟨p, b, l, R, n, rfl, rfl, ht, hb, h0, hnb, h⟩ := h
  have hn1 : 0 < n + 1 := by omega
  (change DSs X _ [some (.cell p), some (.int n)] _ _; (first | refine ds_one ?_ | refine ds_cons ?_))
  repeat walk_at "dw"
  refine ite_c (fun e => ?_) (fun e => ?_)
  · have e := of_decide_eq_true e
    repeat walk_at "dw"
    intro r l' r0 r1 ht'
    have hr : Bd 1001 r := Bd.lt2 r0 r1 ((hnb.add (Bd.lit (n := 64) (x := 1) rfl)).fit rfl)
    repeat walk_at "dw"
    intro r2 l2 r20 r21 ht2
    have hr2 : Bd 64 (1 - 2 * r2) := by
      have : r2 = 0 ∨ r2 = 1 := by omega
      rcases this with rfl | rfl <;> exact Bd.lit rfl
    repeat walk_at "dw"
    refine h _ _ ((hr.mul hr2).fit rfl) (fun _ => ?_) ht2
    have : r2 = 0 ∨ r2 = 1 := by omega
    rcases this with rfl | rfl <;> constructor <;> omega
  · have e := of_decide_eq_false e
    repeat walk_at "dw"
    intro r l' r0 r1 ht'
    have hr : Bd 64 (r - 10000000) := ⟨by have e : (2 : Nat) ^ 64 = 18446744073709551616 := rfl; omega⟩
    have hd : Bd 1001 (n / 100000000) := hnb.ediv
    repeat walk_at "dw"
    exact h _ _ ((hr.mul hd).fit rfl) (fun q => absurd q e) (by obtain ⟨a, q, c, e1, e2, e3, e4, e5, e6⟩ := ht'; exact ⟨a, q, c, e1, e2, e3, e4, e5, by omega⟩)

theorem sc__law_deed : FnScope ["tin", "top_so"] ["tin", "top_so"] (defScope (topS 67)) := ⟨rfl, rfl, rfl, by decide +kernel, rfl, by decide +kernel, by decide +kernel⟩
def tb__law_deed : List (Str × Nat) := [("tin", 0), ("top_so", 1)]
def nm__law_deed : List (Str × NameKind) := [("tin", .local), ("top_so", .local), ("_law_whole", .globalImplicit)]
theorem ok__law_deed {P : Program} {w : World} {K : PySem.W.Frag} {mg : Str → Option Value} {base : Heap} (M : Mod K w mg) : Fn P w K mg base "_law_deed" 2 3 (cDeed) := by
  have d__law_whole := ok__law_whole (P := P) (w := w) (base := base) M
  refine (M.h__law_deed).fn (tb := tb__law_deed) sc__law_deed rfl (names := nm__law_deed) rfl (by decide +kernel) fun X A ds S Φ hl h => ?_
  have G := M.nob
  have v_tin := A.var "tin" 0 (by decide +kernel)
  have s_tin := A.stv "tin" 0 (by decide +kernel)
  have l_tin := A.lcv "tin" 0 (by decide +kernel)
  have v_top_so := A.var "top_so" 1 (by decide +kernel)
  have s_top_so := A.stv "top_so" 1 (by decide +kernel)
  have l_top_so := A.lcv "top_so" 1 (by decide +kernel)
  have g__law_whole := A.glo "_law_whole" (by decide +kernel)
  obtain ⟨p, b, l, R, n, rfl, rfl, ht, hb, h0, hnb, h⟩ := h
  (change DSs X _ [some (.cell p), some (.int n)] _ _; (first | refine ds_one ?_ | refine ds_cons ?_))
  repeat walk_at "dw"
  intro x l1 hx _ ht1
  repeat walk_at "dw"
  intro y l2 hy _ ht2
  repeat walk_at "dw"
  intro z l3 hz _ ht3
  repeat walk_at "dw"
  exact h x y z l3 hx hy hz ht3

def tb__law_same : List (Str × Nat) := [("got", 0), ("due", 1), ("mine", 2), ("its", 3)]
def nm__law_same : List (Str × NameKind) := [("got", .local), ("due", .local), ("isinstance", .globalImplicit), ("list", .globalImplicit), ("tuple", .globalImplicit), ("len", .globalImplicit), ("all", .globalImplicit), ("zip", .globalImplicit), ("bool", .globalImplicit), ("str", .globalImplicit), ("int", .globalImplicit)]
theorem sc__law_same : FnScope ["got", "due", "mine", "its"] ["got", "due"] (defScope (topS 61)) := ⟨rfl, rfl, rfl, by decide +kernel, rfl, by decide +kernel, by decide +kernel⟩
theorem ok__law_same {P : Program} {w : World} {K : PySem.W.Frag} {mg : Str → Option Value} {base : Heap} (M : Mod K w mg) (n : Nat) : Fn P w K mg base "_law_same" 2 (n + 1) (cSame n) := by
  induction n with
  | zero =>
    refine (M.h__law_same).fn (tb := tb__law_same) sc__law_same rfl (names := nm__law_same) rfl (by decide +kernel) fun X A ds S Φ hl h => ?_
    have G := M.nob
    have v_got := A.var "got" 0 (by decide +kernel)
    have s_got := A.stv "got" 0 (by decide +kernel)
    have l_got := A.lcv "got" 0 (by decide +kernel)
    have v_due := A.var "due" 1 (by decide +kernel)
    have s_due := A.stv "due" 1 (by decide +kernel)
    have l_due := A.lcv "due" 1 (by decide +kernel)
    have g_isinstance := A.glo "isinstance" (by decide +kernel)
    have g_list := A.glo "list" (by decide +kernel)
    have g_tuple := A.glo "tuple" (by decide +kernel)
    have g_len := A.glo "len" (by decide +kernel)
    have g_all := A.glo "all" (by decide +kernel)
    have g_zip := A.glo "zip" (by decide +kernel)
    have g_bool := A.glo "bool" (by decide +kernel)
    have g_str := A.glo "str" (by decide +kernel)
    have g_int := A.glo "int" (by decide +kernel)
    obtain ⟨d, rfl, h2, h3, h⟩ := h
    change DSs X _ [some d, some d, none, none] S _
    refine ds_cons ?_
    cases d
    case non =>
      repeat walk_at "dw"
      exact h
    case bl b =>
      repeat walk_at "dw"
      rw [show decide (b = b) = true from decide_eq_true rfl]
      exact h
    case int i =>
      repeat walk_at "dw"
      rw [show decide (i = i) = true from decide_eq_true rfl]
      exact h
    case str x =>
      repeat walk_at "dw"
      rw [show decide (x = x) = true from decide_eq_true rfl]
      exact h
    case cell => unfold fitD at h2; cases h2
    case dct => unfold fitD at h2; cases h2
    case rng => unfold fitD at h2; cases h2
    case tup => unfold fitD at h2; cases h2
    case lst => unfold fitD at h2; cases h2
    case frz => unfold fitD at h2; cases h2
  | succ n ih =>
    refine (M.h__law_same).fn (tb := tb__law_same) sc__law_same rfl (names := nm__law_same) rfl (by decide +kernel) fun X A ds S Φ hl h => ?_
    have G := M.nob
    have v_got := A.var "got" 0 (by decide +kernel)
    have s_got := A.stv "got" 0 (by decide +kernel)
    have l_got := A.lcv "got" 0 (by decide +kernel)
    have v_due := A.var "due" 1 (by decide +kernel)
    have s_due := A.stv "due" 1 (by decide +kernel)
    have l_due := A.lcv "due" 1 (by decide +kernel)
    have g_isinstance := A.glo "isinstance" (by decide +kernel)
    have g_list := A.glo "list" (by decide +kernel)
    have g_tuple := A.glo "tuple" (by decide +kernel)
    have g_len := A.glo "len" (by decide +kernel)
    have g_all := A.glo "all" (by decide +kernel)
    have g_zip := A.glo "zip" (by decide +kernel)
    have g_bool := A.glo "bool" (by decide +kernel)
    have g_str := A.glo "str" (by decide +kernel)
    have g_int := A.glo "int" (by decide +kernel)
    obtain ⟨d, rfl, h2, h3, h⟩ := h
    change DSs X _ [some d, some d, none, none] S _
    refine ds_cons ?_
    cases d
    case non =>
      repeat walk_at "dw"
      exact h
    case bl b =>
      repeat walk_at "dw"
      rw [show decide (b = b) = true from decide_eq_true rfl]
      exact h
    case int i =>
      repeat walk_at "dw"
      rw [show decide (i = i) = true from decide_eq_true rfl]
      exact h
    case str x =>
      repeat walk_at "dw"
      rw [show decide (x = x) = true from decide_eq_true rfl]
      exact h
    case cell => unfold fitD at h2; cases h2
    case dct => unfold fitD at h2; cases h2
    case rng => unfold fitD at h2; cases h2
    case tup l =>
      have hl' : decide ((l.length : Int) = (l.length : Int)) = true := decide_eq_true rfl
      unfold fitD at h2
      rw [Bool.and_eq_true] at h2
      unfold noFrz at h3
      have hz : l.length ≤ sizeLine := Nat.le_of_ble_eq_true h2.1
      repeat walk_at "dw"
      refine de_lcP (own := [("mine", 2), ("its", 3)]) 2 3 (fun _ => .bl true) A rfl (by decide +kernel) (fun _ => rfl) (by decide +kernel) (by decide +kernel) (by decide +kernel) (by decide +kernel) ?_
      refine di_zip A (G.no _ rfl) g_zip.g rfl rfl rfl ?_
      repeat walk_at "dw"
      refine .inr ⟨_, _, rfl, rfl, ?_⟩
      refine ⟨by rw [zipD_len]; omega, ?_, ?_⟩
      · intro d hd
        obtain ⟨x, hx, rfl⟩ := zip_self hd
        refine ⟨_, _, rfl, fun X' A' Ξ hΞ => ?_⟩
        refine de_norm (by walk_at "dnorm") ?_
        have w_mine := A'.var "mine" 2 (by decide +kernel)
        have u_mine := A'.stv "mine" 2 (by decide +kernel)
        have w_its := A'.var "its" 3 (by decide +kernel)
        have u_its := A'.stv "its" 3 (by decide +kernel)
        have h__law_same := A'.glo "_law_same" (by decide +kernel)
        refine vCall A' ih h__law_same (by rw [ble_self]; exact rfl) rfl rfl ?_
        have hfx := fit_in h2.2 x hx
        have hnx := noFrz_in h3 x hx
        repeat walk_at "dw"
        exact ⟨hfx, hnx, hΞ⟩
      · refine ⟨(zipD l l).map (fun _ => true), congrArg D.lst (bls_map (f := fun _ => true)), ?_⟩
        repeat walk_at "dw"
        rw [all_true]
        exact h
    case lst l =>
      have hl' : decide ((l.length : Int) = (l.length : Int)) = true := decide_eq_true rfl
      unfold fitD at h2
      rw [Bool.and_eq_true] at h2
      unfold noFrz at h3
      have hz : l.length ≤ sizeLine := Nat.le_of_ble_eq_true h2.1
      repeat walk_at "dw"
      refine de_lcP (own := [("mine", 2), ("its", 3)]) 2 3 (fun _ => .bl true) A rfl (by decide +kernel) (fun _ => rfl) (by decide +kernel) (by decide +kernel) (by decide +kernel) (by decide +kernel) ?_
      refine di_zip A (G.no _ rfl) g_zip.g rfl rfl rfl ?_
      repeat walk_at "dw"
      refine .inl ⟨_, _, .lst _, .lst _, ?_⟩
      refine ⟨by rw [zipD_len]; omega, ?_, ?_⟩
      · intro d hd
        obtain ⟨x, hx, rfl⟩ := zip_self hd
        refine ⟨_, _, rfl, fun X' A' Ξ hΞ => ?_⟩
        refine de_norm (by walk_at "dnorm") ?_
        have w_mine := A'.var "mine" 2 (by decide +kernel)
        have u_mine := A'.stv "mine" 2 (by decide +kernel)
        have w_its := A'.var "its" 3 (by decide +kernel)
        have u_its := A'.stv "its" 3 (by decide +kernel)
        have h__law_same := A'.glo "_law_same" (by decide +kernel)
        refine vCall A' ih h__law_same (by rw [ble_self]; exact rfl) rfl rfl ?_
        have hfx := fit_in h2.2 x hx
        have hnx := noFrz_in h3 x hx
        repeat walk_at "dw"
        exact ⟨hfx, hnx, hΞ⟩
      · refine ⟨(zipD l l).map (fun _ => true), congrArg D.lst (bls_map (f := fun _ => true)), ?_⟩
        repeat walk_at "dw"
        rw [all_true]
        exact h
    case frz => unfold noFrz at h3; cases h3

theorem sc__law_box : FnScope ["script", "k", "bit_so"] ["script", "k"] (defScope (topS 56)) := ⟨rfl, rfl, rfl, by decide +kernel, rfl, by decide +kernel, by decide +kernel⟩
def tb__law_box : List (Str × Nat) := [("script", 0), ("k", 1), ("bit_so", 2)]
def nm__law_box : List (Str × NameKind) := [("script", .local), ("k", .local), ("bit_so", .local), ("len", .globalImplicit), ("abs", .globalImplicit), ("int", .globalImplicit)]
theorem ok__law_box {P : Program} {w : World} {K : PySem.W.Frag} {mg : Str → Option Value} {base : Heap} (M : Mod K w mg) : FnN P w K mg base "_law_box" 2 1 (cBoxN) := by
  refine (M.h__law_box).fnN (tb := tb__law_box) sc__law_box rfl (names := nm__law_box) rfl (by decide +kernel) fun X A ds S Φ hl h => ?_
  have G := M.nob
  have v_script := A.var "script" 0 (by decide +kernel)
  have s_script := A.stv "script" 0 (by decide +kernel)
  have l_script := A.lcv "script" 0 (by decide +kernel)
  have v_k := A.var "k" 1 (by decide +kernel)
  have s_k := A.stv "k" 1 (by decide +kernel)
  have l_k := A.lcv "k" 1 (by decide +kernel)
  have v_bit_so := A.var "bit_so" 2 (by decide +kernel)
  have s_bit_so := A.stv "bit_so" 2 (by decide +kernel)
  have l_bit_so := A.lcv "bit_so" 2 (by decide +kernel)
  have g_len := A.glo "len" (by decide +kernel)
  have g_abs := A.glo "abs" (by decide +kernel)
  have g_int := A.glo "int" (by decide +kernel)
  obtain ⟨is, k, rfl, h0, h1, hlen, h⟩ := h
  (change DSs X _ [some (.lst (is.map D.int)), some (.int k), none] _ _; (first | refine ds_one ?_ | refine ds_cons ?_))
  repeat walk_at "dw"
  have end_ : ∀ bit : Int, Tin 0 [.int ((if bit < 0 then -bit else bit) * (if decide (1000000000000000000 ≤ (if bit < 0 then -bit else bit)) = true then 1 else 0)), .int (bit % 2305843009213693951 + 39373 * k + 9301028), .int 0] := fun bit => by
    refine ⟨_, _, _, rfl, Int.mul_nonneg (by split <;> omega) (by split <;> omega), ?_, ?_, by omega, by omega⟩
    · have := Int.emod_nonneg bit (b := 2305843009213693951) (by decide)
      omega
    · have h2 := Int.emod_nonneg bit (b := 2305843009213693951) (by decide)
      have h3 := Int.emod_lt_of_pos bit (b := 2305843009213693951) (by decide)
      refine ⟨?_⟩
      have e : (2 : Nat) ^ 80 = 1208925819614629174706176 := rfl
      omega
  have hfit : ∀ bit : Int, Bd 64 (if decide (1000000000000000000 ≤ (if bit < 0 then -bit else bit)) = true then 1 else 0) := fun bit => Bd.ofBool
  refine ite_c (fun e => ?_) (fun e => ?_)
  · obtain ⟨x, hx, hat⟩ := atI_ok (l := is.map D.int) h0 (of_decide_eq_true e)
    obtain ⟨bit, rfl⟩ := int_mem hx
    repeat walk_at "dw"
    refine ⟨_, hat, ?_⟩
    have hfb := hfit bit
    repeat walk_at "dw"
    intro c
    exact RetC.cell rfl (List.mem_singleton.mpr rfl) (h _ (end_ bit))
  · have hfb := hfit 0
    repeat walk_at "dw"
    intro c
    exact RetC.cell rfl (List.mem_singleton.mpr rfl) (h _ (end_ 0))

theorem sc__law_cells : FnScope ["script", "most_so", "cells_so", "k", "bit_so", "at_so"] ["script", "most_so"] (defScope (topS 58)) := ⟨rfl, rfl, rfl, by decide +kernel, rfl, by decide +kernel, by decide +kernel⟩
def tb__law_cells : List (Str × Nat) := [("script", 0), ("most_so", 1), ("cells_so", 2), ("k", 3), ("bit_so", 4), ("at_so", 5)]
def nm__law_cells : List (Str × NameKind) := [("script", .local), ("most_so", .local), ("cells_so", .local), ("k", .local), ("bit_so", .local), ("at_so", .local), ("list", .globalImplicit), ("enumerate", .globalImplicit), ("int", .globalImplicit)]
theorem ok__law_cells {P : Program} {w : World} {K : PySem.W.Frag} {mg : Str → Option Value} {base : Heap} (M : Mod K w mg) : Fn P w K mg base "_law_cells" 2 1 (cCells) := by
  refine (M.h__law_cells).fn (tb := tb__law_cells) sc__law_cells rfl (names := nm__law_cells) rfl (by decide +kernel) fun X A ds S Φ hl h => ?_
  have G := M.nob
  have v_script := A.var "script" 0 (by decide +kernel)
  have s_script := A.stv "script" 0 (by decide +kernel)
  have l_script := A.lcv "script" 0 (by decide +kernel)
  have v_most_so := A.var "most_so" 1 (by decide +kernel)
  have s_most_so := A.stv "most_so" 1 (by decide +kernel)
  have l_most_so := A.lcv "most_so" 1 (by decide +kernel)
  have v_cells_so := A.var "cells_so" 2 (by decide +kernel)
  have s_cells_so := A.stv "cells_so" 2 (by decide +kernel)
  have l_cells_so := A.lcv "cells_so" 2 (by decide +kernel)
  have v_k := A.var "k" 3 (by decide +kernel)
  have s_k := A.stv "k" 3 (by decide +kernel)
  have l_k := A.lcv "k" 3 (by decide +kernel)
  have v_bit_so := A.var "bit_so" 4 (by decide +kernel)
  have s_bit_so := A.stv "bit_so" 4 (by decide +kernel)
  have l_bit_so := A.lcv "bit_so" 4 (by decide +kernel)
  have v_at_so := A.var "at_so" 5 (by decide +kernel)
  have s_at_so := A.stv "at_so" 5 (by decide +kernel)
  have l_at_so := A.lcv "at_so" 5 (by decide +kernel)
  have g_list := A.glo "list" (by decide +kernel)
  have g_enumerate := A.glo "enumerate" (by decide +kernel)
  have g_int := A.glo "int" (by decide +kernel)
  obtain ⟨is, n, rfl, h0, h1, hlen, h⟩ := h
  (change DSs X _ [some (.frz (is.map D.int)), some (.int n), none, none, none, none] _ _; (first | refine ds_one ?_ | refine ds_cons ?_))
  refine vCell A (by assumption) ?_ ?_
  exact rfl
  refine DN.mono (Φ := fun l S1 => S1 = S ∧ ∃ js : List Int, l = js.map D.int ∧ js.length ≤ 63 ∧ (n.toNat < is.length → js.length = n.toNat)) ?_ ?_
  · refine dn_or (dn_listOf A G (Glo.g (by assumption)) ?_ ?_)
    exact rfl
    obtain ⟨js, hj, hjl⟩ := cut_hi (is := is) (n := n) (by omega)
    repeat walk_at "dw"
    rw [hj]
    refine ite_c (fun e => ?_) (fun e => ?_)
    · exact ⟨rfl, js, rfl, by omega, by omega⟩
    · refine dn_or1 ?_
      repeat walk_at "dw"
      refine ⟨rfl, [0], rfl, by decide, fun q => ?_⟩
      have : js.length = 0 := by
        cases js with
        | nil => rfl
        | cons a js => cases e
      omega
  rintro l S1 ⟨rfl, js, rfl, hj1, hj2⟩ c
  repeat walk_at "dw"
  refine ds_for A (fun _ => rfl) ?_
  refine di_enum A (G.no _ rfl) g_enumerate.g rfl rfl ?_
  obtain ⟨ks, hk, hkl⟩ := cut_mid (is := is) (n := n) (m := 63) (by omega)
  repeat walk_at "dw"
  rw [hk]
  refine ⟨_, .lst _, ?_⟩
  refine for_ind (fun ds ρ S' => ∃ (ms : List Int) (w1 w2 w3 : Option D), (∀ d, d ∈ ds → (∃ (i : Nat) (x : Int), d = .tup [.int (i : Int), .int x] ∧ i < 64) ∧ (ms.length : Int) = n) ∧ ρ = [some (.frz (is.map D.int)), some (.int n), some (.cell c), w1, w2, w3] ∧ S' = S1 ++ [(c, ms.map D.int)] ∧ ms.length ≤ 63) ?_ ?_ ?_
  · rintro d ds ρ S' ⟨ms, w1, w2, w3, hd, rfl, rfl, hm⟩
    obtain ⟨⟨i, x, rfl, hi⟩, hmn⟩ := hd d List.mem_cons_self
    have hib : Bd 64 ((i : Int) + 2) := ⟨by have e : (2 : Nat) ^ 64 = 18446744073709551616 := rfl; omega⟩
    have a0 := Int.emod_nonneg (i : Int) (b := n) (by omega)
    have a1 := Int.emod_lt_of_pos (i : Int) (b := n) h0
    obtain ⟨y, hy, hat⟩ := atI_ok (l := ms.map D.int) a0 (by rw [List.length_map]; omega)
    obtain ⟨y, rfl⟩ := int_mem hy
    have hix := ixN_ok (n := (ms.map D.int).length) a0 (by rw [List.length_map]; omega)
    repeat walk_at "dw"
    refine ⟨_, ⟨_, List.mem_append_right _ List.mem_cons_self, hat⟩, ?_⟩
    repeat walk_at "dw"
    refine ⟨_, _, _, [], _, _, rfl, rfl, rfl, hix, ?_⟩
    repeat walk_at "dw"
    refine .mk ⟨ms.set ((i : Int) % n).toNat (y + x * ((i : Int) + 2)), _, _, _, fun d hd2 => ?_, rfl, by rw [List.map_set], by rw [List.length_set]; exact hm⟩
    rw [List.length_set]
    exact hd d (List.mem_cons_of_mem _ hd2)
  · rintro ρ S' ⟨ms, w1, w2, w3, hd, rfl, rfl, hm⟩
    repeat walk_at "dw"
    exact RetP.cell rfl (List.mem_singleton.mpr rfl) (h ms hm)
  · refine ⟨js, _, _, _, fun d hd => ?_, rfl, rfl, hj1⟩
    obtain ⟨i, x, e, h3, h4⟩ := enum_ints hd
    have : is.length - n.toNat ≠ 0 := by omega
    exact ⟨⟨i, x, e, by omega⟩, by omega⟩

theorem sc_is_from : FnScope ["thing", "least"] ["thing", "least"] (defScope (topS 5)) := ⟨rfl, rfl, rfl, by decide +kernel, rfl, by decide +kernel, by decide +kernel⟩
def tb_is_from : List (Str × Nat) := [("thing", 0), ("least", 1)]
def nm_is_from : List (Str × NameKind) := [("thing", .local), ("least", .local), ("is_number", .globalImplicit)]
theorem ok_is_from {P : Program} {w : World} {K : PySem.W.Frag} {mg : Str → Option Value} {base : Heap} (M : Mod K w mg) : Fn P w K mg base "is_from" 2 2 (cI2 (fun _ _ => True) fun x y => .bl (decide (y ≤ x))) := by
  have d_is_number := ok_is_number (P := P) (w := w) (base := base) M
  refine (M.h_is_from).fn (tb := tb_is_from) sc_is_from rfl (names := nm_is_from) rfl (by decide +kernel) fun X A ds S Φ hl h => ?_
  have G := M.nob
  have v_thing := A.var "thing" 0 (by decide +kernel)
  have s_thing := A.stv "thing" 0 (by decide +kernel)
  have l_thing := A.lcv "thing" 0 (by decide +kernel)
  have v_least := A.var "least" 1 (by decide +kernel)
  have s_least := A.stv "least" 1 (by decide +kernel)
  have l_least := A.lcv "least" 1 (by decide +kernel)
  have g_is_number := A.glo "is_number" (by decide +kernel)
  obtain ⟨x, y, rfl, _, h⟩ := h
  (change DSs X _ [some (.int x), some (.int y)] _ _; (first | refine ds_one ?_ | refine ds_cons ?_))
  repeat walk_at "dw"
  exact h

def tb__law_mixed : List (Str × Nat) := [("tin", 0), ("matter", 1), ("row_so", 2), ("bit", 3)]
def nm__law_mixed : List (Str × NameKind) := [("tin", .cell), ("matter", .local), ("row_so", .local), ("isinstance", .globalImplicit), ("list", .globalImplicit), ("tuple", .globalImplicit), ("_law_take", .globalImplicit)]
theorem sc__law_mixed : FnScope ["tin", "matter", "row_so", "bit"] ["tin", "matter"] (defScope (topS 60)) := ⟨rfl, rfl, rfl, by decide +kernel, rfl, by decide +kernel, by decide +kernel⟩
theorem ok__law_mixed {P : Program} {w : World} {K : PySem.W.Frag} {mg : Str → Option Value} {base : Heap} (M : Mod K w mg) (n : Nat) : Fn P w K mg base "_law_mixed" 2 (n + 2) (cMixed n) := by
  induction n with
  | zero =>
    have d__law_take := ok__law_take (P := P) (w := w) (base := base) M
    refine (M.h__law_mixed).fn (tb := tb__law_mixed) sc__law_mixed rfl (names := nm__law_mixed) rfl (by decide +kernel) fun X A ds S Φ hl h => ?_
    have G := M.nob
    have v_tin := A.var "tin" 0 (by decide +kernel)
    have s_tin := A.stv "tin" 0 (by decide +kernel)
    have v_matter := A.var "matter" 1 (by decide +kernel)
    have s_matter := A.stv "matter" 1 (by decide +kernel)
    have l_matter := A.lcv "matter" 1 (by decide +kernel)
    have v_row_so := A.var "row_so" 2 (by decide +kernel)
    have s_row_so := A.stv "row_so" 2 (by decide +kernel)
    have l_row_so := A.lcv "row_so" 2 (by decide +kernel)
    have g_isinstance := A.glo "isinstance" (by decide +kernel)
    have g_list := A.glo "list" (by decide +kernel)
    have g_tuple := A.glo "tuple" (by decide +kernel)
    have g__law_take := A.glo "_law_take" (by decide +kernel)
    obtain ⟨p, b, l, R, d, rfl, rfl, ht, hb, h2, h⟩ := h
    change DSs X _ [some (.cell p), some d, none, none] ((p, l) :: R) _
    refine ds_cons ?_
    cases d
    case lst => unfold tupO at h2; cases h2
    case frz => unfold tupO at h2; cases h2
    case cell => unfold tupO at h2; cases h2
    case dct => unfold tupO at h2; cases h2
    case rng => unfold tupO at h2; cases h2
    case non =>
      repeat walk_at "dw"
      exact h _ l (by unfold fitD; rfl) rfl (by have e : cntD .non = 0 := by unfold cntD; rfl
                                                rw [e]; exact ht)
    case bl x =>
      repeat walk_at "dw"
      exact h _ l (by unfold fitD; rfl) rfl (by have e : cntD (.bl x) = 0 := by unfold cntD; rfl
                                                rw [e]; exact ht)
    case int x =>
      repeat walk_at "dw"
      exact h _ l (by unfold fitD; rfl) rfl (by have e : cntD (.int x) = 0 := by unfold cntD; rfl
                                                rw [e]; exact ht)
    case str x =>
      repeat walk_at "dw"
      exact h _ l (by unfold fitD; rfl) rfl (by have e : cntD (.str x) = 0 := by unfold cntD; rfl
                                                rw [e]; exact ht)
    case tup => unfold tupO at h2; cases h2
  | succ n ih =>
    have d__law_take := ok__law_take (P := P) (w := w) (base := base) M
    refine (M.h__law_mixed).fn (tb := tb__law_mixed) sc__law_mixed rfl (names := nm__law_mixed) rfl (by decide +kernel) fun X A ds S Φ hl h => ?_
    have G := M.nob
    have v_tin := A.var "tin" 0 (by decide +kernel)
    have s_tin := A.stv "tin" 0 (by decide +kernel)
    have v_matter := A.var "matter" 1 (by decide +kernel)
    have s_matter := A.stv "matter" 1 (by decide +kernel)
    have l_matter := A.lcv "matter" 1 (by decide +kernel)
    have v_row_so := A.var "row_so" 2 (by decide +kernel)
    have s_row_so := A.stv "row_so" 2 (by decide +kernel)
    have l_row_so := A.lcv "row_so" 2 (by decide +kernel)
    have g_isinstance := A.glo "isinstance" (by decide +kernel)
    have g_list := A.glo "list" (by decide +kernel)
    have g_tuple := A.glo "tuple" (by decide +kernel)
    have g__law_take := A.glo "_law_take" (by decide +kernel)
    obtain ⟨p, b, l, R, d, rfl, rfl, ht, hb, h2, h⟩ := h
    change DSs X _ [some (.cell p), some d, none, none] ((p, l) :: R) _
    refine ds_cons ?_
    cases d
    case lst => unfold tupO at h2; cases h2
    case frz => unfold tupO at h2; cases h2
    case cell => unfold tupO at h2; cases h2
    case dct => unfold tupO at h2; cases h2
    case rng => unfold tupO at h2; cases h2
    case non =>
      repeat walk_at "dw"
      exact h _ l (by unfold fitD; rfl) rfl (by have e : cntD .non = 0 := by unfold cntD; rfl
                                                rw [e]; exact ht)
    case bl x =>
      repeat walk_at "dw"
      exact h _ l (by unfold fitD; rfl) rfl (by have e : cntD (.bl x) = 0 := by unfold cntD; rfl
                                                rw [e]; exact ht)
    case int x =>
      repeat walk_at "dw"
      exact h _ l (by unfold fitD; rfl) rfl (by have e : cntD (.int x) = 0 := by unfold cntD; rfl
                                                rw [e]; exact ht)
    case str x =>
      repeat walk_at "dw"
      exact h _ l (by unfold fitD; rfl) rfl (by have e : cntD (.str x) = 0 := by unfold cntD; rfl
                                                rw [e]; exact ht)
    case tup L =>
      unfold tupO at h2
      rw [Bool.and_eq_true] at h2
      have hz : L.length ≤ sizeLine := Nat.le_of_ble_eq_true h2.1
      have hcnt : cntD (.tup L) = cntL L + 1 := by conv => { lhs; unfold cntD }
      rw [hcnt] at hb h
      repeat walk_at "dw"
      refine vSetLc (own := [("bit", 3)]) A (by assumption) rfl (by decide +kernel) (fun _ => rfl) rfl rfl ?_
      refine di_tup (vName A (by assumption) ⟨_, rfl, ?_⟩)
      refine ⟨_, rfl, hz, ?_⟩
      (with_reducible apply lcN_norm)
      walk_at "dnorm"
      refine lc_ind (fun ds S' acc => ∃ (b' : Nat) (l' : List D), Tin b' l' ∧ b' + cntL ds = b + cntL L ∧ (∀ x, x ∈ ds → tupO n x = true) ∧ fitL n acc = true ∧ acc.length + ds.length = L.length ∧ nrmL acc ++ nrmL ds = nrmL L ∧ S' = (p, l') :: R) ?_ ?_ ?_
      · rintro d ds S' acc ⟨b', l', ht', hb', hds, hfa, hla, hna, rfl⟩ X' hX
        have A' := A.blk rfl hX
        have w_bit := A'.var "bit" 3 (by decide +kernel)
        have u_bit := A'.stv "bit" 3 (by decide +kernel)
        have h__law_mixed := A'.glo "_law_mixed" (by decide +kernel)
        have w_tin := A'.var "tin" 0 (by decide +kernel)
        repeat walk_at "dw"
        refine .mk fun X2 hX2 => ?_
        have A2 := A.blk rfl hX2
        have hcd : cntL (d :: ds) = cntD d + cntL ds := by conv => { lhs; unfold cntL }
        rw [hcd] at hb'
        refine vCall A2 ih h__law_mixed (by rw [ble_self]; exact rfl) rfl rfl ?_
        repeat walk_at "dw"
        refine cMixed_i ht' (by omega) (hds _ List.mem_cons_self) ?_
        intro d' l2 hfd hnd ht2
        refine .mk ⟨_, l2, ht2, by omega, fun x hx => hds x (List.mem_cons_of_mem _ hx), fitL_snoc hfa hfd, by rw [List.length_append, List.length_singleton]; rw [List.length_cons] at hla; omega, ?_, rfl⟩
        rw [← hna, nrmL_append, List.append_assoc]
        congr 1
        rw [nrmL_map, nrmL_map, nrmL_map, List.map_cons, List.map_cons, List.map_nil, hnd]
        rfl
      · rintro S' acc ⟨b', l', ht', hb', _, hfa, hla, hna, rfl⟩
        have hc0 : cntL ([] : List D) = 0 := by conv => { lhs; unfold cntL }
        rw [hc0] at hb'
        rw [List.length_nil] at hla
        have hn0 : nrmL ([] : List D) = [] := by conv => { lhs; unfold nrmL }
        rw [hn0, List.append_nil] at hna
        have hza : acc.length ≤ sizeLine := by omega
        have hf1 : fitD (n + 1) (.lst acc) = true := by
          unfold fitD
          rw [hfa, Bool.and_true]
          exact Nat.ble_eq.mpr hza
        have hf2 : fitD (n + 1) (.tup acc) = true := by
          unfold fitD
          rw [hfa, Bool.and_true]
          exact Nat.ble_eq.mpr hza
        have hn1 : nrm (.lst acc) = nrm (.tup L) := by
          conv => { lhs; unfold nrm }
          conv => { rhs; unfold nrm }
          rw [hna]
        have hn2 : nrm (.tup acc) = nrm (.tup L) := by
          conv => { lhs; unfold nrm }
          conv => { rhs; unfold nrm }
          rw [hna]
        repeat walk_at "dw"
        intro r l2 r0 r1 ht2
        have hfin : Tin (b + (cntL L + 1)) l2 := by
          have e : b + (cntL L + 1) = b' + 1 := by omega
          rw [e]
          exact ht2
        repeat walk_at "dw"
        refine ite_c (fun e => ?_) (fun e => ?_)
        · repeat walk_at "dw"
          exact h _ l2 hf1 hn1 hfin
        · repeat walk_at "dw"
          exact h _ l2 hf2 hn2 hfin
      · exact ⟨b, l, ht, rfl, tupO_in h2.2, by unfold fitL; rfl, by simp, by rw [show nrmL ([] : List D) = [] from by conv => { lhs; unfold nrmL }]; rfl, rfl⟩

theorem sc_is_pair : FnScope ["thing"] ["thing"] (defScope (topS 11)) := ⟨rfl, rfl, rfl, by decide +kernel, rfl, by decide +kernel, by decide +kernel⟩
def tb_is_pair : List (Str × Nat) := [("thing", 0)]
def nm_is_pair : List (Str × NameKind) := [("thing", .local), ("is_row_of", .globalImplicit)]
theorem ok_is_pair {P : Program} {w : World} {K : PySem.W.Frag} {mg : Str → Option Value} {base : Heap} (M : Mod K w mg) : Fn P w K mg base "is_pair" 1 4 (cPlain1 fun d => .bl (isPairB d)) := by
  have d_is_row_of := ok_is_row_of (P := P) (w := w) (base := base) M
  refine (M.h_is_pair).fn (tb := tb_is_pair) sc_is_pair rfl (names := nm_is_pair) rfl (by decide +kernel) fun X A ds S Φ hl h => ?_
  have G := M.nob
  have v_thing := A.var "thing" 0 (by decide +kernel)
  have s_thing := A.stv "thing" 0 (by decide +kernel)
  have l_thing := A.lcv "thing" 0 (by decide +kernel)
  have g_is_row_of := A.glo "is_row_of" (by decide +kernel)
  obtain ⟨d, rfl, hc, h⟩ := h
  (change DSs X _ [some (d)] _ _; (first | refine ds_one ?_ | refine ds_cons ?_))
  repeat walk_at "dw"
  exact h

theorem sc_sure_way : FnScope ["value", "own"] ["value"] (defScope (topS 41)) := ⟨rfl, rfl, rfl, by decide +kernel, rfl, by decide +kernel, by decide +kernel⟩
def tb_sure_way : List (Str × Nat) := [("value", 0), ("own", 1)]
def nm_sure_way : List (Str × NameKind) := [("value", .local), ("own", .local), ("tupled", .globalImplicit), ("is_pair", .globalImplicit), ("Unfit", .globalImplicit)]
theorem ok_sure_way {P : Program} {w : World} {K : PySem.W.Frag} {mg : Str → Option Value} {base : Heap} (M : Mod K w mg) : Fn P w K mg base "sure_way" 1 5 (cWay) := by
  have d_tupled := ok_tupled (P := P) (w := w) (base := base) M 1
  have d_is_pair := ok_is_pair (P := P) (w := w) (base := base) M
  refine (M.h_sure_way).fn (tb := tb_sure_way) sc_sure_way rfl (names := nm_sure_way) rfl (by decide +kernel) fun X A ds S Φ hl h => ?_
  have G := M.nob
  have v_value := A.var "value" 0 (by decide +kernel)
  have s_value := A.stv "value" 0 (by decide +kernel)
  have l_value := A.lcv "value" 0 (by decide +kernel)
  have v_own := A.var "own" 1 (by decide +kernel)
  have s_own := A.stv "own" 1 (by decide +kernel)
  have l_own := A.lcv "own" 1 (by decide +kernel)
  have g_tupled := A.glo "tupled" (by decide +kernel)
  have g_is_pair := A.glo "is_pair" (by decide +kernel)
  have g_Unfit := A.glo "Unfit" (by decide +kernel)
  obtain ⟨p, q, rfl, hw, h⟩ := h
  have hne := hw.ne
  have hn : nrm (p2 p q) = p2 p q := by simp [nrm, nrmL]
  (change DSs X _ [some (p2 p q), none] _ _; (first | refine ds_one ?_ | refine ds_cons ?_))
  repeat walk_at "dw"
  rw [hn]
  repeat walk_at "dw"
  exact h

theorem sc_height : FnScope ["way", "deed", "p", "q"] ["way", "deed"] (defScope (topS 42)) := ⟨rfl, rfl, rfl, by decide +kernel, rfl, by decide +kernel, by decide +kernel⟩
def tb_height : List (Str × Nat) := [("way", 0), ("deed", 1), ("p", 2), ("q", 3)]
def nm_height : List (Str × NameKind) := [("way", .local), ("deed", .local), ("p", .local), ("q", .local)]
theorem ok_height {P : Program} {w : World} {K : PySem.W.Frag} {mg : Str → Option Value} {base : Heap} (M : Mod K w mg) : Fn P w K mg base "height" 2 1 (cWD fun p q t => d3 (hgt p q t)) := by
  refine (M.h_height).fn (tb := tb_height) sc_height rfl (names := nm_height) rfl (by decide +kernel) fun X A ds S Φ hl h => ?_
  have G := M.nob
  have v_way := A.var "way" 0 (by decide +kernel)
  have s_way := A.stv "way" 0 (by decide +kernel)
  have l_way := A.lcv "way" 0 (by decide +kernel)
  have v_deed := A.var "deed" 1 (by decide +kernel)
  have s_deed := A.stv "deed" 1 (by decide +kernel)
  have l_deed := A.lcv "deed" 1 (by decide +kernel)
  have v_p := A.var "p" 2 (by decide +kernel)
  have s_p := A.stv "p" 2 (by decide +kernel)
  have l_p := A.lcv "p" 2 (by decide +kernel)
  have v_q := A.var "q" 3 (by decide +kernel)
  have s_q := A.stv "q" 3 (by decide +kernel)
  have l_q := A.lcv "q" 3 (by decide +kernel)
  obtain ⟨p, q, x, y, z, rfl, ⟨hw, hp, hq⟩, ⟨hx, hy, hz⟩, h⟩ := h
  (change DSs X _ [some (p2 p q), some (t3 x y z), none, none] _ _; (first | refine ds_one ?_ | refine ds_cons ?_))
  repeat walk_at "dw"
  exact h

theorem sc_is_above : FnScope ["way", "deed", "other", "own", "near", "far"] ["way", "deed", "other"] (defScope (topS 43)) := ⟨rfl, rfl, rfl, by decide +kernel, rfl, by decide +kernel, by decide +kernel⟩
def tb_is_above : List (Str × Nat) := [("way", 0), ("deed", 1), ("other", 2), ("own", 3), ("near", 4), ("far", 5)]
def nm_is_above : List (Str × NameKind) := [("way", .local), ("deed", .local), ("other", .local), ("own", .local), ("near", .local), ("far", .local), ("sure_way", .globalImplicit), ("sure_deed", .globalImplicit), ("height", .globalImplicit)]
theorem ok_is_above {P : Program} {w : World} {K : PySem.W.Frag} {mg : Str → Option Value} {base : Heap} (M : Mod K w mg) : Fn P w K mg base "is_above" 3 6 (cWDD fun p q t u => .bl (aboveT p q t u)) := by
  have d_sure_way := ok_sure_way (P := P) (w := w) (base := base) M
  have d_sure_deed := ok_sure_deed (P := P) (w := w) (base := base) M
  have d_height := ok_height (P := P) (w := w) (base := base) M
  refine (M.h_is_above).fn (tb := tb_is_above) sc_is_above rfl (names := nm_is_above) rfl (by decide +kernel) fun X A ds S Φ hl h => ?_
  have G := M.nob
  have v_way := A.var "way" 0 (by decide +kernel)
  have s_way := A.stv "way" 0 (by decide +kernel)
  have l_way := A.lcv "way" 0 (by decide +kernel)
  have v_deed := A.var "deed" 1 (by decide +kernel)
  have s_deed := A.stv "deed" 1 (by decide +kernel)
  have l_deed := A.lcv "deed" 1 (by decide +kernel)
  have v_other := A.var "other" 2 (by decide +kernel)
  have s_other := A.stv "other" 2 (by decide +kernel)
  have l_other := A.lcv "other" 2 (by decide +kernel)
  have v_own := A.var "own" 3 (by decide +kernel)
  have s_own := A.stv "own" 3 (by decide +kernel)
  have l_own := A.lcv "own" 3 (by decide +kernel)
  have v_near := A.var "near" 4 (by decide +kernel)
  have s_near := A.stv "near" 4 (by decide +kernel)
  have l_near := A.lcv "near" 4 (by decide +kernel)
  have v_far := A.var "far" 5 (by decide +kernel)
  have s_far := A.stv "far" 5 (by decide +kernel)
  have l_far := A.lcv "far" 5 (by decide +kernel)
  have g_sure_way := A.glo "sure_way" (by decide +kernel)
  have g_sure_deed := A.glo "sure_deed" (by decide +kernel)
  have g_height := A.glo "height" (by decide +kernel)
  obtain ⟨p, q, x, y, z, a, b, c, rfl, hw, ⟨hx, hy, hz⟩, ⟨ha, hb, hc⟩, h⟩ := h
  (change DSs X _ [some (p2 p q), some (t3 x y z), some (t3 a b c), none, none, none] _ _; (first | refine ds_one ?_ | refine ds_cons ?_))
  repeat walk_at "dw"
  exact h

theorem sc_is_up : FnScope ["way", "deed", "own", "near"] ["way", "deed"] (defScope (topS 44)) := ⟨rfl, rfl, rfl, by decide +kernel, rfl, by decide +kernel, by decide +kernel⟩
def tb_is_up : List (Str × Nat) := [("way", 0), ("deed", 1), ("own", 2), ("near", 3)]
def nm_is_up : List (Str × NameKind) := [("way", .local), ("deed", .local), ("own", .local), ("near", .local), ("sure_way", .globalImplicit), ("sure_deed", .globalImplicit), ("height", .globalImplicit)]
theorem ok_is_up {P : Program} {w : World} {K : PySem.W.Frag} {mg : Str → Option Value} {base : Heap} (M : Mod K w mg) : Fn P w K mg base "is_up" 2 6 (cWD fun p q t => .bl (lt3 (0, 0, 0) (hgt p q t))) := by
  have d_sure_way := ok_sure_way (P := P) (w := w) (base := base) M
  have d_sure_deed := ok_sure_deed (P := P) (w := w) (base := base) M
  have d_height := ok_height (P := P) (w := w) (base := base) M
  refine (M.h_is_up).fn (tb := tb_is_up) sc_is_up rfl (names := nm_is_up) rfl (by decide +kernel) fun X A ds S Φ hl h => ?_
  have G := M.nob
  have v_way := A.var "way" 0 (by decide +kernel)
  have s_way := A.stv "way" 0 (by decide +kernel)
  have l_way := A.lcv "way" 0 (by decide +kernel)
  have v_deed := A.var "deed" 1 (by decide +kernel)
  have s_deed := A.stv "deed" 1 (by decide +kernel)
  have l_deed := A.lcv "deed" 1 (by decide +kernel)
  have v_own := A.var "own" 2 (by decide +kernel)
  have s_own := A.stv "own" 2 (by decide +kernel)
  have l_own := A.lcv "own" 2 (by decide +kernel)
  have v_near := A.var "near" 3 (by decide +kernel)
  have s_near := A.stv "near" 3 (by decide +kernel)
  have l_near := A.lcv "near" 3 (by decide +kernel)
  have g_sure_way := A.glo "sure_way" (by decide +kernel)
  have g_sure_deed := A.glo "sure_deed" (by decide +kernel)
  have g_height := A.glo "height" (by decide +kernel)
  obtain ⟨p, q, x, y, z, rfl, hw, ⟨hx, hy, hz⟩, h⟩ := h
  (change DSs X _ [some (p2 p q), some (t3 x y z), none, none] _ _; (first | refine ds_one ?_ | refine ds_cons ?_))
  repeat walk_at "dw"
  exact h

theorem sc_up_or_undone : FnScope ["way", "deed", "own", "near"] ["way", "deed"] (defScope (topS 48)) := ⟨rfl, rfl, rfl, by decide +kernel, rfl, by decide +kernel, by decide +kernel⟩
def tb_up_or_undone : List (Str × Nat) := [("way", 0), ("deed", 1), ("own", 2), ("near", 3)]
def nm_up_or_undone : List (Str × NameKind) := [("way", .local), ("deed", .local), ("own", .local), ("near", .local), ("sure_way", .globalImplicit), ("sure_deed", .globalImplicit), ("height", .globalImplicit), ("undone_in", .globalImplicit)]
theorem ok_up_or_undone {P : Program} {w : World} {K : PySem.W.Frag} {mg : Str → Option Value} {base : Heap} (M : Mod K w mg) : Fn P w K mg base "up_or_undone" 2 6 (cWD fun p q t => if lt3 (hgt p q t) (0, 0, 0) then fUndo t.1 t.2.1 t.2.2 else d3 t) := by
  have d_sure_way := ok_sure_way (P := P) (w := w) (base := base) M
  have d_sure_deed := ok_sure_deed (P := P) (w := w) (base := base) M
  have d_height := ok_height (P := P) (w := w) (base := base) M
  have d_undone_in := ok_undone_in (P := P) (w := w) (base := base) M
  refine (M.h_up_or_undone).fn (tb := tb_up_or_undone) sc_up_or_undone rfl (names := nm_up_or_undone) rfl (by decide +kernel) fun X A ds S Φ hl h => ?_
  have G := M.nob
  have v_way := A.var "way" 0 (by decide +kernel)
  have s_way := A.stv "way" 0 (by decide +kernel)
  have l_way := A.lcv "way" 0 (by decide +kernel)
  have v_deed := A.var "deed" 1 (by decide +kernel)
  have s_deed := A.stv "deed" 1 (by decide +kernel)
  have l_deed := A.lcv "deed" 1 (by decide +kernel)
  have v_own := A.var "own" 2 (by decide +kernel)
  have s_own := A.stv "own" 2 (by decide +kernel)
  have l_own := A.lcv "own" 2 (by decide +kernel)
  have v_near := A.var "near" 3 (by decide +kernel)
  have s_near := A.stv "near" 3 (by decide +kernel)
  have l_near := A.lcv "near" 3 (by decide +kernel)
  have g_sure_way := A.glo "sure_way" (by decide +kernel)
  have g_sure_deed := A.glo "sure_deed" (by decide +kernel)
  have g_height := A.glo "height" (by decide +kernel)
  have g_undone_in := A.glo "undone_in" (by decide +kernel)
  obtain ⟨p, q, x, y, z, rfl, hw, ⟨hx, hy, hz⟩, h⟩ := h
  (change DSs X _ [some (p2 p q), some (t3 x y z), none, none] _ _; (first | refine ds_one ?_ | refine ds_cons ?_))
  repeat walk_at "dw"
  refine ite_c (fun e => ?_) (fun e => ?_)
  · have e2 : lt3 (hgt p q (x, y, z)) (0, 0, 0) = false := by
      cases hh : lt3 (hgt p q (x, y, z)) (0, 0, 0) with
      | false => rfl
      | true => rw [show lt3 (p * x + q * y, p * y - q * x, z) (0, 0, 0) = true from hh] at e; cases e
    dsimp only at h
    rw [e2] at h
    repeat walk_at "dw"
    exact h
  · have e2 : lt3 (hgt p q (x, y, z)) (0, 0, 0) = true := by
      cases hh : lt3 (hgt p q (x, y, z)) (0, 0, 0) with
      | true => rfl
      | false => rw [show lt3 (p * x + q * y, p * y - q * x, z) (0, 0, 0) = false from hh] at e; cases e
    dsimp only at h
    rw [e2] at h
    repeat walk_at "dw"
    exact h

theorem sc_lies_between : FnScope ["way", "deed", "low", "high", "own", "near", "one", "two"] ["way", "deed", "low", "high"] (defScope (topS 49)) := ⟨rfl, rfl, rfl, by decide +kernel, rfl, by decide +kernel, by decide +kernel⟩
def tb_lies_between : List (Str × Nat) := [("way", 0), ("deed", 1), ("low", 2), ("high", 3), ("own", 4), ("near", 5), ("one", 6), ("two", 7)]
def nm_lies_between : List (Str × NameKind) := [("way", .local), ("deed", .local), ("low", .local), ("high", .local), ("own", .local), ("near", .local), ("one", .local), ("two", .local), ("sure_way", .globalImplicit), ("sure_deed", .globalImplicit), ("height", .globalImplicit)]
theorem ok_lies_between {P : Program} {w : World} {K : PySem.W.Frag} {mg : Str → Option Value} {base : Heap} (M : Mod K w mg) : Fn P w K mg base "lies_between" 4 6 (cWDDD fun p q t u v => .bl (aboveT p q t u && aboveT p q v t)) := by
  have d_sure_way := ok_sure_way (P := P) (w := w) (base := base) M
  have d_sure_deed := ok_sure_deed (P := P) (w := w) (base := base) M
  have d_height := ok_height (P := P) (w := w) (base := base) M
  refine (M.h_lies_between).fn (tb := tb_lies_between) sc_lies_between rfl (names := nm_lies_between) rfl (by decide +kernel) fun X A ds S Φ hl h => ?_
  have G := M.nob
  have v_way := A.var "way" 0 (by decide +kernel)
  have s_way := A.stv "way" 0 (by decide +kernel)
  have l_way := A.lcv "way" 0 (by decide +kernel)
  have v_deed := A.var "deed" 1 (by decide +kernel)
  have s_deed := A.stv "deed" 1 (by decide +kernel)
  have l_deed := A.lcv "deed" 1 (by decide +kernel)
  have v_low := A.var "low" 2 (by decide +kernel)
  have s_low := A.stv "low" 2 (by decide +kernel)
  have l_low := A.lcv "low" 2 (by decide +kernel)
  have v_high := A.var "high" 3 (by decide +kernel)
  have s_high := A.stv "high" 3 (by decide +kernel)
  have l_high := A.lcv "high" 3 (by decide +kernel)
  have v_own := A.var "own" 4 (by decide +kernel)
  have s_own := A.stv "own" 4 (by decide +kernel)
  have l_own := A.lcv "own" 4 (by decide +kernel)
  have v_near := A.var "near" 5 (by decide +kernel)
  have s_near := A.stv "near" 5 (by decide +kernel)
  have l_near := A.lcv "near" 5 (by decide +kernel)
  have v_one := A.var "one" 6 (by decide +kernel)
  have s_one := A.stv "one" 6 (by decide +kernel)
  have l_one := A.lcv "one" 6 (by decide +kernel)
  have v_two := A.var "two" 7 (by decide +kernel)
  have s_two := A.stv "two" 7 (by decide +kernel)
  have l_two := A.lcv "two" 7 (by decide +kernel)
  have g_sure_way := A.glo "sure_way" (by decide +kernel)
  have g_sure_deed := A.glo "sure_deed" (by decide +kernel)
  have g_height := A.glo "height" (by decide +kernel)
  obtain ⟨p, q, x, y, z, a, b, c, u, v, w, rfl, hw, ⟨hx, hy, hz⟩, ⟨ha, hb, hc⟩, ⟨hu, hv, hw2⟩, h⟩ := h
  (change DSs X _ [some (p2 p q), some (t3 x y z), some (t3 a b c), some (t3 u v w), none, none, none, none] _ _; (first | refine ds_one ?_ | refine ds_cons ?_))
  repeat walk_at "dw"
  refine ite_c (fun e => ?_) (fun e => ?_)
  · dsimp only at h
    rw [show aboveT p q (x, y, z) (a, b, c) = true from e] at h
    repeat walk_at "dw"
    exact h
  · dsimp only at h
    rw [show aboveT p q (x, y, z) (a, b, c) = false from e] at h
    repeat walk_at "dw"
    exact h

theorem sc_sure_deeds : FnScope ["value", "own", "deed"] ["value"] (defScope (topS 21)) := ⟨rfl, rfl, rfl, by decide +kernel, rfl, by decide +kernel, by decide +kernel⟩
def tb_sure_deeds : List (Str × Nat) := [("value", 0), ("own", 1), ("deed", 2)]
def nm_sure_deeds : List (Str × NameKind) := [("value", .local), ("own", .local), ("tupled", .globalImplicit), ("isinstance", .globalImplicit), ("tuple", .globalImplicit), ("all", .globalImplicit), ("Unfit", .globalImplicit)]
theorem ok_sure_deeds {P : Program} {w : World} {K : PySem.W.Frag} {mg : Str → Option Value} {base : Heap} (M : Mod K w mg) : Fn P w K mg base "sure_deeds" 1 5 (cDeedsM) := by
  have d_tupled := ok_tupled (P := P) (w := w) (base := base) M 2
  have d_is_triple := ok_is_triple (P := P) (w := w) (base := base) M
  refine (M.h_sure_deeds).fn (tb := tb_sure_deeds) sc_sure_deeds rfl (names := nm_sure_deeds) rfl (by decide +kernel) fun X A ds S Φ hl h => ?_
  have G := M.nob
  have v_value := A.var "value" 0 (by decide +kernel)
  have s_value := A.stv "value" 0 (by decide +kernel)
  have l_value := A.lcv "value" 0 (by decide +kernel)
  have v_own := A.var "own" 1 (by decide +kernel)
  have s_own := A.stv "own" 1 (by decide +kernel)
  have l_own := A.lcv "own" 1 (by decide +kernel)
  have g_tupled := A.glo "tupled" (by decide +kernel)
  have g_isinstance := A.glo "isinstance" (by decide +kernel)
  have g_tuple := A.glo "tuple" (by decide +kernel)
  have g_all := A.glo "all" (by decide +kernel)
  have g_Unfit := A.glo "Unfit" (by decide +kernel)
  obtain ⟨l, d, rfl, hf, hn, hz0, h⟩ := h
  have hz : l.length ≤ 1000 := by omega
  (change DSs X _ [some (d), none, none] _ _; (first | refine ds_one ?_ | refine ds_cons ?_))
  repeat walk_at "dw"
  rw [hn]
  repeat walk_at "dw"
  refine de_lcN (own := [("deed", 2)]) 2 (fun d => .bl (isTripB d)) A rfl (by decide +kernel) (fun _ => rfl) (by decide +kernel) (by decide +kernel) ?_
  refine di_tup (vName A (by assumption) ⟨_, rfl, ?_⟩)
  refine ⟨_, rfl, ?_, ?_, ?_⟩
  · exact le_line (m := 1000) (by rw [List.length_map]; exact hz) rfl
  · intro d hd X' A' Ξ hΞ
    refine de_norm (by walk_at "dnorm") ?_
    have w_deed := A'.var "deed" 2 (by decide +kernel)
    have u_deed := A'.stv "deed" 2 (by decide +kernel)
    have h_is_triple := A'.glo "is_triple" (by decide +kernel)
    have hokd := plain_in (plain_d3s l) d hd
    repeat walk_at "dw"
    exact hΞ
  · refine ⟨(l.map d3).map isTripB, congrArg D.lst bls_map, ?_⟩
    repeat walk_at "dw"
    have e : ((l.map d3).map isTripB).all id = true := by
      rw [List.all_map, List.all_map, List.all_eq_true]
      intro t _
      rfl
    rw [e]
    repeat walk_at "dw"
    exact h

theorem sc_in_order : FnScope ["way", "deeds", "own", "some", "_", "deed"] ["way", "deeds"] (defScope (topS 45)) := ⟨rfl, rfl, rfl, by decide +kernel, rfl, by decide +kernel, by decide +kernel⟩
def tb_in_order : List (Str × Nat) := [("way", 0), ("deeds", 1), ("own", 2), ("some", 3), ("_", 4), ("deed", 5)]
def nm_in_order : List (Str × NameKind) := [("way", .local), ("deeds", .local), ("own", .cell), ("some", .local), ("sure_way", .globalImplicit), ("sure_deeds", .globalImplicit), ("sorted", .globalImplicit)]
theorem ok_in_order {P : Program} {w : World} {K : PySem.W.Frag} {mg : Str → Option Value} {base : Heap} (M : Mod K w mg) : Fn P w K mg base "in_order" 2 6 (cOrdM (fun p q l => .lst ((ordD p q l).map d3)) fun _ => True) := by
  have d_sure_way := ok_sure_way (P := P) (w := w) (base := base) M
  have d_sure_deeds := ok_sure_deeds (P := P) (w := w) (base := base) M
  have d_height := ok_height (P := P) (w := w) (base := base) M
  refine (M.h_in_order).fn (tb := tb_in_order) sc_in_order rfl (names := nm_in_order) rfl (by decide +kernel) fun X A ds S Φ hl h => ?_
  have G := M.nob
  have v_way := A.var "way" 0 (by decide +kernel)
  have s_way := A.stv "way" 0 (by decide +kernel)
  have l_way := A.lcv "way" 0 (by decide +kernel)
  have v_deeds := A.var "deeds" 1 (by decide +kernel)
  have s_deeds := A.stv "deeds" 1 (by decide +kernel)
  have l_deeds := A.lcv "deeds" 1 (by decide +kernel)
  have v_own := A.var "own" 2 (by decide +kernel)
  have s_own := A.stv "own" 2 (by decide +kernel)
  have v_some := A.var "some" 3 (by decide +kernel)
  have s_some := A.stv "some" 3 (by decide +kernel)
  have l_some := A.lcv "some" 3 (by decide +kernel)
  have g_sure_way := A.glo "sure_way" (by decide +kernel)
  have g_sure_deeds := A.glo "sure_deeds" (by decide +kernel)
  have g_sorted := A.glo "sorted" (by decide +kernel)
  obtain ⟨p, q, l, d, rfl, hw, hf, hn, hl, hb, hC, h⟩ := h
  
  (change DSs X _ [some (p2 p q), some (d), none, none, none, none] _ _; (first | refine ds_one ?_ | refine ds_cons ?_))
  repeat walk_at "dw"
  refine de_lcP (own := [("_", 4), ("deed", 5)]) 4 5 second A rfl (by decide +kernel) (fun _ => rfl) (by decide +kernel) (by decide +kernel) (by decide +kernel) (by decide +kernel) ?_
  refine di_lst (de_sortD (x := .lst (l.map (rowD p q))) A G (by decide +kernel) rfl (sortO_rows hl) (fun Ψ hΨ => ?_) ?_)
  · refine de_lcN (own := [("deed", 5)]) 5 (fun d => .tup [hD p q d, d]) A rfl (by decide +kernel) (fun _ => rfl) (by decide +kernel) (by decide +kernel) ?_
    refine di_tup (vName A (by assumption) ⟨_, rfl, ?_⟩)
    refine ⟨_, rfl, ?_, ?_, ?_⟩
    · exact le_line (m := 1000) (by rw [List.length_map]; omega) rfl
    · intro d hd X' A' Ξ hΞ
      refine de_norm (by walk_at "dnorm") ?_
      have w_deed := A'.var "deed" 5 (by decide +kernel)
      have u_deed := A'.stv "deed" 5 (by decide +kernel)
      have h_height := A'.glo "height" (by decide +kernel)
      have w_own := A'.var "own" 2 (by decide +kernel)
      obtain ⟨⟨x, y, z⟩, ht, rfl⟩ := List.mem_map.mp hd
      obtain ⟨hx, hy, hz⟩ := hb _ ht
      repeat walk_at "dw"
      exact hΞ
    · rw [show (l.map d3).map (fun d => D.tup [hD p q d, d]) = l.map (rowD p q) by rw [List.map_map]; rfl]
      exact hΨ
  · refine ⟨_, rfl, ?_, ?_, ?_⟩
    · exact le_line (m := 1000) (by rw [ordered_len]; omega) rfl
    · intro d hd
      obtain ⟨t, ht, rfl⟩ := ordered_mem hd
      refine ⟨_, _, rfl, fun X' A' Ξ hΞ => ?_⟩
      refine de_norm (by walk_at "dnorm") ?_
      have w__ := A'.var "_" 4 (by decide +kernel)
      have u__ := A'.stv "_" 4 (by decide +kernel)
      have w_deed := A'.var "deed" 5 (by decide +kernel)
      have u_deed := A'.stv "deed" 5 (by decide +kernel)
      repeat walk_at "dw"
      exact hΞ
    · rw [ordered_second]
      repeat walk_at "dw"
      exact h

theorem sc_lowest : FnScope ["way", "deeds", "found"] ["way", "deeds"] (defScope (topS 46)) := ⟨rfl, rfl, rfl, by decide +kernel, rfl, by decide +kernel, by decide +kernel⟩
def tb_lowest : List (Str × Nat) := [("way", 0), ("deeds", 1), ("found", 2)]
def nm_lowest : List (Str × NameKind) := [("way", .local), ("deeds", .local), ("found", .local), ("in_order", .globalImplicit), ("CanNot", .globalImplicit)]
theorem ok_lowest {P : Program} {w : World} {K : PySem.W.Frag} {mg : Str → Option Value} {base : Heap} (M : Mod K w mg) : Fn P w K mg base "lowest" 2 7 (cOrdM (fun p q l => d3 ((ordD p q l).headD (0, 0, 0))) fun l => l ≠ []) := by
  have d_in_order := ok_in_order (P := P) (w := w) (base := base) M
  refine (M.h_lowest).fn (tb := tb_lowest) sc_lowest rfl (names := nm_lowest) rfl (by decide +kernel) fun X A ds S Φ hl h => ?_
  have G := M.nob
  have v_way := A.var "way" 0 (by decide +kernel)
  have s_way := A.stv "way" 0 (by decide +kernel)
  have l_way := A.lcv "way" 0 (by decide +kernel)
  have v_deeds := A.var "deeds" 1 (by decide +kernel)
  have s_deeds := A.stv "deeds" 1 (by decide +kernel)
  have l_deeds := A.lcv "deeds" 1 (by decide +kernel)
  have v_found := A.var "found" 2 (by decide +kernel)
  have s_found := A.stv "found" 2 (by decide +kernel)
  have l_found := A.lcv "found" 2 (by decide +kernel)
  have g_in_order := A.glo "in_order" (by decide +kernel)
  have g_CanNot := A.glo "CanNot" (by decide +kernel)
  obtain ⟨p, q, l, d, rfl, hw, hf, hn, hl, hb, hC, h⟩ := h
  
  have hol := ordD_len (p := p) (q := q) (l := l)
  have hlo : (ordD p q l).length ≤ 500 := by omega
  obtain ⟨t, m, hm⟩ := ordD_ne (p := p) (q := q) hC
  (change DSs X _ [some (p2 p q), some (d), none] _ _; (first | refine ds_one ?_ | refine ds_cons ?_))
  repeat walk_at "dw"
  refine do_eqD3s A hlo ?_
  repeat walk_at "dw"
  rw [hm]
  repeat walk_at "dw"
  dsimp only at h
  rw [hm] at h
  refine ⟨d3 t, atI_first, ?_⟩
  repeat walk_at "dw"
  exact h

theorem sc_highest : FnScope ["way", "deeds", "found"] ["way", "deeds"] (defScope (topS 47)) := ⟨rfl, rfl, rfl, by decide +kernel, rfl, by decide +kernel, by decide +kernel⟩
def tb_highest : List (Str × Nat) := [("way", 0), ("deeds", 1), ("found", 2)]
def nm_highest : List (Str × NameKind) := [("way", .local), ("deeds", .local), ("found", .local), ("in_order", .globalImplicit), ("CanNot", .globalImplicit)]
theorem ok_highest {P : Program} {w : World} {K : PySem.W.Frag} {mg : Str → Option Value} {base : Heap} (M : Mod K w mg) : Fn P w K mg base "highest" 2 7 (cOrdM (fun p q l => d3 ((ordD p q l).getLastD (0, 0, 0))) fun l => l ≠ []) := by
  have d_in_order := ok_in_order (P := P) (w := w) (base := base) M
  refine (M.h_highest).fn (tb := tb_highest) sc_highest rfl (names := nm_highest) rfl (by decide +kernel) fun X A ds S Φ hl h => ?_
  have G := M.nob
  have v_way := A.var "way" 0 (by decide +kernel)
  have s_way := A.stv "way" 0 (by decide +kernel)
  have l_way := A.lcv "way" 0 (by decide +kernel)
  have v_deeds := A.var "deeds" 1 (by decide +kernel)
  have s_deeds := A.stv "deeds" 1 (by decide +kernel)
  have l_deeds := A.lcv "deeds" 1 (by decide +kernel)
  have v_found := A.var "found" 2 (by decide +kernel)
  have s_found := A.stv "found" 2 (by decide +kernel)
  have l_found := A.lcv "found" 2 (by decide +kernel)
  have g_in_order := A.glo "in_order" (by decide +kernel)
  have g_CanNot := A.glo "CanNot" (by decide +kernel)
  obtain ⟨p, q, l, d, rfl, hw, hf, hn, hl, hb, hC, h⟩ := h
  
  have hol := ordD_len (p := p) (q := q) (l := l)
  have hlo : (ordD p q l).length ≤ 500 := by omega
  obtain ⟨t, m, hm⟩ := ordD_ne (p := p) (q := q) hC
  (change DSs X _ [some (p2 p q), some (d), none] _ _; (first | refine ds_one ?_ | refine ds_cons ?_))
  repeat walk_at "dw"
  refine do_eqD3s A hlo ?_
  repeat walk_at "dw"
  rw [hm]
  repeat walk_at "dw"
  dsimp only at h
  rw [hm] at h
  refine ⟨d3 ((t :: m).getLastD (0, 0, 0)), atI_lastD, ?_⟩
  repeat walk_at "dw"
  exact h

theorem sc__law_height : FnScope ["way_so", "deed_so"] ["way_so", "deed_so"] (defScope (topS 72)) := ⟨rfl, rfl, rfl, by decide +kernel, rfl, by decide +kernel, by decide +kernel⟩
def tb__law_height : List (Str × Nat) := [("way_so", 0), ("deed_so", 1)]
def nm__law_height : List (Str × NameKind) := [("way_so", .local), ("deed_so", .local)]
theorem ok__law_height {P : Program} {w : World} {K : PySem.W.Frag} {mg : Str → Option Value} {base : Heap} (M : Mod K w mg) : Fn P w K mg base "_law_height" 2 1 (cWD fun p q t => d3 (hgt p q t)) := by
  refine (M.h__law_height).fn (tb := tb__law_height) sc__law_height rfl (names := nm__law_height) rfl (by decide +kernel) fun X A ds S Φ hl h => ?_
  have G := M.nob
  have v_way_so := A.var "way_so" 0 (by decide +kernel)
  have s_way_so := A.stv "way_so" 0 (by decide +kernel)
  have l_way_so := A.lcv "way_so" 0 (by decide +kernel)
  have v_deed_so := A.var "deed_so" 1 (by decide +kernel)
  have s_deed_so := A.stv "deed_so" 1 (by decide +kernel)
  have l_deed_so := A.lcv "deed_so" 1 (by decide +kernel)
  obtain ⟨p, q, x, y, z, rfl, ⟨hw, hp, hq⟩, ⟨hx, hy, hz⟩, h⟩ := h
  (change DSs X _ [some (p2 p q), some (t3 x y z)] _ _; (first | refine ds_one ?_ | refine ds_cons ?_))
  repeat walk_at "dw"
  exact h

theorem sc_rest : FnScope ["number", "many"] ["number", "many"] (defScope (topS 15)) := ⟨rfl, rfl, rfl, by decide +kernel, rfl, by decide +kernel, by decide +kernel⟩
def tb_rest : List (Str × Nat) := [("number", 0), ("many", 1)]
def nm_rest : List (Str × NameKind) := [("number", .local), ("many", .local)]
theorem ok_rest {P : Program} {w : World} {K : PySem.W.Frag} {mg : Str → Option Value} {base : Heap} (M : Mod K w mg) : Fn P w K mg base "rest" 2 1 (cI2 (fun _ y => 0 < y) fun x y => .int (x % y)) := by
  refine (M.h_rest).fn (tb := tb_rest) sc_rest rfl (names := nm_rest) rfl (by decide +kernel) fun X A ds S Φ hl h => ?_
  have G := M.nob
  have v_number := A.var "number" 0 (by decide +kernel)
  have s_number := A.stv "number" 0 (by decide +kernel)
  have l_number := A.lcv "number" 0 (by decide +kernel)
  have v_many := A.var "many" 1 (by decide +kernel)
  have s_many := A.stv "many" 1 (by decide +kernel)
  have l_many := A.lcv "many" 1 (by decide +kernel)
  obtain ⟨x, y, rfl, hy, h⟩ := h
  have hy0 : decide (y = 0) = false := decide_eq_false (by omega)
  (change DSs X _ [some (.int x), some (.int y)] _ _; (first | refine ds_one ?_ | refine ds_cons ?_))
  repeat walk_at "dw"
  exact h

theorem sc_divides : FnScope ["many", "number"] ["many", "number"] (defScope (topS 16)) := ⟨rfl, rfl, rfl, by decide +kernel, rfl, by decide +kernel, by decide +kernel⟩
def tb_divides : List (Str × Nat) := [("many", 0), ("number", 1)]
def nm_divides : List (Str × NameKind) := [("many", .local), ("number", .local)]
theorem ok_divides {P : Program} {w : World} {K : PySem.W.Frag} {mg : Str → Option Value} {base : Heap} (M : Mod K w mg) : Fn P w K mg base "divides" 2 1 (cI2 (fun x _ => 0 < x) fun x y => .bl (decide (y % x = 0))) := by
  refine (M.h_divides).fn (tb := tb_divides) sc_divides rfl (names := nm_divides) rfl (by decide +kernel) fun X A ds S Φ hl h => ?_
  have G := M.nob
  have v_many := A.var "many" 0 (by decide +kernel)
  have s_many := A.stv "many" 0 (by decide +kernel)
  have l_many := A.lcv "many" 0 (by decide +kernel)
  have v_number := A.var "number" 1 (by decide +kernel)
  have s_number := A.stv "number" 1 (by decide +kernel)
  have l_number := A.lcv "number" 1 (by decide +kernel)
  obtain ⟨x, y, rfl, hx, h⟩ := h
  have hx0 : decide (x = 0) = false := decide_eq_false (by omega)
  (change DSs X _ [some (.int x), some (.int y)] _ _; (first | refine ds_one ?_ | refine ds_cons ?_))
  repeat walk_at "dw"
  exact h

theorem sc_is_first : FnScope ["own", "centre"] ["own", "centre"] (defScope (topS 28)) := ⟨rfl, rfl, rfl, by decide +kernel, rfl, by decide +kernel, by decide +kernel⟩
def tb_is_first : List (Str × Nat) := [("own", 0), ("centre", 1)]
def nm_is_first : List (Str × NameKind) := [("own", .local), ("centre", .local), ("is_deed", .globalImplicit), ("rest", .globalImplicit)]
theorem ok_is_first {P : Program} {w : World} {K : PySem.W.Frag} {mg : Str → Option Value} {base : Heap} (M : Mod K w mg) : Fn P w K mg base "is_first" 2 6 (cPos3 (fun x _ _ _ => 0 < x) (.bl true)) := by
  have d_is_deed := ok_is_deed (P := P) (w := w) (base := base) M
  have d_rest := ok_rest (P := P) (w := w) (base := base) M
  refine (M.h_is_first).fn (tb := tb_is_first) sc_is_first rfl (names := nm_is_first) rfl (by decide +kernel) fun X A ds S Φ hl h => ?_
  have G := M.nob
  have v_own := A.var "own" 0 (by decide +kernel)
  have s_own := A.stv "own" 0 (by decide +kernel)
  have l_own := A.lcv "own" 0 (by decide +kernel)
  have v_centre := A.var "centre" 1 (by decide +kernel)
  have s_centre := A.stv "centre" 1 (by decide +kernel)
  have l_centre := A.lcv "centre" 1 (by decide +kernel)
  have g_is_deed := A.glo "is_deed" (by decide +kernel)
  have g_rest := A.glo "rest" (by decide +kernel)
  obtain ⟨x, y, z, c, rfl, hc, ⟨hz0, hz1⟩, hx, h⟩ := h
  have e1 : decide (0 < x) = true := decide_eq_true hx
  have e2 : z % c = z := Int.emod_eq_of_lt hz0 hz1
  (change DSs X _ [some (t3 x y z), some (.int c)] _ _; (first | refine ds_one ?_ | refine ds_cons ?_))
  repeat walk_at "dw"
  rw [e2]
  repeat walk_at "dw"
  rw [decide_eq_true rfl]
  exact h

theorem sc_is_second : FnScope ["own", "centre"] ["own", "centre"] (defScope (topS 29)) := ⟨rfl, rfl, rfl, by decide +kernel, rfl, by decide +kernel, by decide +kernel⟩
def tb_is_second : List (Str × Nat) := [("own", 0), ("centre", 1)]
def nm_is_second : List (Str × NameKind) := [("own", .local), ("centre", .local), ("is_deed", .globalImplicit), ("rest", .globalImplicit)]
theorem ok_is_second {P : Program} {w : World} {K : PySem.W.Frag} {mg : Str → Option Value} {base : Heap} (M : Mod K w mg) : Fn P w K mg base "is_second" 2 6 (cPos3 (fun x y _ _ => x = 0 ∧ 0 < y) (.bl true)) := by
  have d_is_deed := ok_is_deed (P := P) (w := w) (base := base) M
  have d_rest := ok_rest (P := P) (w := w) (base := base) M
  refine (M.h_is_second).fn (tb := tb_is_second) sc_is_second rfl (names := nm_is_second) rfl (by decide +kernel) fun X A ds S Φ hl h => ?_
  have G := M.nob
  have v_own := A.var "own" 0 (by decide +kernel)
  have s_own := A.stv "own" 0 (by decide +kernel)
  have l_own := A.lcv "own" 0 (by decide +kernel)
  have v_centre := A.var "centre" 1 (by decide +kernel)
  have s_centre := A.stv "centre" 1 (by decide +kernel)
  have l_centre := A.lcv "centre" 1 (by decide +kernel)
  have g_is_deed := A.glo "is_deed" (by decide +kernel)
  have g_rest := A.glo "rest" (by decide +kernel)
  obtain ⟨x, y, z, c, rfl, hc, ⟨hz0, hz1⟩, ⟨rfl, hy⟩, h⟩ := h
  have e1 : decide (0 < y) = true := decide_eq_true hy
  have e2 : z % c = z := Int.emod_eq_of_lt hz0 hz1
  (change DSs X _ [some (t3 0 y z), some (.int c)] _ _; (first | refine ds_one ?_ | refine ds_cons ?_))
  repeat walk_at "dw"
  rw [e2]
  repeat walk_at "dw"
  rw [decide_eq_true rfl]
  exact h

theorem sc_is_club : FnScope ["thing", "first", "second", "centre"] ["thing"] (defScope (topS 30)) := ⟨rfl, rfl, rfl, by decide +kernel, rfl, by decide +kernel, by decide +kernel⟩
def tb_is_club : List (Str × Nat) := [("thing", 0), ("first", 1), ("second", 2), ("centre", 3)]
def nm_is_club : List (Str × NameKind) := [("thing", .local), ("first", .local), ("second", .local), ("centre", .local), ("is_long", .globalImplicit), ("is_from", .globalImplicit), ("is_first", .globalImplicit), ("is_second", .globalImplicit)]
theorem ok_is_club {P : Program} {w : World} {K : PySem.W.Frag} {mg : Str → Option Value} {base : Heap} (M : Mod K w mg) : Fn P w K mg base "is_club" 1 7 (cClub fun _ => .bl true) := by
  have d_is_first := ok_is_first (P := P) (w := w) (base := base) M
  have d_is_second := ok_is_second (P := P) (w := w) (base := base) M
  have d_is_long := ok_is_long (P := P) (w := w) (base := base) M
  have d_is_from := ok_is_from (P := P) (w := w) (base := base) M
  refine (M.h_is_club).fn (tb := tb_is_club) sc_is_club rfl (names := nm_is_club) rfl (by decide +kernel) fun X A ds S Φ hl h => ?_
  have G := M.nob
  have v_thing := A.var "thing" 0 (by decide +kernel)
  have s_thing := A.stv "thing" 0 (by decide +kernel)
  have l_thing := A.lcv "thing" 0 (by decide +kernel)
  have v_first := A.var "first" 1 (by decide +kernel)
  have s_first := A.stv "first" 1 (by decide +kernel)
  have l_first := A.lcv "first" 1 (by decide +kernel)
  have v_second := A.var "second" 2 (by decide +kernel)
  have s_second := A.stv "second" 2 (by decide +kernel)
  have l_second := A.lcv "second" 2 (by decide +kernel)
  have v_centre := A.var "centre" 3 (by decide +kernel)
  have s_centre := A.stv "centre" 3 (by decide +kernel)
  have l_centre := A.lcv "centre" 3 (by decide +kernel)
  have g_is_long := A.glo "is_long" (by decide +kernel)
  have g_is_from := A.glo "is_from" (by decide +kernel)
  have g_is_first := A.glo "is_first" (by decide +kernel)
  have g_is_second := A.glo "is_second" (by decide +kernel)
  obtain ⟨d, rfl, hC, h⟩ := h
  rcases hC with ⟨hF⟩ | ⟨hL⟩ | ⟨hN⟩
  · rename_i a b u e v c
    have hc0 := hF.c0
    have hcc : (0 : Int) ≤ c := by omega
    have e0 : (!decide ((0 : Int) ≤ c)) = false := nd hcc
    have e1 : decide (0 < c) = true := decide_eq_true hc0
    have e2 : decide (a * e % c = 0) = true := decide_eq_true hF.dv
    have e3 : decide (0 ≤ b) = true := decide_eq_true hF.b0
    have e4 : decide (b < e) = true := decide_eq_true hF.be
    have hu : 0 ≤ u ∧ u < c := ⟨hF.u0, hF.uc⟩
    have hv : 0 ≤ v ∧ v < c := ⟨hF.v0, hF.vc⟩
    have ha := hF.a0
    have he : (0 : Int) = 0 ∧ 0 < e := ⟨rfl, hF.e0⟩
    have hab := hF.ab
    have heb := hF.eb
    (change DSs X _ [some (fullD a b u e v c), none, none, none] _ _; (first | refine ds_one ?_ | refine ds_cons ?_))
    repeat walk_at "dw"
    rw [e4]
    exact h
  · rename_i x y z c
    have hc0 := hL.c0
    have hcc : (0 : Int) ≤ c := by omega
    have e0 : (!decide ((0 : Int) ≤ c)) = false := nd hcc
    have hz : 0 ≤ z ∧ z < c := ⟨hL.z0, hL.zc⟩
    have hx := hL.x0
    (change DSs X _ [some (lineD x y z c), none, none, none] _ _; (first | refine ds_one ?_ | refine ds_cons ?_))
    repeat walk_at "dw"
    exact h
  · rename_i c
    have hcc : (0 : Int) ≤ c := by have := hN.c0; omega
    have e0 : (!decide ((0 : Int) ≤ c)) = false := nd hcc
    (change DSs X _ [some (cenD c), none, none, none] _ _; (first | refine ds_one ?_ | refine ds_cons ?_))
    repeat walk_at "dw"
    exact h

theorem sc_sure_club : FnScope ["value", "own"] ["value"] (defScope (topS 31)) := ⟨rfl, rfl, rfl, by decide +kernel, rfl, by decide +kernel, by decide +kernel⟩
def tb_sure_club : List (Str × Nat) := [("value", 0), ("own", 1)]
def nm_sure_club : List (Str × NameKind) := [("value", .local), ("own", .local), ("tupled", .globalImplicit), ("is_club", .globalImplicit), ("Unfit", .globalImplicit)]
theorem ok_sure_club {P : Program} {w : World} {K : PySem.W.Frag} {mg : Str → Option Value} {base : Heap} (M : Mod K w mg) : Fn P w K mg base "sure_club" 1 8 (cClub fun d => d) := by
  have d_tupled := ok_tupled (P := P) (w := w) (base := base) M 2
  have d_is_club := ok_is_club (P := P) (w := w) (base := base) M
  refine (M.h_sure_club).fn (tb := tb_sure_club) sc_sure_club rfl (names := nm_sure_club) rfl (by decide +kernel) fun X A ds S Φ hl h => ?_
  have G := M.nob
  have v_value := A.var "value" 0 (by decide +kernel)
  have s_value := A.stv "value" 0 (by decide +kernel)
  have l_value := A.lcv "value" 0 (by decide +kernel)
  have v_own := A.var "own" 1 (by decide +kernel)
  have s_own := A.stv "own" 1 (by decide +kernel)
  have l_own := A.lcv "own" 1 (by decide +kernel)
  have g_tupled := A.glo "tupled" (by decide +kernel)
  have g_is_club := A.glo "is_club" (by decide +kernel)
  have g_Unfit := A.glo "Unfit" (by decide +kernel)
  obtain ⟨d, rfl, hC, h⟩ := h
  obtain ⟨hf, hn⟩ := club_fit hC
  (change DSs X _ [some (d), none] _ _; (first | refine ds_one ?_ | refine ds_cons ?_))
  repeat walk_at "dw"
  rw [hn]
  refine ⟨hC, ?_⟩
  repeat walk_at "dw"
  exact h

theorem sc_index_in : FnScope ["club", "first", "second", "centre"] ["club"] (defScope (topS 39)) := ⟨rfl, rfl, rfl, by decide +kernel, rfl, by decide +kernel, by decide +kernel⟩
def tb_index_in : List (Str × Nat) := [("club", 0), ("first", 1), ("second", 2), ("centre", 3)]
def nm_index_in : List (Str × NameKind) := [("club", .local), ("first", .local), ("second", .local), ("centre", .local)]
theorem ok_index_in {P : Program} {w : World} {K : PySem.W.Frag} {mg : Str → Option Value} {base : Heap} (M : Mod K w mg) : Fn P w K mg base "index_in" 1 1 (cFull fun a _ _ e _ c => .int (a * e * c)) := by
  refine (M.h_index_in).fn (tb := tb_index_in) sc_index_in rfl (names := nm_index_in) rfl (by decide +kernel) fun X A ds S Φ hl h => ?_
  have G := M.nob
  have v_club := A.var "club" 0 (by decide +kernel)
  have s_club := A.stv "club" 0 (by decide +kernel)
  have l_club := A.lcv "club" 0 (by decide +kernel)
  have v_first := A.var "first" 1 (by decide +kernel)
  have s_first := A.stv "first" 1 (by decide +kernel)
  have l_first := A.lcv "first" 1 (by decide +kernel)
  have v_second := A.var "second" 2 (by decide +kernel)
  have s_second := A.stv "second" 2 (by decide +kernel)
  have l_second := A.lcv "second" 2 (by decide +kernel)
  have v_centre := A.var "centre" 3 (by decide +kernel)
  have s_centre := A.stv "centre" 3 (by decide +kernel)
  have l_centre := A.lcv "centre" 3 (by decide +kernel)
  obtain ⟨a, b, u, e, v, c, rfl, hF, h⟩ := h
  have ha := hF.ab
  have he := hF.eb
  have hc := hF.cb
  (change DSs X _ [some (fullD a b u e v c), none, none, none] _ _; (first | refine ds_one ?_ | refine ds_cons ?_))
  repeat walk_at "dw"
  exact h

theorem sc_row_times : FnScope ["deed", "many"] ["deed", "many"] (defScope (topS 53)) := ⟨rfl, rfl, rfl, by decide +kernel, rfl, by decide +kernel, by decide +kernel⟩
def tb_row_times : List (Str × Nat) := [("deed", 0), ("many", 1)]
def nm_row_times : List (Str × NameKind) := [("deed", .local), ("many", .local)]
theorem ok_row_times {P : Program} {w : World} {K : PySem.W.Frag} {mg : Str → Option Value} {base : Heap} (M : Mod K w mg) : Fn P w K mg base "row_times" 2 1 (cDI 10000000 fTimes) := by
  refine (M.h_row_times).fn (tb := tb_row_times) sc_row_times rfl (names := nm_row_times) rfl (by decide +kernel) fun X A ds S Φ hl h => ?_
  have G := M.nob
  have v_deed := A.var "deed" 0 (by decide +kernel)
  have s_deed := A.stv "deed" 0 (by decide +kernel)
  have l_deed := A.lcv "deed" 0 (by decide +kernel)
  have v_many := A.var "many" 1 (by decide +kernel)
  have s_many := A.stv "many" 1 (by decide +kernel)
  have l_many := A.lcv "many" 1 (by decide +kernel)
  obtain ⟨x, y, z, k, rfl, ⟨hx, hy, hz⟩, hk, h⟩ := h
  (change DSs X _ [some (t3 x y z), some (.int k)] _ _; (first | refine ds_one ?_ | refine ds_cons ?_))
  repeat walk_at "dw"
  exact h

theorem sc_parts_in : FnScope ["club", "deed", "first", "second", "centre", "own", "one", "two"] ["club", "deed"] (defScope (topS 36)) := ⟨rfl, rfl, rfl, by decide +kernel, rfl, by decide +kernel, by decide +kernel⟩
def tb_parts_in : List (Str × Nat) := [("club", 0), ("deed", 1), ("first", 2), ("second", 3), ("centre", 4), ("own", 5), ("one", 6), ("two", 7)]
def nm_parts_in : List (Str × NameKind) := [("club", .local), ("deed", .local), ("first", .local), ("second", .local), ("centre", .local), ("own", .local), ("one", .local), ("two", .local), ("joined", .globalImplicit), ("times_in", .globalImplicit), ("divides", .globalImplicit)]
theorem ok_parts_in {P : Program} {w : World} {K : PySem.W.Frag} {mg : Str → Option Value} {base : Heap} (M : Mod K w mg) : Fn P w K mg base "parts_in" 2 3 (cPart fun c i j o => partsV c i j o) := by
  have d_joined := ok_joined (P := P) (w := w) (base := base) M
  have d_times_in := ok_times_in (P := P) (w := w) (base := base) M
  have d_divides := ok_divides (P := P) (w := w) (base := base) M
  refine (M.h_parts_in).fn (tb := tb_parts_in) sc_parts_in rfl (names := nm_parts_in) rfl (by decide +kernel) fun X A ds S Φ hl h => ?_
  have G := M.nob
  have v_club := A.var "club" 0 (by decide +kernel)
  have s_club := A.stv "club" 0 (by decide +kernel)
  have l_club := A.lcv "club" 0 (by decide +kernel)
  have v_deed := A.var "deed" 1 (by decide +kernel)
  have s_deed := A.stv "deed" 1 (by decide +kernel)
  have l_deed := A.lcv "deed" 1 (by decide +kernel)
  have v_first := A.var "first" 2 (by decide +kernel)
  have s_first := A.stv "first" 2 (by decide +kernel)
  have l_first := A.lcv "first" 2 (by decide +kernel)
  have v_second := A.var "second" 3 (by decide +kernel)
  have s_second := A.stv "second" 3 (by decide +kernel)
  have l_second := A.lcv "second" 3 (by decide +kernel)
  have v_centre := A.var "centre" 4 (by decide +kernel)
  have s_centre := A.stv "centre" 4 (by decide +kernel)
  have l_centre := A.lcv "centre" 4 (by decide +kernel)
  have v_own := A.var "own" 5 (by decide +kernel)
  have s_own := A.stv "own" 5 (by decide +kernel)
  have l_own := A.lcv "own" 5 (by decide +kernel)
  have v_one := A.var "one" 6 (by decide +kernel)
  have s_one := A.stv "one" 6 (by decide +kernel)
  have l_one := A.lcv "one" 6 (by decide +kernel)
  have v_two := A.var "two" 7 (by decide +kernel)
  have s_two := A.stv "two" 7 (by decide +kernel)
  have l_two := A.lcv "two" 7 (by decide +kernel)
  have g_joined := A.glo "joined" (by decide +kernel)
  have g_times_in := A.glo "times_in" (by decide +kernel)
  have g_divides := A.glo "divides" (by decide +kernel)
  obtain ⟨d, x, y, z, c, i, j, o, rfl, hP, ⟨hx, hy, hz⟩, h⟩ := h
  rcases hP with ⟨hF⟩ | ⟨hL⟩
  · rename_i a b u e v
    have ha0 := hF.a0
    have he0 := hF.e0
    have hc0 := hF.c0
    have hcd : decide (0 < c) = true := decide_eq_true hc0
    have ha := hF.ab
    have he := hF.eb
    have hc := hF.cb
    have hb := hF.bb
    have hu := hF.ub
    have hv := hF.vb
    (change DSs X _ [some (fullD a b u e v c), some (t3 x y z), none, none, none, none, none, none] _ _; (first | refine ds_one ?_ | refine ds_cons ?_))
    repeat walk_at "dw"
    rw [cut2]
    repeat walk_at "dw"
    refine do_neT2 A ?_
    repeat walk_at "dw"
    refine ite_c (fun e => ?_) (fun e => ?_)
    · rw [Bool.not_eq_true'] at e
      repeat walk_at "dw"
      refine eqΦ ?_ h
      unfold partsV
      dsimp only
      rw [if_neg (by rw [e]; decide)]
    · rw [Bool.not_eq_false'] at e
      repeat walk_at "dw"
      refine ite_c (fun e3 => ?_) (fun e3 => ?_)
      · rw [Bool.not_eq_true'] at e3
        repeat walk_at "dw"
        refine eqΦ ?_ h
        unfold partsV
        dsimp only
        rw [if_pos e, if_neg (by rw [e3]; decide)]
      · rw [Bool.not_eq_false'] at e3
        repeat walk_at "dw"
        refine eqΦ ?_ h
        unfold partsV
        dsimp only
        rw [if_pos e, if_pos e3]
  · rename_i a b u
    have ha0 := hL.x0
    have hc0 := hL.c0
    have hcd : decide (0 < c) = true := decide_eq_true hc0
    have ha := hL.xb
    have hb := hL.yb
    have hu := hL.zb
    have hc := hL.cb
    (change DSs X _ [some (lineD a b u c), some (t3 x y z), none, none, none, none, none, none] _ _; (first | refine ds_one ?_ | refine ds_cons ?_))
    repeat walk_at "dw"
    rw [cut2]
    repeat walk_at "dw"
    refine do_neT2 A ?_
    repeat walk_at "dw"
    refine ite_c (fun e => ?_) (fun e => ?_)
    · rw [Bool.not_eq_true'] at e
      repeat walk_at "dw"
      refine eqΦ ?_ h
      unfold partsV
      dsimp only
      rw [if_neg (by rw [e]; decide)]
    · rw [Bool.not_eq_false'] at e
      repeat walk_at "dw"
      refine ite_c (fun e3 => ?_) (fun e3 => ?_)
      · rw [Bool.not_eq_true'] at e3
        repeat walk_at "dw"
        refine eqΦ ?_ h
        unfold partsV
        dsimp only
        rw [if_pos e, if_neg (by rw [e3]; decide)]
      · rw [Bool.not_eq_false'] at e3
        repeat walk_at "dw"
        refine eqΦ ?_ h
        unfold partsV
        dsimp only
        rw [if_pos e, if_pos e3]

theorem sc_has_in : FnScope ["club", "deed"] ["club", "deed"] (defScope (topS 37)) := ⟨rfl, rfl, rfl, by decide +kernel, rfl, by decide +kernel, by decide +kernel⟩
def tb_has_in : List (Str × Nat) := [("club", 0), ("deed", 1)]
def nm_has_in : List (Str × NameKind) := [("club", .local), ("deed", .local), ("parts_in", .globalImplicit)]
theorem ok_has_in {P : Program} {w : World} {K : PySem.W.Frag} {mg : Str → Option Value} {base : Heap} (M : Mod K w mg) : Fn P w K mg base "has_in" 2 4 (cPart fun c _ _ o => .bl (inB c o)) := by
  have d_parts_in := ok_parts_in (P := P) (w := w) (base := base) M
  refine (M.h_has_in).fn (tb := tb_has_in) sc_has_in rfl (names := nm_has_in) rfl (by decide +kernel) fun X A ds S Φ hl h => ?_
  have G := M.nob
  have v_club := A.var "club" 0 (by decide +kernel)
  have s_club := A.stv "club" 0 (by decide +kernel)
  have l_club := A.lcv "club" 0 (by decide +kernel)
  have v_deed := A.var "deed" 1 (by decide +kernel)
  have s_deed := A.stv "deed" 1 (by decide +kernel)
  have l_deed := A.lcv "deed" 1 (by decide +kernel)
  have g_parts_in := A.glo "parts_in" (by decide +kernel)
  obtain ⟨d, x, y, z, c, i, j, o, rfl, hP, ⟨hx, hy, hz⟩, h⟩ := h
  (change DSs X _ [some (d), some (t3 x y z)] _ _; (first | refine ds_one ?_ | refine ds_cons ?_))
  repeat walk_at "dw"
  dsimp only at h
  rw [← parts_non (one := i) (two := j)] at h
  exact h

theorem sc_has : FnScope ["club", "deed", "own", "goal"] ["club", "deed"] (defScope (topS 38)) := ⟨rfl, rfl, rfl, by decide +kernel, rfl, by decide +kernel, by decide +kernel⟩
def tb_has : List (Str × Nat) := [("club", 0), ("deed", 1), ("own", 2), ("goal", 3)]
def nm_has : List (Str × NameKind) := [("club", .local), ("deed", .local), ("own", .local), ("goal", .local), ("sure_club", .globalImplicit), ("sure_deed", .globalImplicit), ("has_in", .globalImplicit)]
theorem ok_has {P : Program} {w : World} {K : PySem.W.Frag} {mg : Str → Option Value} {base : Heap} (M : Mod K w mg) : Fn P w K mg base "has" 2 9 (cPart fun c _ _ o => .bl (inB c o)) := by
  have d_has_in := ok_has_in (P := P) (w := w) (base := base) M
  have d_sure_club := ok_sure_club (P := P) (w := w) (base := base) M
  have d_sure_deed := ok_sure_deed (P := P) (w := w) (base := base) M
  refine (M.h_has).fn (tb := tb_has) sc_has rfl (names := nm_has) rfl (by decide +kernel) fun X A ds S Φ hl h => ?_
  have G := M.nob
  have v_club := A.var "club" 0 (by decide +kernel)
  have s_club := A.stv "club" 0 (by decide +kernel)
  have l_club := A.lcv "club" 0 (by decide +kernel)
  have v_deed := A.var "deed" 1 (by decide +kernel)
  have s_deed := A.stv "deed" 1 (by decide +kernel)
  have l_deed := A.lcv "deed" 1 (by decide +kernel)
  have v_own := A.var "own" 2 (by decide +kernel)
  have s_own := A.stv "own" 2 (by decide +kernel)
  have l_own := A.lcv "own" 2 (by decide +kernel)
  have v_goal := A.var "goal" 3 (by decide +kernel)
  have s_goal := A.stv "goal" 3 (by decide +kernel)
  have l_goal := A.lcv "goal" 3 (by decide +kernel)
  have g_sure_club := A.glo "sure_club" (by decide +kernel)
  have g_sure_deed := A.glo "sure_deed" (by decide +kernel)
  have g_has_in := A.glo "has_in" (by decide +kernel)
  obtain ⟨d, x, y, z, c, i, j, o, rfl, hP, ⟨hx, hy, hz⟩, h⟩ := h
  have hC := hP.club
  (change DSs X _ [some (d), some (t3 x y z), none, none] _ _; (first | refine ds_one ?_ | refine ds_cons ?_))
  repeat walk_at "dw"
  exact h

theorem sc_plain_form : FnScope ["first", "second", "centre"] ["first", "second", "centre"] (defScope (topS 33)) := ⟨rfl, rfl, rfl, by decide +kernel, rfl, by decide +kernel, by decide +kernel⟩
def tb_plain_form : List (Str × Nat) := [("first", 0), ("second", 1), ("centre", 2)]
def nm_plain_form : List (Str × NameKind) := [("first", .local), ("second", .local), ("centre", .local), ("undone_in", .globalImplicit), ("joined", .globalImplicit), ("times_in", .globalImplicit), ("rest", .globalImplicit)]
theorem ok_plain_form {P : Program} {w : World} {K : PySem.W.Frag} {mg : Str → Option Value} {base : Heap} (M : Mod K w mg) : Fn P w K mg base "plain_form" 3 3 (cPlainF) := by
  have d_rest := ok_rest (P := P) (w := w) (base := base) M
  have d_undone_in := ok_undone_in (P := P) (w := w) (base := base) M
  have d_joined := ok_joined (P := P) (w := w) (base := base) M
  have d_times_in := ok_times_in (P := P) (w := w) (base := base) M
  refine (M.h_plain_form).fn (tb := tb_plain_form) sc_plain_form rfl (names := nm_plain_form) rfl (by decide +kernel) fun X A ds S Φ hl h => ?_
  have G := M.nob
  have v_first := A.var "first" 0 (by decide +kernel)
  have s_first := A.stv "first" 0 (by decide +kernel)
  have l_first := A.lcv "first" 0 (by decide +kernel)
  have v_second := A.var "second" 1 (by decide +kernel)
  have s_second := A.stv "second" 1 (by decide +kernel)
  have l_second := A.lcv "second" 1 (by decide +kernel)
  have v_centre := A.var "centre" 2 (by decide +kernel)
  have s_centre := A.stv "centre" 2 (by decide +kernel)
  have l_centre := A.lcv "centre" 2 (by decide +kernel)
  have g_undone_in := A.glo "undone_in" (by decide +kernel)
  have g_joined := A.glo "joined" (by decide +kernel)
  have g_times_in := A.glo "times_in" (by decide +kernel)
  have g_rest := A.glo "rest" (by decide +kernel)
  obtain ⟨d, e, c, r, rfl, hP, h⟩ := h
  rcases hP with _ | ⟨hc0, hx0⟩
  · (change DSs X _ [some (.non), some (.non), some (.int c)] _ _; (first | refine ds_one ?_ | refine ds_cons ?_))
    repeat walk_at "dw"
    exact h
  · rename_i x y z
    have e1 : decide (x < 0) = false := decide_eq_false (by omega)
    (change DSs X _ [some (t3 x y z), some (.non), some (.int c)] _ _; (first | refine ds_one ?_ | refine ds_cons ?_))
    repeat walk_at "dw"
    exact h

theorem sc_common : FnScope ["one", "other"] ["one", "other"] (defScope (topS 12)) := ⟨rfl, rfl, rfl, by decide +kernel, rfl, by decide +kernel, by decide +kernel⟩
def tb_common : List (Str × Nat) := [("one", 0), ("other", 1)]
def nm_common : List (Str × NameKind) := [("one", .local), ("other", .local), ("abs", .globalImplicit)]
theorem ok_common {P : Program} {w : World} {K : PySem.W.Frag} {mg : Str → Option Value} {base : Heap} (M : Mod K w mg) : Fn P w K mg base "common" 2 1 (cI2 (fun x y => 0 ≤ x ∧ 0 ≤ y) fun x y => .int (Int.gcd x y)) := by
  refine (M.h_common).fn (tb := tb_common) sc_common rfl (names := nm_common) rfl (by decide +kernel) fun X A ds S Φ hl h => ?_
  have G := M.nob
  have v_one := A.var "one" 0 (by decide +kernel)
  have s_one := A.stv "one" 0 (by decide +kernel)
  have l_one := A.lcv "one" 0 (by decide +kernel)
  have v_other := A.var "other" 1 (by decide +kernel)
  have s_other := A.stv "other" 1 (by decide +kernel)
  have l_other := A.lcv "other" 1 (by decide +kernel)
  have g_abs := A.glo "abs" (by decide +kernel)
  obtain ⟨x, y, rfl, ⟨hx, hy⟩, h⟩ := h
  have ex : (if x < 0 then -x else x) = x := if_neg (by omega)
  have ey : (if y < 0 then -y else y) = y := if_neg (by omega)
  (change DSs X _ [some (.int x), some (.int y)] _ _; (first | refine ds_one ?_ | refine ds_cons ?_))
  repeat walk_at "dw"
  rw [ex, ey]
  refine ds_while A (fun m ρ S' => ∃ i j : Int, 0 ≤ i ∧ 0 ≤ j ∧ j.toNat = m ∧ Int.gcd i j = Int.gcd x y ∧ ρ = [some (.int i), some (.int j)] ∧ S' = S) (m0 := y.toNat) ?_ ?_
  · exact ⟨x, y, hx, hy, rfl, rfl, rfl, rfl⟩
  rintro m ρ S' ⟨i, j, hi, hj, hm, hg, rfl, rfl⟩
  repeat walk_at "dw"
  refine ite_c (fun e => ?_) (fun e => ?_)
  · have e := of_decide_eq_true e
    repeat walk_at "dw"
    exact .mk ⟨(i % j).toNat, by have := Int.emod_lt_of_pos i e; omega, j, i % j, by omega, Int.emod_nonneg _ (by omega), rfl, by rw [gcd_step hi e]; exact hg, rfl, rfl⟩
  · have e := of_decide_eq_false e
    have hj0 : j = 0 := by omega
    subst hj0
    repeat walk_at "dw"
    refine eqΦ ?_ h
    dsimp only
    rw [← hg, Int.gcd_zero_right, Int.natAbs_of_nonneg hi]

theorem sc_with_deed : FnScope ["club", "deed", "first", "second", "centre", "own"] ["club", "deed"] (defScope (topS 34)) := ⟨rfl, rfl, rfl, by decide +kernel, rfl, by decide +kernel, by decide +kernel⟩
def tb_with_deed : List (Str × Nat) := [("club", 0), ("deed", 1), ("first", 2), ("second", 3), ("centre", 4), ("own", 5)]
def nm_with_deed : List (Str × NameKind) := [("club", .local), ("deed", .local), ("first", .local), ("second", .local), ("centre", .local), ("own", .local), ("NOTHING", .globalImplicit), ("exchanged", .globalImplicit), ("common", .globalImplicit), ("crossed", .globalImplicit), ("plain_form", .globalImplicit)]
theorem ok_with_deed {P : Program} {w : World} {K : PySem.W.Frag} {mg : Str → Option Value} {base : Heap} (M : Mod K w mg) : Fn P w K mg base "with_deed" 2 4 (cWith) := by
  have d_common := ok_common (P := P) (w := w) (base := base) M
  have d_plain_form := ok_plain_form (P := P) (w := w) (base := base) M
  refine (M.h_with_deed).fn (tb := tb_with_deed) sc_with_deed rfl (names := nm_with_deed) rfl (by decide +kernel) fun X A ds S Φ hl h => ?_
  have G := M.nob
  have v_club := A.var "club" 0 (by decide +kernel)
  have s_club := A.stv "club" 0 (by decide +kernel)
  have l_club := A.lcv "club" 0 (by decide +kernel)
  have v_deed := A.var "deed" 1 (by decide +kernel)
  have s_deed := A.stv "deed" 1 (by decide +kernel)
  have l_deed := A.lcv "deed" 1 (by decide +kernel)
  have v_first := A.var "first" 2 (by decide +kernel)
  have s_first := A.stv "first" 2 (by decide +kernel)
  have l_first := A.lcv "first" 2 (by decide +kernel)
  have v_second := A.var "second" 3 (by decide +kernel)
  have s_second := A.stv "second" 3 (by decide +kernel)
  have l_second := A.lcv "second" 3 (by decide +kernel)
  have v_centre := A.var "centre" 4 (by decide +kernel)
  have s_centre := A.stv "centre" 4 (by decide +kernel)
  have l_centre := A.lcv "centre" 4 (by decide +kernel)
  have v_own := A.var "own" 5 (by decide +kernel)
  have s_own := A.stv "own" 5 (by decide +kernel)
  have l_own := A.lcv "own" 5 (by decide +kernel)
  have g_NOTHING := A.glo "NOTHING" (by decide +kernel)
  have gl_NOTHING := M.gl_NOTHING
  have g_exchanged := A.glo "exchanged" (by decide +kernel)
  have g_common := A.glo "common" (by decide +kernel)
  have g_crossed := A.glo "crossed" (by decide +kernel)
  have g_plain_form := A.glo "plain_form" (by decide +kernel)
  obtain ⟨d, x, y, z, r, rfl, hW, h⟩ := h
  rcases hW with ⟨⟨hc, hcb⟩⟩ | ⟨⟨hc, hcb⟩, hx⟩
  · have hcc : 0 ≤ z := by omega
    have hz : (0 : Int) ≤ 0 ∧ 0 ≤ z := ⟨by decide, hcc⟩
    have hg : ((Int.gcd 0 z : Nat) : Int) = z := by rw [Int.gcd_zero_left, Int.natAbs_of_nonneg hcc]
    (change DSs X _ [some (cenD 0), some (t3 0 0 z), none, none, none, none] _ _; (first | refine ds_one ?_ | refine ds_cons ?_))
    repeat walk_at "dw"
    rw [hg]
    repeat walk_at "dw"
    exact h
  · rename_i c
    have hcc : 0 ≤ c := by omega
    have hz : 0 ≤ c ∧ (0 : Int) ≤ 0 := ⟨hcc, by decide⟩
    have hg : ((Int.gcd c 0 : Nat) : Int) = c := by rw [Int.gcd_zero_right, Int.natAbs_of_nonneg hcc]
    have hx1 : (!decide (x = 0)) = true := by rw [decide_eq_false (show ¬ x = 0 by omega)]; rfl
    (change DSs X _ [some (cenD c), some (t3 x y z), none, none, none, none] _ _; (first | refine ds_one ?_ | refine ds_cons ?_))
    repeat walk_at "dw"
    rw [hg]
    repeat walk_at "dw"
    exact h

theorem sc_least_up : FnScope ["way", "club", "own"] ["way", "club"] (defScope (topS 50)) := ⟨rfl, rfl, rfl, by decide +kernel, rfl, by decide +kernel, by decide +kernel⟩
def tb_least_up : List (Str × Nat) := [("way", 0), ("club", 1), ("own", 2)]
def nm_least_up : List (Str × NameKind) := [("way", .local), ("club", .local), ("own", .local), ("sure_way", .globalImplicit), ("sure_club", .globalImplicit), ("CanNot", .globalImplicit)]
theorem ok_least_up {P : Program} {w : World} {K : PySem.W.Frag} {mg : Str → Option Value} {base : Heap} (M : Mod K w mg) : Fn P w K mg base "least_up" 2 9 (cLeast) := by
  have d_sure_way := ok_sure_way (P := P) (w := w) (base := base) M
  have d_sure_club := ok_sure_club (P := P) (w := w) (base := base) M
  refine (M.h_least_up).fn (tb := tb_least_up) sc_least_up rfl (names := nm_least_up) rfl (by decide +kernel) fun X A ds S Φ hl h => ?_
  have G := M.nob
  have v_way := A.var "way" 0 (by decide +kernel)
  have s_way := A.stv "way" 0 (by decide +kernel)
  have l_way := A.lcv "way" 0 (by decide +kernel)
  have v_club := A.var "club" 1 (by decide +kernel)
  have s_club := A.stv "club" 1 (by decide +kernel)
  have l_club := A.lcv "club" 1 (by decide +kernel)
  have v_own := A.var "own" 2 (by decide +kernel)
  have s_own := A.stv "own" 2 (by decide +kernel)
  have l_own := A.lcv "own" 2 (by decide +kernel)
  have g_sure_way := A.glo "sure_way" (by decide +kernel)
  have g_sure_club := A.glo "sure_club" (by decide +kernel)
  have g_CanNot := A.glo "CanNot" (by decide +kernel)
  obtain ⟨p, q, d, c, rfl, hw, hC, hc, h⟩ := h
  have hc0 : decide (c = 0) = false := decide_eq_false (by omega)
  rcases hC with ⟨a, b, u, e, v, rfl, hF⟩ | ⟨rfl, hN⟩
  · have hC := ClubB.full hF
    (change DSs X _ [some (p2 p q), some (fullD a b u e v c), none] _ _; (first | refine ds_one ?_ | refine ds_cons ?_))
    repeat walk_at "dw"
    exact h
  · have hC := ClubB.cen hN
    (change DSs X _ [some (p2 p q), some (cenD c), none] _ _; (first | refine ds_one ?_ | refine ds_cons ?_))
    repeat walk_at "dw"
    exact h

theorem sc_is_level : FnScope ["way", "club", "deed", "p", "q", "own", "near"] ["way", "club", "deed"] (defScope (topS 54)) := ⟨rfl, rfl, rfl, by decide +kernel, rfl, by decide +kernel, by decide +kernel⟩
def tb_is_level : List (Str × Nat) := [("way", 0), ("club", 1), ("deed", 2), ("p", 3), ("q", 4), ("own", 5), ("near", 6)]
def nm_is_level : List (Str × NameKind) := [("way", .local), ("club", .local), ("deed", .local), ("p", .local), ("q", .local), ("own", .local), ("near", .local), ("sure_way", .globalImplicit), ("sure_club", .globalImplicit), ("sure_deed", .globalImplicit), ("has_in", .globalImplicit), ("CanNot", .globalImplicit)]
theorem ok_is_level {P : Program} {w : World} {K : PySem.W.Frag} {mg : Str → Option Value} {base : Heap} (M : Mod K w mg) : Fn P w K mg base "is_level" 3 9 (cLevelB) := by
  have d_sure_way := ok_sure_way (P := P) (w := w) (base := base) M
  have d_sure_club := ok_sure_club (P := P) (w := w) (base := base) M
  have d_sure_deed := ok_sure_deed (P := P) (w := w) (base := base) M
  have d_has_in := ok_has_in (P := P) (w := w) (base := base) M
  refine (M.h_is_level).fn (tb := tb_is_level) sc_is_level rfl (names := nm_is_level) rfl (by decide +kernel) fun X A ds S Φ hl h => ?_
  have G := M.nob
  have v_way := A.var "way" 0 (by decide +kernel)
  have s_way := A.stv "way" 0 (by decide +kernel)
  have l_way := A.lcv "way" 0 (by decide +kernel)
  have v_club := A.var "club" 1 (by decide +kernel)
  have s_club := A.stv "club" 1 (by decide +kernel)
  have l_club := A.lcv "club" 1 (by decide +kernel)
  have v_deed := A.var "deed" 2 (by decide +kernel)
  have s_deed := A.stv "deed" 2 (by decide +kernel)
  have l_deed := A.lcv "deed" 2 (by decide +kernel)
  have v_p := A.var "p" 3 (by decide +kernel)
  have s_p := A.stv "p" 3 (by decide +kernel)
  have l_p := A.lcv "p" 3 (by decide +kernel)
  have v_q := A.var "q" 4 (by decide +kernel)
  have s_q := A.stv "q" 4 (by decide +kernel)
  have l_q := A.lcv "q" 4 (by decide +kernel)
  have v_own := A.var "own" 5 (by decide +kernel)
  have s_own := A.stv "own" 5 (by decide +kernel)
  have l_own := A.lcv "own" 5 (by decide +kernel)
  have v_near := A.var "near" 6 (by decide +kernel)
  have s_near := A.stv "near" 6 (by decide +kernel)
  have l_near := A.lcv "near" 6 (by decide +kernel)
  have g_sure_way := A.glo "sure_way" (by decide +kernel)
  have g_sure_club := A.glo "sure_club" (by decide +kernel)
  have g_sure_deed := A.glo "sure_deed" (by decide +kernel)
  have g_has_in := A.glo "has_in" (by decide +kernel)
  have g_CanNot := A.glo "CanNot" (by decide +kernel)
  obtain ⟨p, q, d, x, y, z, c, i, j, o, rfl, hw, hP, ⟨hx, hy, hz⟩, hin, h⟩ := h
  have hC := hP.club
  have hin2 : (!inB c o) = false := by rw [hin]; rfl
  have hp := hw.p
  have hq := hw.q
  (change DSs X _ [some (p2 p q), some (d), some (t3 x y z), none, none, none, none] _ _; (first | refine ds_one ?_ | refine ds_cons ?_))
  repeat walk_at "dw"
  exact h

theorem sc_made_by : FnScope ["deeds", "found", "deed"] ["deeds"] (defScope (topS 35)) := ⟨rfl, rfl, rfl, by decide +kernel, rfl, by decide +kernel, by decide +kernel⟩
def tb_made_by : List (Str × Nat) := [("deeds", 0), ("found", 1), ("deed", 2)]
def nm_made_by : List (Str × NameKind) := [("deeds", .local), ("found", .local), ("deed", .local), ("EMPTY", .globalImplicit), ("with_deed", .globalImplicit)]
theorem ok_made_by {P : Program} {w : World} {K : PySem.W.Frag} {mg : Str → Option Value} {base : Heap} (M : Mod K w mg) : Fn P w K mg base "made_by" 1 5 (cMade) := by
  have d_with_deed := ok_with_deed (P := P) (w := w) (base := base) M
  refine (M.h_made_by).fn (tb := tb_made_by) sc_made_by rfl (names := nm_made_by) rfl (by decide +kernel) fun X A ds S Φ hl h => ?_
  have G := M.nob
  have v_deeds := A.var "deeds" 0 (by decide +kernel)
  have s_deeds := A.stv "deeds" 0 (by decide +kernel)
  have l_deeds := A.lcv "deeds" 0 (by decide +kernel)
  have v_found := A.var "found" 1 (by decide +kernel)
  have s_found := A.stv "found" 1 (by decide +kernel)
  have l_found := A.lcv "found" 1 (by decide +kernel)
  have v_deed := A.var "deed" 2 (by decide +kernel)
  have s_deed := A.stv "deed" 2 (by decide +kernel)
  have l_deed := A.lcv "deed" 2 (by decide +kernel)
  have g_EMPTY := A.glo "EMPTY" (by decide +kernel)
  have gl_EMPTY := M.gl_EMPTY
  have g_with_deed := A.glo "with_deed" (by decide +kernel)
  obtain ⟨x, y, z, c, rfl, hN, hx, h⟩ := h
  (change DSs X _ [some (.lst [t3 0 0 c, t3 x y z]), none, none] _ _; (first | refine ds_one ?_ | refine ds_cons ?_))
  repeat walk_at "dw"
  refine ds_for A (fun _ => rfl) ?_
  refine di_lst (vName A (by assumption) ⟨_, rfl, ?_⟩)
  refine ⟨_, rfl, ?_⟩
  refine vG A (by assumption) rfl ?_
  (with_reducible apply nxG_norm)
  walk_at "dnorm"
  repeat walk_at "dw"
  refine vG A (by assumption) rfl ?_
  (with_reducible apply nxG_norm)
  walk_at "dnorm"
  repeat walk_at "dw"
  refine nx_mk ?_
  repeat walk_at "dw"
  exact h

theorem sc_across : FnScope ["first", "second", "one", "two", "near", "far"] ["first", "second", "one", "two"] (defScope (topS 52)) := ⟨rfl, rfl, rfl, by decide +kernel, rfl, by decide +kernel, by decide +kernel⟩
def tb_across : List (Str × Nat) := [("first", 0), ("second", 1), ("one", 2), ("two", 3), ("near", 4), ("far", 5)]
def nm_across : List (Str × NameKind) := [("first", .local), ("second", .local), ("one", .local), ("two", .local), ("near", .local), ("far", .local), ("abs", .globalImplicit), ("joined", .globalImplicit), ("row_times", .globalImplicit)]
theorem ok_across {P : Program} {w : World} {K : PySem.W.Frag} {mg : Str → Option Value} {base : Heap} (M : Mod K w mg) : Fn P w K mg base "across" 4 3 (cAcross) := by
  have d_joined := ok_joined (P := P) (w := w) (base := base) M
  have d_row_times := ok_row_times (P := P) (w := w) (base := base) M
  refine (M.h_across).fn (tb := tb_across) sc_across rfl (names := nm_across) rfl (by decide +kernel) fun X A ds S Φ hl h => ?_
  have G := M.nob
  have v_first := A.var "first" 0 (by decide +kernel)
  have s_first := A.stv "first" 0 (by decide +kernel)
  have l_first := A.lcv "first" 0 (by decide +kernel)
  have v_second := A.var "second" 1 (by decide +kernel)
  have s_second := A.stv "second" 1 (by decide +kernel)
  have l_second := A.lcv "second" 1 (by decide +kernel)
  have v_one := A.var "one" 2 (by decide +kernel)
  have s_one := A.stv "one" 2 (by decide +kernel)
  have l_one := A.lcv "one" 2 (by decide +kernel)
  have v_two := A.var "two" 3 (by decide +kernel)
  have s_two := A.stv "two" 3 (by decide +kernel)
  have l_two := A.lcv "two" 3 (by decide +kernel)
  have v_near := A.var "near" 4 (by decide +kernel)
  have s_near := A.stv "near" 4 (by decide +kernel)
  have l_near := A.lcv "near" 4 (by decide +kernel)
  have v_far := A.var "far" 5 (by decide +kernel)
  have s_far := A.stv "far" 5 (by decide +kernel)
  have l_far := A.lcv "far" 5 (by decide +kernel)
  have g_abs := A.glo "abs" (by decide +kernel)
  have g_joined := A.glo "joined" (by decide +kernel)
  have g_row_times := A.glo "row_times" (by decide +kernel)
  obtain ⟨a, b, u, e, v, c, n, m, rfl, hF, hn, hm, hn0, hm0, h⟩ := h
  have ha := hF.ab
  have he := hF.eb
  have hb := hF.bb
  have hu := hF.ub
  have hv := hF.vb
  have hg0 : (0 : Int) < (Int.gcd n m : Nat) := by have := Int.gcd_pos_of_ne_zero_left m hn0; omega
  have hgb : Bd 3000 ((Int.gcd n m : Nat) : Int) := Bd.le (by omega) (gcd_le hm0) hm
  (change DSs X _ [some (t3 a b u), some (t3 0 e v), some (.int n), some (.int m), none, none] _ _; (first | refine ds_one ?_ | refine ds_cons ?_))
  repeat walk_at "dw"
  refine ds_while A (fun mm ρ S' => ∃ i j : Int, 0 ≤ i ∧ 0 ≤ j ∧ j.toNat = mm ∧ Int.gcd i j = Int.gcd n m ∧ ρ = [some (t3 a b u), some (t3 0 e v), some (.int n), some (.int m), some (.int i), some (.int j)] ∧ S' = S) (m0 := (if m < 0 then -m else m).toNat) ?_ ?_
  · refine ⟨_, _, ?_, ?_, rfl, ?_, rfl, rfl⟩
    · split <;> omega
    · split <;> omega
    · show Nat.gcd _ _ = Nat.gcd _ _
      congr 1 <;> (split <;> omega)
  rintro mm ρ S' ⟨i, j, hi, hj, hmm, hg, rfl, rfl⟩
  repeat walk_at "dw"
  refine ite_c (fun e => ?_) (fun e => ?_)
  · have e := of_decide_eq_true e
    repeat walk_at "dw"
    exact .mk ⟨(i % j).toNat, by have := Int.emod_lt_of_pos i e; omega, j, i % j, by omega, Int.emod_nonneg _ (by omega), rfl, by rw [gcd_step hi e]; exact hg, rfl, rfl⟩
  · have e := of_decide_eq_false e
    have hj0 : j = 0 := by omega
    subst hj0
    have hi2 : i = ((Int.gcd n m : Nat) : Int) := by rw [← hg, Int.gcd_zero_right, Int.natAbs_of_nonneg hi]
    subst hi2
    repeat walk_at "dw"
    exact h

theorem sc_level : FnScope ["way", "club", "p", "q", "own", "first", "second", "centre", "one", "two", "found"] ["way", "club"] (defScope (topS 51)) := ⟨rfl, rfl, rfl, by decide +kernel, rfl, by decide +kernel, by decide +kernel⟩
def tb_level : List (Str × Nat) := [("way", 0), ("club", 1), ("p", 2), ("q", 3), ("own", 4), ("first", 5), ("second", 6), ("centre", 7), ("one", 8), ("two", 9), ("found", 10)]
def nm_level : List (Str × NameKind) := [("way", .local), ("club", .local), ("p", .local), ("q", .local), ("own", .local), ("first", .local), ("second", .local), ("centre", .local), ("one", .local), ("two", .local), ("found", .local), ("sure_way", .globalImplicit), ("sure_club", .globalImplicit), ("index_in", .globalImplicit), ("CanNot", .globalImplicit), ("across", .globalImplicit), ("made_by", .globalImplicit)]
theorem ok_level {P : Program} {w : World} {K : PySem.W.Frag} {mg : Str → Option Value} {base : Heap} (M : Mod K w mg) : Fn P w K mg base "level" 2 9 (cLevel) := by
  have d_sure_way := ok_sure_way (P := P) (w := w) (base := base) M
  have d_sure_club := ok_sure_club (P := P) (w := w) (base := base) M
  have d_index_in := ok_index_in (P := P) (w := w) (base := base) M
  have d_across := ok_across (P := P) (w := w) (base := base) M
  have d_made_by := ok_made_by (P := P) (w := w) (base := base) M
  refine (M.h_level).fn (tb := tb_level) sc_level rfl (names := nm_level) rfl (by decide +kernel) fun X A ds S Φ hl h => ?_
  have G := M.nob
  have v_way := A.var "way" 0 (by decide +kernel)
  have s_way := A.stv "way" 0 (by decide +kernel)
  have l_way := A.lcv "way" 0 (by decide +kernel)
  have v_club := A.var "club" 1 (by decide +kernel)
  have s_club := A.stv "club" 1 (by decide +kernel)
  have l_club := A.lcv "club" 1 (by decide +kernel)
  have v_p := A.var "p" 2 (by decide +kernel)
  have s_p := A.stv "p" 2 (by decide +kernel)
  have l_p := A.lcv "p" 2 (by decide +kernel)
  have v_q := A.var "q" 3 (by decide +kernel)
  have s_q := A.stv "q" 3 (by decide +kernel)
  have l_q := A.lcv "q" 3 (by decide +kernel)
  have v_own := A.var "own" 4 (by decide +kernel)
  have s_own := A.stv "own" 4 (by decide +kernel)
  have l_own := A.lcv "own" 4 (by decide +kernel)
  have v_first := A.var "first" 5 (by decide +kernel)
  have s_first := A.stv "first" 5 (by decide +kernel)
  have l_first := A.lcv "first" 5 (by decide +kernel)
  have v_second := A.var "second" 6 (by decide +kernel)
  have s_second := A.stv "second" 6 (by decide +kernel)
  have l_second := A.lcv "second" 6 (by decide +kernel)
  have v_centre := A.var "centre" 7 (by decide +kernel)
  have s_centre := A.stv "centre" 7 (by decide +kernel)
  have l_centre := A.lcv "centre" 7 (by decide +kernel)
  have v_one := A.var "one" 8 (by decide +kernel)
  have s_one := A.stv "one" 8 (by decide +kernel)
  have l_one := A.lcv "one" 8 (by decide +kernel)
  have v_two := A.var "two" 9 (by decide +kernel)
  have s_two := A.stv "two" 9 (by decide +kernel)
  have l_two := A.lcv "two" 9 (by decide +kernel)
  have v_found := A.var "found" 10 (by decide +kernel)
  have s_found := A.stv "found" 10 (by decide +kernel)
  have l_found := A.lcv "found" 10 (by decide +kernel)
  have g_sure_way := A.glo "sure_way" (by decide +kernel)
  have g_sure_club := A.glo "sure_club" (by decide +kernel)
  have g_index_in := A.glo "index_in" (by decide +kernel)
  have g_CanNot := A.glo "CanNot" (by decide +kernel)
  have g_across := A.glo "across" (by decide +kernel)
  have g_made_by := A.glo "made_by" (by decide +kernel)
  obtain ⟨p, q, a, b, u, e, v, c, rfl, hw, hq0, hF, h⟩ := h
  have hC := ClubB.full hF
  have hp := hw.p
  have hq := hw.q
  have ha := hF.ab
  have heb := hF.eb
  have hb := hF.bb
  have hi : decide (a * e * c = 0) = false := decide_eq_false (by have := Int.mul_pos (Int.mul_pos hF.a0 hF.e0) hF.c0; omega)
  have hN : CenB c := ⟨hF.c0, hF.cb⟩
  have he2 : Bd 200 e := heb.mono (by decide)
  (change DSs X _ [some (p2 p q), some (fullD a b u e v c), none, none, none, none, none, none, none, none, none] _ _; (first | refine ds_one ?_ | refine ds_cons ?_))
  repeat walk_at "dw"
  refine vCell A (by assumption) ?_ ?_
  exact rfl
  repeat walk_at "dw"
  intro cc
  (with_reducible apply nx_norm)
  walk_at "dnorm"
  with_reducible refine nx_mk ?_
  refine dss_box ?_
  repeat walk_at "dw"
  have last : ∀ (p1 p2' p3 p4 : Pos) (t : T3), t = levelT p q a b u e v → 0 < t.1 → DSs X [.Return (some (.Call (.Name "made_by" p1) [.Name "found" p2'] [] p3)) p4] [some (p2 p q), some (fullD a b u e v c), some (.int p), some (.int q), some (fullD a b u e v c), some (t3 a b u), some (t3 0 e v), some (.int c), some (.int (p * a + q * b)), some (.int (q * e)), some (.cell cc)] (S ++ [(cc, [t3 0 0 c, d3 t])]) { nx := fun x S' => RetP S Φ D.non S', rt := RetP S Φ } := by
    intro p1 p2' p3 p4 t ht hx
    refine dss_freeze 10 rfl ?_
    rw [List.append_nil]
    dsimp only [List.set]
    repeat walk_at "dw"
    unfold levelD at h
    rw [← ht] at h
    exact h
  have hm0 : 0 < q * e := Int.mul_pos hq0 hF.e0
  refine ite_c (fun e0 => ?_) (fun e0 => ?_)
  · have e1 := of_decide_eq_true e0
    repeat walk_at "dw"
    refine .mk (last _ _ _ _ (a, b, u) ?_ hF.a0)
    unfold levelT
    rw [if_pos e1]
  · have e1 : p * a + q * b ≠ 0 := of_decide_eq_false e0
    have h2 : decide (q * e = 0) = false := decide_eq_false (by omega)
    repeat walk_at "dw"
    refine .mk (last _ _ _ _ (acrossT a b u e v (p * a + q * b) (q * e)) ?_ (across_pos hF.a0 hm0))
    unfold levelT
    rw [if_neg e1]

theorem sc__law_makers : FnScope ["club_so", "own"] ["club_so"] (defScope (topS 70)) := ⟨rfl, rfl, rfl, by decide +kernel, rfl, by decide +kernel, by decide +kernel⟩
def tb__law_makers : List (Str × Nat) := [("club_so", 0), ("own", 1)]
def nm__law_makers : List (Str × NameKind) := [("club_so", .local)]
theorem ok__law_makers {P : Program} {w : World} {K : PySem.W.Frag} {mg : Str → Option Value} {base : Heap} (M : Mod K w mg) : Fn P w K mg base "_law_makers" 1 1 (cMk) := by
  refine (M.h__law_makers).fn (tb := tb__law_makers) sc__law_makers rfl (names := nm__law_makers) rfl (by decide +kernel) fun X A ds S Φ hl h => ?_
  have G := M.nob
  have v_club_so := A.var "club_so" 0 (by decide +kernel)
  have s_club_so := A.stv "club_so" 0 (by decide +kernel)
  have l_club_so := A.lcv "club_so" 0 (by decide +kernel)
  obtain ⟨d, r, rfl, hM, h⟩ := h
  rcases hM with ⟨hF⟩ | ⟨hL⟩
  · rename_i a b u e v c
    have hc0 : decide (0 < c) = true := decide_eq_true hF.c0
    (change DSs X _ [some (fullD a b u e v c), none] _ _; (first | refine ds_one ?_ | refine ds_cons ?_))
    repeat walk_at "dw"
    refine de_lcF (own := [("own", 1)]) 1 (fun d => !isNon d) (fun d => d) A rfl (by decide +kernel) (fun _ => rfl) (by decide +kernel) (by decide +kernel) ?_
    refine di_tup ?_
    repeat walk_at "dw"
    refine ⟨Nat.le_of_ble_eq_true rfl, ?_, ?_⟩
    · intro d hd X' A'
      have w_own := A'.var "own" 1 (by decide +kernel)
      have u_own := A'.stv "own" 1 (by decide +kernel)
      refine ⟨fun Ξ hΞ => ?_, fun hp Ξ hΞ => ?_⟩
      · have hc : OkC S d := by
          rw [cut2] at hd
          simp only [List.mem_cons, List.not_mem_nil, or_false] at hd
          rcases hd with rfl | rfl <;> exact trivial
        repeat walk_at "dw"
        exact hΞ
      · repeat walk_at "dw"
        exact hΞ
    · repeat walk_at "dw"
      rw [cut2]
      exact h
  · rename_i x y z c
    have hc0 : decide (0 < c) = true := decide_eq_true hL.c0
    (change DSs X _ [some (lineD x y z c), none] _ _; (first | refine ds_one ?_ | refine ds_cons ?_))
    repeat walk_at "dw"
    refine de_lcF (own := [("own", 1)]) 1 (fun d => !isNon d) (fun d => d) A rfl (by decide +kernel) (fun _ => rfl) (by decide +kernel) (by decide +kernel) ?_
    refine di_tup ?_
    repeat walk_at "dw"
    refine ⟨Nat.le_of_ble_eq_true rfl, ?_, ?_⟩
    · intro d hd X' A'
      have w_own := A'.var "own" 1 (by decide +kernel)
      have u_own := A'.stv "own" 1 (by decide +kernel)
      refine ⟨fun Ξ hΞ => ?_, fun hp Ξ hΞ => ?_⟩
      · have hc : OkC S d := by
          rw [cut2] at hd
          simp only [List.mem_cons, List.not_mem_nil, or_false] at hd
          rcases hd with rfl | rfl <;> exact trivial
        repeat walk_at "dw"
        exact hΞ
      · repeat walk_at "dw"
        exact hΞ
    · repeat walk_at "dw"
      rw [cut2]
      exact h

theorem sc__law_parts : FnScope ["club_so", "deed_so", "own", "found", "k", "row_so", "many_so"] ["club_so", "deed_so"] (defScope (topS 68)) := ⟨rfl, rfl, rfl, by decide +kernel, rfl, by decide +kernel, by decide +kernel⟩
def tb__law_parts : List (Str × Nat) := [("club_so", 0), ("deed_so", 1), ("own", 2), ("found", 3), ("k", 4), ("row_so", 5), ("many_so", 6)]
def nm__law_parts : List (Str × NameKind) := [("club_so", .local), ("deed_so", .local), ("own", .local), ("found", .local), ("k", .local), ("row_so", .local), ("many_so", .local), ("_law_join", .globalImplicit), ("_law_times", .globalImplicit), ("int", .globalImplicit)]
theorem ok__law_parts {P : Program} {w : World} {K : PySem.W.Frag} {mg : Str → Option Value} {base : Heap} (M : Mod K w mg) : Fn P w K mg base "_law_parts" 2 2 (cPart fun c i j o => partsV c i j o) := by
  have d__law_join := ok__law_join (P := P) (w := w) (base := base) M
  have d__law_times := ok__law_times (P := P) (w := w) (base := base) M
  refine (M.h__law_parts).fn (tb := tb__law_parts) sc__law_parts rfl (names := nm__law_parts) rfl (by decide +kernel) fun X A ds S Φ hl h => ?_
  have G := M.nob
  have v_club_so := A.var "club_so" 0 (by decide +kernel)
  have s_club_so := A.stv "club_so" 0 (by decide +kernel)
  have l_club_so := A.lcv "club_so" 0 (by decide +kernel)
  have v_deed_so := A.var "deed_so" 1 (by decide +kernel)
  have s_deed_so := A.stv "deed_so" 1 (by decide +kernel)
  have l_deed_so := A.lcv "deed_so" 1 (by decide +kernel)
  have v_own := A.var "own" 2 (by decide +kernel)
  have s_own := A.stv "own" 2 (by decide +kernel)
  have l_own := A.lcv "own" 2 (by decide +kernel)
  have v_found := A.var "found" 3 (by decide +kernel)
  have s_found := A.stv "found" 3 (by decide +kernel)
  have l_found := A.lcv "found" 3 (by decide +kernel)
  have v_k := A.var "k" 4 (by decide +kernel)
  have s_k := A.stv "k" 4 (by decide +kernel)
  have l_k := A.lcv "k" 4 (by decide +kernel)
  have v_row_so := A.var "row_so" 5 (by decide +kernel)
  have s_row_so := A.stv "row_so" 5 (by decide +kernel)
  have l_row_so := A.lcv "row_so" 5 (by decide +kernel)
  have v_many_so := A.var "many_so" 6 (by decide +kernel)
  have s_many_so := A.stv "many_so" 6 (by decide +kernel)
  have l_many_so := A.lcv "many_so" 6 (by decide +kernel)
  have g__law_join := A.glo "_law_join" (by decide +kernel)
  have g__law_times := A.glo "_law_times" (by decide +kernel)
  have g_int := A.glo "int" (by decide +kernel)
  obtain ⟨d, x, y, z, c, i, j, o, rfl, hP, ⟨hx, hy, hz⟩, h⟩ := h
  rcases hP with ⟨hF⟩ | ⟨hL⟩
  · rename_i a b u e v
    have ha0 := hF.a0
    have he0 := hF.e0
    have hc0 := hF.c0
    have hcd : decide (c = 0) = false := decide_eq_false (by omega)
    have ha := hF.ab
    have he := hF.eb
    have hc := hF.cb
    have hb := hF.bb
    have hu := hF.ub
    have hv := hF.vb
    (change DSs X _ [some (fullD a b u e v c), some (t3 x y z), none, none, none, none, none] _ _; (first | refine ds_one ?_ | refine ds_cons ?_))
    refine vParC A (by assumption) (by assumption) ?_ ?_ ?_ ?_
    · decide +kernel
    · exact rfl
    · exact rfl
    refine dac_cons (dec_e ?_) rfl
    repeat walk_at "dw"
    refine dac_cons (dec_n (dn_lst rfl (da_nil ?_))) rfl
    intro cc
    refine dac_nil ?_
    repeat walk_at "dw"
    refine ds_for A (fun _ => rfl) ?_
    refine di_tup ?_
    repeat walk_at "dw"
    refine vG A (by assumption) rfl ?_
    (with_reducible apply nxG_norm)
    walk_at "dnorm"
    repeat walk_at "dw"
    refine vG A (by assumption) rfl ?_
    (with_reducible apply nxG_norm)
    walk_at "dnorm"
    repeat walk_at "dw"
    refine nx_mk ?_
    repeat walk_at "dw"
    rw [cut2]
    repeat walk_at "dw"
    refine do_neT2 A ?_
    repeat walk_at "dw"
    refine ite_c (fun e => ?_) (fun e => ?_)
    · rw [Bool.not_eq_true'] at e
      repeat walk_at "dw"
      refine RetP.mk (S2 := S) (R := [_]) rfl (eqΦ ?_ h)
      unfold partsV
      dsimp only
      rw [if_neg (by rw [e]; decide)]
    · rw [Bool.not_eq_false'] at e
      repeat walk_at "dw"
      refine ite_c (fun e3 => ?_) (fun e3 => ?_)
      · repeat walk_at "dw"
        refine ⟨_, ⟨_, List.mem_append_right _ List.mem_cons_self, rfl⟩, ?_⟩
        repeat walk_at "dw"
        refine ⟨_, ⟨_, List.mem_append_right _ List.mem_cons_self, rfl⟩, ?_⟩
        repeat walk_at "dw"
        refine RetP.mk (S2 := S) (R := [_]) rfl (eqΦ ?_ h)
        unfold partsV
        dsimp only
        rw [if_pos e, if_pos e3]
      · repeat walk_at "dw"
        refine RetP.mk (S2 := S) (R := [_]) rfl (eqΦ ?_ h)
        unfold partsV
        dsimp only
        rw [if_pos e, if_neg (by rw [e3]; decide)]
  · rename_i a b u
    have ha0 := hL.x0
    have hc0 := hL.c0
    have hcd : decide (c = 0) = false := decide_eq_false (by omega)
    have ha := hL.xb
    have hb := hL.yb
    have hu := hL.zb
    have hc := hL.cb
    (change DSs X _ [some (lineD a b u c), some (t3 x y z), none, none, none, none, none] _ _; (first | refine ds_one ?_ | refine ds_cons ?_))
    refine vParC A (by assumption) (by assumption) ?_ ?_ ?_ ?_
    · decide +kernel
    · exact rfl
    · exact rfl
    refine dac_cons (dec_e ?_) rfl
    repeat walk_at "dw"
    refine dac_cons (dec_n (dn_lst rfl (da_nil ?_))) rfl
    intro cc
    refine dac_nil ?_
    repeat walk_at "dw"
    refine ds_for A (fun _ => rfl) ?_
    refine di_tup ?_
    repeat walk_at "dw"
    refine vG A (by assumption) rfl ?_
    (with_reducible apply nxG_norm)
    walk_at "dnorm"
    repeat walk_at "dw"
    refine vG A (by assumption) rfl ?_
    (with_reducible apply nxG_norm)
    walk_at "dnorm"
    repeat walk_at "dw"
    refine nx_mk ?_
    repeat walk_at "dw"
    rw [cut2]
    repeat walk_at "dw"
    refine do_neT2 A ?_
    repeat walk_at "dw"
    refine ite_c (fun e => ?_) (fun e => ?_)
    · rw [Bool.not_eq_true'] at e
      repeat walk_at "dw"
      refine RetP.mk (S2 := S) (R := [_]) rfl (eqΦ ?_ h)
      unfold partsV
      dsimp only
      rw [if_neg (by rw [e]; decide)]
    · rw [Bool.not_eq_false'] at e
      repeat walk_at "dw"
      refine ite_c (fun e3 => ?_) (fun e3 => ?_)
      · repeat walk_at "dw"
        refine ⟨_, ⟨_, List.mem_append_right _ List.mem_cons_self, rfl⟩, ?_⟩
        repeat walk_at "dw"
        refine ⟨_, ⟨_, List.mem_append_right _ List.mem_cons_self, rfl⟩, ?_⟩
        repeat walk_at "dw"
        refine RetP.mk (S2 := S) (R := [_]) rfl (eqΦ ?_ h)
        unfold partsV
        dsimp only
        rw [if_pos e, if_pos e3]
      · repeat walk_at "dw"
        refine RetP.mk (S2 := S) (R := [_]) rfl (eqΦ ?_ h)
        unfold partsV
        dsimp only
        rw [if_pos e, if_neg (by rw [e3]; decide)]

theorem sc__law_has : FnScope ["club_so", "deed_so"] ["club_so", "deed_so"] (defScope (topS 69)) := ⟨rfl, rfl, rfl, by decide +kernel, rfl, by decide +kernel, by decide +kernel⟩
def tb__law_has : List (Str × Nat) := [("club_so", 0), ("deed_so", 1)]
def nm__law_has : List (Str × NameKind) := [("club_so", .local), ("deed_so", .local), ("_law_parts", .globalImplicit)]
theorem ok__law_has {P : Program} {w : World} {K : PySem.W.Frag} {mg : Str → Option Value} {base : Heap} (M : Mod K w mg) : Fn P w K mg base "_law_has" 2 3 (cPart fun c _ _ o => .bl (inB c o)) := by
  have d__law_parts := ok__law_parts (P := P) (w := w) (base := base) M
  refine (M.h__law_has).fn (tb := tb__law_has) sc__law_has rfl (names := nm__law_has) rfl (by decide +kernel) fun X A ds S Φ hl h => ?_
  have G := M.nob
  have v_club_so := A.var "club_so" 0 (by decide +kernel)
  have s_club_so := A.stv "club_so" 0 (by decide +kernel)
  have l_club_so := A.lcv "club_so" 0 (by decide +kernel)
  have v_deed_so := A.var "deed_so" 1 (by decide +kernel)
  have s_deed_so := A.stv "deed_so" 1 (by decide +kernel)
  have l_deed_so := A.lcv "deed_so" 1 (by decide +kernel)
  have g__law_parts := A.glo "_law_parts" (by decide +kernel)
  obtain ⟨d, x, y, z, c, i, j, o, rfl, hP, ⟨hx, hy, hz⟩, h⟩ := h
  (change DSs X _ [some (d), some (t3 x y z)] _ _; (first | refine ds_one ?_ | refine ds_cons ?_))
  repeat walk_at "dw"
  dsimp only at h
  rw [← parts_non (one := i) (two := j)] at h
  exact h

theorem sc__law_finite : FnScope ["tin", "top_so", "a", "e", "goods_so", "c", "k"] ["tin", "top_so"] (defScope (topS 71)) := ⟨rfl, rfl, rfl, by decide +kernel, rfl, by decide +kernel, by decide +kernel⟩
def tb__law_finite : List (Str × Nat) := [("tin", 0), ("top_so", 1), ("a", 2), ("e", 3), ("goods_so", 4), ("c", 5), ("k", 6)]
def nm__law_finite : List (Str × NameKind) := [("tin", .local), ("top_so", .cell), ("a", .cell), ("e", .cell), ("goods_so", .local), ("c", .local), ("_law_take", .globalImplicit), ("range", .globalImplicit), ("_law_of", .globalImplicit)]
theorem ok__law_finite {P : Program} {w : World} {K : PySem.W.Frag} {mg : Str → Option Value} {base : Heap} (M : Mod K w mg) : Fn P w K mg base "_law_finite" 2 3 (cFinite) := by
  have d__law_take := ok__law_take (P := P) (w := w) (base := base) M
  have d__law_of := ok__law_of (P := P) (w := w) (base := base) M
  refine (M.h__law_finite).fn (tb := tb__law_finite) sc__law_finite rfl (names := nm__law_finite) rfl (by decide +kernel) fun X A ds S Φ hl h => ?_
  have G := M.nob
  have v_tin := A.var "tin" 0 (by decide +kernel)
  have s_tin := A.stv "tin" 0 (by decide +kernel)
  have l_tin := A.lcv "tin" 0 (by decide +kernel)
  have v_top_so := A.var "top_so" 1 (by decide +kernel)
  have s_top_so := A.stv "top_so" 1 (by decide +kernel)
  have v_a := A.var "a" 2 (by decide +kernel)
  have s_a := A.stv "a" 2 (by decide +kernel)
  have v_e := A.var "e" 3 (by decide +kernel)
  have s_e := A.stv "e" 3 (by decide +kernel)
  have v_goods_so := A.var "goods_so" 4 (by decide +kernel)
  have s_goods_so := A.stv "goods_so" 4 (by decide +kernel)
  have l_goods_so := A.lcv "goods_so" 4 (by decide +kernel)
  have v_c := A.var "c" 5 (by decide +kernel)
  have s_c := A.stv "c" 5 (by decide +kernel)
  have l_c := A.lcv "c" 5 (by decide +kernel)
  have g__law_take := A.glo "_law_take" (by decide +kernel)
  have g_range := A.glo "range" (by decide +kernel)
  have g__law_of := A.glo "_law_of" (by decide +kernel)
  obtain ⟨pp, b, l, R, n, rfl, rfl, ht, hb, hn1, hn2, h⟩ := h
  have hn0 : 0 < n := by omega
  have hnb : Bd 100 n := Bd.lt2 (y := 100) (by omega) (by omega) (Bd.lit rfl)
  (change DSs X _ [some (.cell pp), some (.int n), none, none, none, none, none] _ _; (first | refine ds_one ?_ | refine ds_cons ?_))
  repeat walk_at "dw"
  intro r1 l1 r10 r11 ht1
  have hr1 : Bd 100 r1 := Bd.lt2 r10 r11 hnb
  repeat walk_at "dw"
  intro r2 l2 r20 r21 ht2
  have hr2 : Bd 100 r2 := Bd.lt2 r20 r21 hnb
  have ha : Bd 101 (1 + r1) := (((Bd.lit (n := 1) (x := 1) rfl).mono (by decide)).add2 hr1)
  have he : Bd 101 (1 + r2) := (((Bd.lit (n := 1) (x := 1) rfl).mono (by decide)).add2 hr2)
  repeat walk_at "dw"
  refine vSetLc (own := [("k", 6)]) A (by assumption) rfl (by decide +kernel) (fun _ => rfl) rfl rfl ?_
  refine vRange2 A (by assumption) (by assumption) rfl rfl rfl ?_
  have hm1 : 1 ≤ (1 + r1) * (1 + r2) := Int.mul_pos (by omega) (by omega)
  have hm2 : (1 + r1) * (1 + r2) ≤ 12 * 12 := Int.mul_le_mul (by omega) (by omega) (by omega) (by omega)
  repeat walk_at "dw"
  (with_reducible apply lcN_norm)
  walk_at "dnorm"
  refine lcf (i := 6) (p := goodB ((1 + r1) * (1 + r2)) n) (f := fun d => d) A rfl (by decide +kernel) (by decide +kernel) (fun d hd X' A' => ?_) ?_
  · obtain ⟨k, rfl, hk1, _⟩ := mem_rangeD hd
    have hk0 : 0 < k := by omega
    have w_k := A'.var "k" 6 (by decide +kernel)
    have u_k := A'.stv "k" 6 (by decide +kernel)
    have w_top_so := A'.var "top_so" 1 (by decide +kernel)
    have h_int := A'.glo "int" (by decide +kernel)
    have w_a := A'.var "a" 2 (by decide +kernel)
    have w_e := A'.var "e" 3 (by decide +kernel)
    refine ⟨fun Ξ hΞ => ?_, fun hp Ξ hΞ => ?_⟩
    · unfold goodB at hΞ
      dsimp only at hΞ
      repeat walk_at "dw"
      refine ite_c (fun e1 => ?_) (fun e1 => ?_)
      · rw [e1, Bool.true_and] at hΞ
        repeat walk_at "dw"
        exact hΞ
      · rw [e1, Bool.false_and] at hΞ
        exact hΞ
    · repeat walk_at "dw"
      exact hΞ
  repeat walk_at "dw"
  have hgl := goodL_len (m := (1 + r1) * (1 + r2)) (n := n) hm1 (by omega) hn1
  refine ⟨pp, _, _, _, _, (goodL ((1 + r1) * (1 + r2)) n).length, rfl, rfl, ht2, by omega, trivial, rfl, hgl.1, by omega, ?_⟩
  intro r l3 r0 r3 ht3
  obtain ⟨x, hx1, hx2⟩ := atI_ok r0 r3
  obtain ⟨k, rfl, k1, k2, k3⟩ := goodL_mem (List.mem_of_getElem? hx1)
  refine ⟨_, hx2, ?_⟩
  have hk0 : 0 < k := by omega
  have hkb : Bd 100 k := Bd.lt2 (y := 100) (by omega) (by omega) (Bd.lit rfl)
  have he0 : 0 < 1 + r2 := by omega
  repeat walk_at "dw"
  intro r4 l4 r40 r41 ht4
  repeat walk_at "dw"
  intro r5 l5 r50 r51 ht5
  repeat walk_at "dw"
  intro r6 l6 r60 r61 ht6
  repeat walk_at "dw"
  exact h _ _ _ _ _ _ _ ⟨by omega, r40, r41, r50, r51, r60, r61, k3, Bd.lt2 (y := 100) (by omega) (by omega) (Bd.lit rfl), Bd.lt2 (y := 100) (by omega) (by omega) (Bd.lit rfl), hkb⟩ (by omega) (by omega) k2 ht6

end Ar
namespace Ar
open PySem PySem.Spec PyProof.Rows L2


local macro_rules | `(tactic| walk_at "dnat") => `(tactic| first | assumption | omega | exact Nat.le_of_ble_eq_true rfl)
local macro_rules | `(tactic| walk_at "dnatz") => `(tactic| first | exact trivial | walk_at "dnat")
local macro_rules | `(tactic| walk_at "bd6") => `(tactic| first | assumption | exact ⟨by walk_at "bd", by walk_at "bd", by walk_at "bd", by walk_at "bd", by walk_at "bd", by walk_at "bd"⟩)
local macro_rules | `(tactic| walk_at "bd3") => `(tactic| first | assumption | exact ⟨by walk_at "bd", by walk_at "bd", by walk_at "bd"⟩)
local macro_rules | `(tactic| walk_at "dcnd") => `(tactic| first | exact trivial | assumption | exact ⟨rfl, rfl⟩)
local macro_rules | `(tactic| walk_at "dk2") => `(tactic| first
  | ((with_reducible apply cTake_i); (with_reducible assumption); (walk_at "dnat"); (walk_at "dnat"); (walk_at "bd"))
  | ((with_reducible apply cWhole_i); (with_reducible assumption); (walk_at "dnat"); (walk_at "dnat"); (walk_at "bd"))
  | ((with_reducible apply cOnto_i); (with_reducible assumption); (walk_at "dnat"); (walk_at "dnat"); (walk_at "bd"))
  | ((with_reducible apply cWord_i); (with_reducible assumption); (walk_at "dnat"); (walk_at "dnat"); (walk_at "dnat"))
  | ((with_reducible apply cDeed_i); (with_reducible assumption); (walk_at "dnat"); (walk_at "dnat"); (walk_at "bd"))
  | ((with_reducible refine cRoute_i ?_ ?_ ?_); (assumption); (walk_at "dnat"))
  | ((with_reducible refine cI2_i ?_ ?_); (walk_at "dnatz"))
  | ((with_reducible refine cM0_i ?_))
  | ((with_reducible refine cMdM_i ?_))
  | ((with_reducible apply cMd_i); (assumption); (assumption))
  | ((with_reducible refine cM_i ?_ ?_ ?_); (walk_at "bd6"); (walk_at "dcnd"))
  | ((with_reducible refine cMM_i ?_ ?_ ?_ ?_); (walk_at "bd6"); (walk_at "bd6"); (walk_at "dcnd"))
  | ((with_reducible refine cMT_i ?_ ?_ ?_ ?_); (walk_at "bd6"); (walk_at "bd3"); (walk_at "dcnd"))
  | ((with_reducible refine cMTdM_i ?_ ?_ ?_ ?_); (walk_at "bd6"); (walk_at "bd3"); (walk_at "dcnd"))
  | ((with_reducible apply cMTd_i); (assumption); (assumption); (walk_at "bd6"); (walk_at "bd3"); (walk_at "dcnd"))
  | ((with_reducible refine cMI_i ?_ ?_ ?_); (walk_at "bd6"); (walk_at "dcnd"))
  | ((with_reducible refine cMW_i ?_ ?_ ?_ ?_ ?_); (walk_at "bd6"); (assumption); (walk_at "dnat"); (assumption))
  | ((with_reducible refine cT1_i ?_ ?_); (walk_at "bd3"))
  | ((with_reducible refine cWay_i ?_ ?_); (assumption))
  | ((with_reducible refine cWD_i ?_ ?_ ?_ ?_ ?_); (assumption); (walk_at "bd"); (walk_at "bd"); (walk_at "bd"))
  | ((with_reducible refine cWDD_i ?_ ?_ ?_ ?_ ?_ ?_ ?_ ?_); (assumption); (walk_at "bd"); (walk_at "bd"); (walk_at "bd"); (walk_at "bd"); (walk_at "bd"); (walk_at "bd"))
  | ((with_reducible refine cClub_i ?_ ?_); (assumption))
  | ((with_reducible refine cPos3_i ?_ ?_ ?_ ?_); (assumption); (assumption); (assumption))
  | ((with_reducible apply cPart_i); (assumption); (walk_at "bd"); (walk_at "bd"); (walk_at "bd"))
  | ((with_reducible refine cFull_i ?_ ?_); (assumption))
  | ((with_reducible apply cWith_i); (first | assumption | exact .cen (by assumption) | exact .row (by assumption) (by assumption)))
  | ((with_reducible apply cPlainF_i); (first | exact .cen | exact .row (by assumption) (by assumption)))
  | ((with_reducible refine cMade_i ?_ ?_ ?_); (assumption); (assumption))
  | ((with_reducible apply cAcross_i); (assumption); (walk_at "bd"); (walk_at "bd"); (assumption); (assumption))
  | ((with_reducible apply cLevel_i); (assumption); (assumption); (assumption))
  | ((with_reducible apply cLevelB_i); (assumption); (assumption); (walk_at "bd"); (walk_at "bd"); (walk_at "bd"); (assumption))
  | ((with_reducible refine cWDDD_i ?_ ?_ ?_ ?_ ?_ ?_ ?_ ?_ ?_ ?_ ?_); (assumption); (walk_at "bd"); (walk_at "bd"); (walk_at "bd"); (walk_at "bd"); (walk_at "bd"); (walk_at "bd"); (walk_at "bd"); (walk_at "bd"); (walk_at "bd"))
  | ((with_reducible refine cMk_i ?_ ?_); (first | assumption | exact .full (by assumption) | exact .line (by assumption)))
  | ((with_reducible refine cFinite_i ?_ ?_ ?_ ?_ ?_); (assumption); (omega); (decide); (decide))
  | ((with_reducible apply cDeedsM_i); (assumption); (assumption); (assumption))
  | ((with_reducible apply cOrdM_i); (assumption); (assumption); (assumption); (assumption); (assumption); (first | exact trivial | assumption))
  | refine ⟨_, ⟨_, List.mem_cons_self, rfl⟩, ?_⟩)

local macro_rules | `(tactic| walk_at "bd") => `(tactic| focus ((with_reducible apply Bd.fit); (repeat' (first | with_reducible assumption | with_reducible apply Bd.add | with_reducible apply Bd.sub | with_reducible apply Bd.mul | with_reducible apply Bd.neg | with_reducible apply Bd.ediv | with_reducible apply Bd.emod | decide | exact Bd.lit (n := 64) rfl | exact Bd.lit (n := 300) rfl)); (all_goals (exact rfl))))
local macro_rules | `(tactic| walk_at "dok") => `(tactic| first | exact trivial | assumption | exact rfl)
local macro_rules | `(tactic| walk_at "dm") => `(tactic| first | (exact Bd.okL (Bd.lit rfl)) | (exact Bd.okR (Bd.lit rfl)) | (exact Bd.okR (by with_reducible assumption)) | (refine Bd.ok (n := 60000000) (m := 60000000) ?_ ?_ rfl <;> walk_at "bd"))
local macro_rules | `(tactic| walk_at "dty") => `(tactic| first | with_reducible exact tyInt | with_reducible exact tyBool | with_reducible exact tyStr | with_reducible exact tyTuple | with_reducible exact tyList)
local macro_rules | `(tactic| walk_at "dk") => `(tactic| first
  | ((with_reducible refine cIsNumber_i ?_ ?_); (walk_at "dok"))
  | ((with_reducible refine cIsLong_i ?_ ?_); (walk_at "dok"))
  | ((with_reducible refine cTupled_i ?_ ?_); (walk_at "dok"))
  | ((with_reducible refine cPlain1_i ?_ ?_); (walk_at "dok"))
  | ((with_reducible refine cRowOf_i ?_ ?_); (walk_at "dok"))
  | ((with_reducible refine cSureDeed_i  ?_))
  | ((with_reducible refine cSureNumber_i  ?_))
  | ((with_reducible refine cD1_i ?_ ?_ ?_ ?_); (walk_at "bd"); (walk_at "bd"); (walk_at "bd"))
  | ((with_reducible refine cD2_i ?_ ?_ ?_ ?_ ?_ ?_ ?_); (walk_at "bd"); (walk_at "bd"); (walk_at "bd"); (walk_at "bd"); (walk_at "bd"); (walk_at "bd"))
  | ((with_reducible refine cDI_i ?_ ?_ ?_ ?_ ?_); (walk_at "bd"); (walk_at "bd"); (walk_at "bd"); (walk_at "bd"))
  | ((with_reducible refine cI1_i ?_ ?_); (walk_at "bd"))
  | walk_at "dk2")
local macro_rules | `(tactic| walk_at "dlen") => `(tactic| first | with_reducible assumption | ((first | (with_reducible refine le_line6 ?_) | (with_reducible refine lt_line6 ?_)); (focus ((try simp only [List.length_map, List.length_append, List.length_cons, List.length_nil, rangeD_len]); (first | done | omega)))))
local macro_rules | `(tactic| walk_at "dnorm") => `(tactic| ((try dsimp only [wipeR, List.map, List.set]); (try exact rfl)))
local macro_rules | `(tactic| walk_at "dS") => `(tactic| ((fail_if_success (with_reducible refine asg_list ?_)); (fail_if_success (with_reducible refine asg_par3l ?_)); (fail_if_success (with_reducible refine asg_par2l ?_)); (fail_if_success (with_reducible refine asg_par3a ?_)); first
  | with_reducible refine ds_retCN ?_
  | with_reducible refine ds_ret ?_
  | ((with_reducible refine vPar3 (by assumption) (by assumption) (by assumption) (by assumption) ?_ ?_ ?_ ?_); (decide +kernel); (exact rfl); (exact ⟨rfl, rfl, rfl⟩))
  | ((with_reducible refine vPar (by assumption) (by assumption) (by assumption) ?_ ?_ ?_ ?_); (decide +kernel); (exact rfl); (exact rfl))
  | ((with_reducible refine vAsgF ?_ ?_ ?_ ?_); (decide +kernel); (exact rfl); (exact rfl))
  | ((with_reducible refine vAsgC (by assumption) ?_ ?_ ?_ ?_); (decide +kernel); (exact rfl); (exact rfl))
  | ((with_reducible refine vSet (by assumption) (by assumption) ?_ ?_); (exact rfl))
  | ((with_reducible refine ds_store ?_ ?_ ?_ ?_ ?_); (exact rfl); (exact rfl); (exact rfl); (exact fun _ => rfl))
  | ((with_reducible refine ds_asg ?_ ?_ ?_ ?_); (exact rfl); (exact rfl); (exact rfl))
  | (with_reducible refine ds_if ?_)
  | ((with_reducible refine vAug (by assumption) (by assumption) ?_); (refine ⟨_, rfl, ?_⟩))
  | ((with_reducible refine ds_expr ?_ ?_); (exact rfl))))
local macro_rules | `(tactic| walk_at "dG") => `(tactic| first
  | ((with_reducible refine vG (by assumption) (by assumption) ?_ ?_); (exact rfl))
  | ((with_reducible refine dg_tup (n := _) (by assumption) rfl ?_ ?_); (exact rfl); (refine ⟨_, rfl, rfl, ?_⟩)))
local macro_rules | `(tactic| walk_at "dC") => `(tactic| first
  | ((with_reducible refine vIsi (by assumption) (by assumption) (by walk_at "dty") (by assumption) (by assumption) ?_ ?_); (exact rfl))
  | ((with_reducible refine vIsi2 (by assumption) (by assumption) (by walk_at "dty") (by walk_at "dty") (by assumption) (by assumption) (by assumption) ?_ ?_); (exact rfl))
  | ((with_reducible refine vCall (by assumption) (by assumption) (by assumption) ?_ ?_ ?_ ?_); (exact rfl); (exact rfl); (exact rfl))
  | ((with_reducible refine de_append ?_ ?_ ?_ ?_ ?_); (exact rfl); (exact rfl); (exact rfl); (exact rfl))
  | ((with_reducible refine de_extend ?_ ?_ ?_ ?_ ?_); (exact rfl); (exact rfl); (exact rfl); (exact rfl))
  | ((with_reducible refine de_join ?_ ?_ ?_ ?_); (exact rfl); (exact rfl); (exact rfl))
  | ((with_reducible refine de_sindex ?_ ?_ ?_ ?_); (exact rfl); (exact rfl); (exact rfl))
  | ((with_reducible refine de_len (by assumption) (by assumption) (Glo.g (by assumption)) ?_ ?_); (exact rfl))
  | ((with_reducible refine de_abs (by assumption) (by assumption) (Glo.g (by assumption)) ?_ ?_); (exact rfl))
  | ((with_reducible refine de_intI (by assumption) (by assumption) (Glo.g (by assumption)) ?_ ?_); (exact rfl))
  | ((with_reducible refine de_sum (by assumption) (by assumption) (Glo.g (by assumption)) ?_ ?_); (exact rfl))
  | ((with_reducible refine de_min2 (by assumption) (by assumption) (Glo.g (by assumption)) ?_ ?_ ?_ ?_); (exact rfl); (exact rfl); (exact rfl))
  | ((with_reducible refine de_tupleOf (by assumption) (by assumption) (Glo.g (by assumption)) ?_ ?_); (exact rfl))
  | ((with_reducible refine de_all (by assumption) (by assumption) (Glo.g (by assumption)) ?_ ?_); (exact rfl))
  | ((with_reducible refine de_any (by assumption) (by assumption) (Glo.g (by assumption)) ?_ ?_); (exact rfl)))
local macro_rules | `(tactic| walk_at "dE") => `(tactic| first
  | ((with_reducible refine vName (by assumption) (by assumption) ?_); (refine ⟨_, rfl, ?_⟩))
  | ((with_reducible refine de_glob (by assumption) (by assumption) (Glo.g (by assumption)) ?_))
  | (with_reducible refine de_int ?_)
  | ((with_reducible refine de_callId ?_); walk_at "dC")
  | (with_reducible refine de_bin ?_)
  | ((with_reducible refine de_cmp ?_ ?_); (exact rfl))
  | ((with_reducible refine de_chain ?_ ?_); (exact rfl))
  | (with_reducible refine de_revT ?_)
  | (with_reducible refine de_slLo ?_)
  | (with_reducible refine de_slHi ?_)
  | (with_reducible refine de_slLH ?_)
  | ((with_reducible refine de_kd (by assumption) (by assumption) (Glo.g (by assumption)) ?_ ?_); (exact fun _ _ => rfl))
  | ((with_reducible refine vDctIx (by assumption) (by assumption) ?_ ?_); (exact fun _ _ => rfl); (refine ⟨_, _, rfl, ?_⟩))
  | ((with_reducible refine de_ix ?_ ?_); (exact fun _ _ => rfl))
  | ((with_reducible refine de_tup ?_ ?_); (exact rfl))
  | (with_reducible refine de_neg ?_)
  | (with_reducible refine de_bl ?_)
  | (with_reducible refine de_str ?_)
  | (with_reducible refine de_non ?_)
  | (with_reducible refine de_not ?_)
  | (with_reducible refine de_or ?_)
  | (with_reducible refine de_bool1 ?_)
  | ((with_reducible refine de_lst ?_ ?_); (exact rfl)))
local macro_rules | `(tactic| walk_at "dT") => `(tactic| first
  | (with_reducible refine dt_bool ?_)
  | (with_reducible refine dt_not ?_)
  | ((with_reducible refine dt_cmp ?_ ?_); (exact rfl))
  | ((with_reducible refine dt_truth ?_ ?_); (exact fun _ => rfl)))
local macro_rules | `(tactic| walk_at "dW") => `(tactic| first
  | (with_reducible refine dw_and ?_)
  | (with_reducible refine dw_or ?_)
  | (with_reducible refine dw_and1 ?_)
  | (with_reducible refine dw_or1 ?_))
local macro_rules | `(tactic| walk_at "dO") => `(tactic| first
  | with_reducible refine do_add ?_
  | with_reducible refine do_sub ?_
  | ((with_reducible refine do_cat ?_ ?_); (exact sz rfl))
  | ((with_reducible refine do_mulX ?_ ?_); (walk_at "dm"))
  | ((with_reducible refine do_fdiv ?_ ?_); (exact Bd.div (by decide) (Bd.lit (n := 9000) rfl) rfl))
  | ((with_reducible refine do_fdiv ?_ ?_); (exact Bd.div (by assumption) (by assumption) rfl))
  | ((with_reducible refine do_mod ?_ ?_); (first | (exact (by decide)) | assumption | omega))
  | ((with_reducible refine do_mulS ?_ ?_); (assumption))
  | ((with_reducible refine do_catT ?_ ?_); (walk_at "dlen"))
  | (with_reducible refine do_eqC (by assumption) ?_)
  | with_reducible refine do_gt3 (by assumption) ?_
  | with_reducible refine do_lt3 (by assumption) ?_
  | with_reducible refine do_ge3 (by assumption) ?_
  | with_reducible refine do_p3 ?_
  | with_reducible refine do_p4 ?_
  | with_reducible refine do_p5 ?_
  | with_reducible refine do_eqT2 (by assumption) ?_
  | with_reducible refine do_eqSTL (by assumption) ?_
  | with_reducible refine do_inU ?_
  | with_reducible refine do_notInU ?_
  | with_reducible refine do_p8 ?_
  | with_reducible refine do_p21 ?_
  | with_reducible refine do_p18 ?_
  | with_reducible refine do_p7 ?_
  | with_reducible refine do_p20 ?_
  | with_reducible refine do_p29 ?_
  | with_reducible refine do_eqI ?_
  | with_reducible refine do_neI ?_
  | with_reducible refine do_lt ?_
  | with_reducible refine do_le ?_
  | with_reducible refine do_gt ?_
  | with_reducible refine do_ge ?_
  | with_reducible refine do_isN ?_
  | with_reducible refine do_notN ?_
  | with_reducible refine do_inS ?_
  | with_reducible refine do_eqB ?_
  | with_reducible refine do_neB ?_
  | with_reducible refine do_eqS ?_
  | with_reducible refine do_neS ?_
  | with_reducible refine do_eqT3 (by assumption) ?_
  | with_reducible refine do_neNil (by assumption) ?_
  | with_reducible refine do_iadd ?_
  | with_reducible refine do_isub ?_)
local macro_rules | `(tactic| walk_at "dw") => `(tactic| first
  | ((with_reducible refine de_id ?_); walk_at "dE")
  | ((with_reducible refine do_id ?_); walk_at "dO")
  | ((with_reducible refine da_cons ?_ ?_); rotate_left; (exact rfl))
  | ((with_reducible refine dn_lst ?_ ?_); (exact rfl))
  | (with_reducible refine da_nil ?_)
  | ((with_reducible refine ds_id ?_); walk_at "dS")
  | with_reducible refine ds_cons ?_
  | with_reducible refine ds_nil ?_
  | with_reducible refine ds_one ?_
  | ((with_reducible refine dt_id ?_); walk_at "dT")
  | ((with_reducible refine dw_id ?_); walk_at "dW")
  | ((with_reducible refine dg_id ?_); walk_at "dG")
  | ((with_reducible refine dgs_cons ?_ ?_); (exact rfl))
  | (with_reducible refine dgs_nil ?_)
  | with_reducible refine nx_mk ?_
  | with_reducible refine rt_mk ?_
  | ((with_reducible apply nx_norm); (walk_at "dnorm"))
  | ((with_reducible apply nxG_norm); (walk_at "dnorm"))
  | with_reducible refine RetP.same ?_
  | ((with_reducible refine RetP.here ?_ ?_); (exact rfl))
  | ((with_reducible refine vRange1 (by assumption) (by assumption) (by assumption) ?_ ?_); (exact rfl))
  | ((with_reducible refine rng_and ?_ ?_); (exact ⟨by omega, by omega⟩))
  | ((with_reducible refine len_and ?_ ?_); (walk_at "dlen"))
  | ((with_reducible refine le_and ?_ ?_); (walk_at "dlen"))
  | ((with_reducible refine okc_and ?_ ?_); (walk_at "dok"))
  | ((with_reducible refine ite_t ?_ ?_); (exact rfl))
  | ((with_reducible refine ite_f ?_ ?_); (exact rfl))
  | ((with_reducible refine ite_t ?_ ?_); (with_reducible assumption))
  | ((with_reducible refine ite_f ?_ ?_); (with_reducible assumption))
  | walk_at "dk"
  | refine ⟨_, rfl, ?_⟩
  | refine ⟨_, _, rfl, rfl, ?_⟩
  | refine ⟨_, _, rfl, ⟨by with_reducible assumption, rfl⟩, ?_⟩
  | refine ⟨_, _, rfl, ?_⟩
  | refine ⟨_, _, _, rfl, ?_⟩
  | refine ⟨_, ⟨sz rfl, _, rfl, rfl⟩, ?_⟩
  | refine ⟨_, ⟨sz rfl, rfl⟩, ?_⟩
  | refine .inl ⟨_, rfl, ?_⟩
  | refine .inr ⟨_, rfl, ?_⟩
  | refine ⟨_, _, _, _, rfl, rfl, ?_⟩)


def loopB : List Stmt := match defBody (topS 73) with
  | _ :: .For _ _ body _ _ :: _ => body
  | _ => []
def tailB : List Stmt := (defBody (topS 73)).drop 2
def loopL : List Stmt := match tailB.drop 2 with
  | .For _ _ body _ _ :: _ => body
  | _ => []
def loopU : List Stmt := match loopL.drop 1 with
  | .For _ _ body _ _ :: _ => body
  | _ => []

def tb_law : List (Str × Nat) := [("script", 0), ("tin", 1), ("top_so", 2), ("way_so", 3), ("k", 4), ("deeds_so", 5), ("one", 6), ("two", 7), ("three", 8), ("above_so", 9), ("got", 10), ("up_so", 11), ("between_so", 12), ("own", 13), ("row_so", 14), ("club_so", 15), ("flat_so", 16), ("lap", 17), ("due", 18), ("makers_so", 19)]
def nm_law : List (Str × NameKind) := ("script", .local) :: ("tin", .cell) :: ("top_so", .cell) :: ("way_so", .cell) :: ("k", .local) :: ("deeds_so", .local) :: ("one", .local) :: ("two", .local) :: ("three", .local) :: ("above_so", .local) :: ("got", .local) :: ("up_so", .local) :: ("between_so", .local) :: ("own", .local) :: ("row_so", .local) :: ("club_so", .cell) :: ("flat_so", .local) :: ("lap", .local) :: ("due", .local) :: ("makers_so", .local) :: ("_law_box", .globalImplicit) :: ("_law_cells", .globalImplicit) :: ("_law_of", .globalImplicit) :: ("_law_take", .globalImplicit) :: ("_law_whole", .globalImplicit) :: ("tuple", .globalImplicit) :: ("range", .globalImplicit) :: ("_law_deed", .globalImplicit) :: ("list", .globalImplicit) :: ("_law_height", .globalImplicit) :: ("is_above", .globalImplicit) :: ("is_up", .globalImplicit) :: ("up_or_undone", .globalImplicit) :: ("_law_same", .globalImplicit) :: ("_law_undo", .globalImplicit) :: ("_law_join", .globalImplicit) :: ("_law_lead", .globalImplicit) :: ("lies_between", .globalImplicit) :: ("sorted", .globalImplicit) :: ("in_order", .globalImplicit) :: ("_law_mixed", .globalImplicit) :: ("lowest", .globalImplicit) :: ("highest", .globalImplicit) :: ("_law_finite", .globalImplicit) :: ("level", .globalImplicit) :: ("_law_times", .globalImplicit) :: ("_law_makers", .globalImplicit) :: ("has", .globalImplicit) :: ("is_level", .globalImplicit) :: ("len", .globalImplicit) :: ("least_up", .globalImplicit) :: []

theorem seg_A {P : Program} {w : World} {K : PySem.W.Frag} {mg : Str → Option Value} {base : Heap} (M : Mod K w mg) {X : Cx} (A : At X P w K mg base tb_law nm_law 10) {E : DEnds} {is : List Int} {c : Addr} {b : Nat} {lt : List D} {top : Int} (h0 : 0 ≤ top) (htb : Bd 1000 top) {w3 w4 w5 w6 w7 w8 w9 w10 w11 w12 w13 w14 w15 w16 w17 w18 w19 : Option D} (ht : Tin b lt) (hb : b ≤ 900) (cont : ∀ (p q : Int) (lt : List D), WayB p q → Tin (b + 5) lt → DSs X (loopB.drop 1) [some (.frz (is.map D.int)), some (.cell c), some (.int top), some (p2 p q), w4, w5, w6, w7, w8, w9, w10, w11, w12, w13, w14, w15, w16, w17, w18, w19] ((c, lt) :: []) E) : DSs X (loopB) [some (.frz (is.map D.int)), some (.cell c), some (.int top), w3, w4, w5, w6, w7, w8, w9, w10, w11, w12, w13, w14, w15, w16, w17, w18, w19] ((c, lt) :: []) E := by
  have d__law_same := ok__law_same (P := P) (w := w) (base := base) M 3
  have d__law_take := ok__law_take (P := P) (w := w) (base := base) M
  have d__law_of := ok__law_of (P := P) (w := w) (base := base) M
  have d__law_whole := ok__law_whole (P := P) (w := w) (base := base) M
  have G := M.nob
  have v_script := A.var "script" 0 (by decide +kernel)
  have s_script := A.stv "script" 0 (by decide +kernel)
  have l_script := A.lcv "script" 0 (by decide +kernel)
  have v_tin := A.var "tin" 1 (by decide +kernel)
  have s_tin := A.stv "tin" 1 (by decide +kernel)
  have v_top_so := A.var "top_so" 2 (by decide +kernel)
  have s_top_so := A.stv "top_so" 2 (by decide +kernel)
  have v_way_so := A.var "way_so" 3 (by decide +kernel)
  have s_way_so := A.stv "way_so" 3 (by decide +kernel)
  have v_k := A.var "k" 4 (by decide +kernel)
  have s_k := A.stv "k" 4 (by decide +kernel)
  have l_k := A.lcv "k" 4 (by decide +kernel)
  have v_deeds_so := A.var "deeds_so" 5 (by decide +kernel)
  have s_deeds_so := A.stv "deeds_so" 5 (by decide +kernel)
  have l_deeds_so := A.lcv "deeds_so" 5 (by decide +kernel)
  have v_one := A.var "one" 6 (by decide +kernel)
  have s_one := A.stv "one" 6 (by decide +kernel)
  have l_one := A.lcv "one" 6 (by decide +kernel)
  have v_two := A.var "two" 7 (by decide +kernel)
  have s_two := A.stv "two" 7 (by decide +kernel)
  have l_two := A.lcv "two" 7 (by decide +kernel)
  have v_three := A.var "three" 8 (by decide +kernel)
  have s_three := A.stv "three" 8 (by decide +kernel)
  have l_three := A.lcv "three" 8 (by decide +kernel)
  have v_above_so := A.var "above_so" 9 (by decide +kernel)
  have s_above_so := A.stv "above_so" 9 (by decide +kernel)
  have l_above_so := A.lcv "above_so" 9 (by decide +kernel)
  have v_got := A.var "got" 10 (by decide +kernel)
  have s_got := A.stv "got" 10 (by decide +kernel)
  have l_got := A.lcv "got" 10 (by decide +kernel)
  have v_up_so := A.var "up_so" 11 (by decide +kernel)
  have s_up_so := A.stv "up_so" 11 (by decide +kernel)
  have l_up_so := A.lcv "up_so" 11 (by decide +kernel)
  have v_between_so := A.var "between_so" 12 (by decide +kernel)
  have s_between_so := A.stv "between_so" 12 (by decide +kernel)
  have l_between_so := A.lcv "between_so" 12 (by decide +kernel)
  have v_own := A.var "own" 13 (by decide +kernel)
  have s_own := A.stv "own" 13 (by decide +kernel)
  have l_own := A.lcv "own" 13 (by decide +kernel)
  have v_row_so := A.var "row_so" 14 (by decide +kernel)
  have s_row_so := A.stv "row_so" 14 (by decide +kernel)
  have l_row_so := A.lcv "row_so" 14 (by decide +kernel)
  have v_club_so := A.var "club_so" 15 (by decide +kernel)
  have s_club_so := A.stv "club_so" 15 (by decide +kernel)
  have v_flat_so := A.var "flat_so" 16 (by decide +kernel)
  have s_flat_so := A.stv "flat_so" 16 (by decide +kernel)
  have l_flat_so := A.lcv "flat_so" 16 (by decide +kernel)
  have v_lap := A.var "lap" 17 (by decide +kernel)
  have s_lap := A.stv "lap" 17 (by decide +kernel)
  have l_lap := A.lcv "lap" 17 (by decide +kernel)
  have v_due := A.var "due" 18 (by decide +kernel)
  have s_due := A.stv "due" 18 (by decide +kernel)
  have l_due := A.lcv "due" 18 (by decide +kernel)
  have v_makers_so := A.var "makers_so" 19 (by decide +kernel)
  have s_makers_so := A.stv "makers_so" 19 (by decide +kernel)
  have l_makers_so := A.lcv "makers_so" 19 (by decide +kernel)
  have g__law_box := A.glo "_law_box" (by decide +kernel)
  have g__law_cells := A.glo "_law_cells" (by decide +kernel)
  have g__law_of := A.glo "_law_of" (by decide +kernel)
  have g__law_take := A.glo "_law_take" (by decide +kernel)
  have g__law_whole := A.glo "_law_whole" (by decide +kernel)
  have g_tuple := A.glo "tuple" (by decide +kernel)
  have g_range := A.glo "range" (by decide +kernel)
  have g__law_deed := A.glo "_law_deed" (by decide +kernel)
  have g_list := A.glo "list" (by decide +kernel)
  have g__law_height := A.glo "_law_height" (by decide +kernel)
  have g_is_above := A.glo "is_above" (by decide +kernel)
  have g_is_up := A.glo "is_up" (by decide +kernel)
  have g_up_or_undone := A.glo "up_or_undone" (by decide +kernel)
  have g__law_same := A.glo "_law_same" (by decide +kernel)
  have g__law_undo := A.glo "_law_undo" (by decide +kernel)
  have g__law_join := A.glo "_law_join" (by decide +kernel)
  have g__law_lead := A.glo "_law_lead" (by decide +kernel)
  have g_lies_between := A.glo "lies_between" (by decide +kernel)
  have g_sorted := A.glo "sorted" (by decide +kernel)
  have g_in_order := A.glo "in_order" (by decide +kernel)
  have g__law_mixed := A.glo "_law_mixed" (by decide +kernel)
  have g_lowest := A.glo "lowest" (by decide +kernel)
  have g_highest := A.glo "highest" (by decide +kernel)
  have g__law_finite := A.glo "_law_finite" (by decide +kernel)
  have g_level := A.glo "level" (by decide +kernel)
  have g__law_times := A.glo "_law_times" (by decide +kernel)
  have g__law_makers := A.glo "_law_makers" (by decide +kernel)
  have g_has := A.glo "has" (by decide +kernel)
  have g_is_level := A.glo "is_level" (by decide +kernel)
  have g_len := A.glo "len" (by decide +kernel)
  have g_least_up := A.glo "least_up" (by decide +kernel)
  refine ds_cons ?_
  repeat walk_at "dw"
  intro r1 l1 r10 r11 ht1
  repeat walk_at "dw"
  intro r2 l2 hr2 _ ht2
  repeat walk_at "dw"
  refine ⟨c, _, _, _, _, 5, rfl, rfl, ht2, by omega, trivial, rfl, by decide, by decide, ?_⟩
  intro r l3 r30 r31 ht3
  have hr : r = 0 ∨ r = 1 ∨ r = 2 ∨ r = 3 ∨ r = 4 := by omega
  have h3 := ht3.mono (b' := b + 5) (by omega)
  rcases hr with rfl | rfl | rfl | rfl | rfl
  · exact ⟨_, rfl, cont 1 0 l3 ⟨rfl, Bd.lit rfl, Bd.lit rfl⟩ h3⟩
  · exact ⟨_, rfl, cont 0 (-1) l3 ⟨rfl, Bd.lit rfl, Bd.lit rfl⟩ h3⟩
  · exact ⟨_, rfl, cont 1 1 l3 ⟨rfl, Bd.lit rfl, Bd.lit rfl⟩ h3⟩
  · exact ⟨_, rfl, cont 2 (-3) l3 ⟨rfl, Bd.lit rfl, Bd.lit rfl⟩ h3⟩
  · exact ⟨_, rfl, cont (1 + r1) r2 l3 ⟨decide_eq_false (fun z => by have := congrArg Prod.fst z; dsimp only at this; omega), Bd.lt2 (y := 100) (by omega) (by omega) (Bd.lit rfl), hr2.mono (by decide)⟩ h3⟩

theorem seg_B {P : Program} {w : World} {K : PySem.W.Frag} {mg : Str → Option Value} {base : Heap} (M : Mod K w mg) {X : Cx} (A : At X P w K mg base tb_law nm_law 10) {E : DEnds} {is : List Int} {c : Addr} {b : Nat} {lt : List D} {top : Int} (h0 : 0 ≤ top) (htb : Bd 1000 top) {p q : Int} (hw : WayB p q) {w4 w5 w6 w7 w8 w9 w10 w11 w12 w13 w14 w15 w16 w17 w18 w19 : Option D} (ht : Tin b lt) (hb : b ≤ 900) (cont : ∀ (l : List T3) (w4 : Option D) (lt : List D), l ≠ [] → l.length ≤ 6 → (∀ t, t ∈ l → Bd3 1100 t) → Tin (b + 37) lt → DSs X (loopB.drop 2) [some (.frz (is.map D.int)), some (.cell c), some (.int top), some (p2 p q), w4, some (.tup (l.map d3)), w6, w7, w8, w9, w10, w11, w12, w13, w14, w15, w16, w17, w18, w19] ((c, lt) :: []) E) : DSs X (loopB.drop 1) [some (.frz (is.map D.int)), some (.cell c), some (.int top), some (p2 p q), w4, w5, w6, w7, w8, w9, w10, w11, w12, w13, w14, w15, w16, w17, w18, w19] ((c, lt) :: []) E := by
  have d__law_same := ok__law_same (P := P) (w := w) (base := base) M 3
  have d__law_take := ok__law_take (P := P) (w := w) (base := base) M
  have d__law_deed := ok__law_deed (P := P) (w := w) (base := base) M
  have G := M.nob
  have v_script := A.var "script" 0 (by decide +kernel)
  have s_script := A.stv "script" 0 (by decide +kernel)
  have l_script := A.lcv "script" 0 (by decide +kernel)
  have v_tin := A.var "tin" 1 (by decide +kernel)
  have s_tin := A.stv "tin" 1 (by decide +kernel)
  have v_top_so := A.var "top_so" 2 (by decide +kernel)
  have s_top_so := A.stv "top_so" 2 (by decide +kernel)
  have v_way_so := A.var "way_so" 3 (by decide +kernel)
  have s_way_so := A.stv "way_so" 3 (by decide +kernel)
  have v_k := A.var "k" 4 (by decide +kernel)
  have s_k := A.stv "k" 4 (by decide +kernel)
  have l_k := A.lcv "k" 4 (by decide +kernel)
  have v_deeds_so := A.var "deeds_so" 5 (by decide +kernel)
  have s_deeds_so := A.stv "deeds_so" 5 (by decide +kernel)
  have l_deeds_so := A.lcv "deeds_so" 5 (by decide +kernel)
  have v_one := A.var "one" 6 (by decide +kernel)
  have s_one := A.stv "one" 6 (by decide +kernel)
  have l_one := A.lcv "one" 6 (by decide +kernel)
  have v_two := A.var "two" 7 (by decide +kernel)
  have s_two := A.stv "two" 7 (by decide +kernel)
  have l_two := A.lcv "two" 7 (by decide +kernel)
  have v_three := A.var "three" 8 (by decide +kernel)
  have s_three := A.stv "three" 8 (by decide +kernel)
  have l_three := A.lcv "three" 8 (by decide +kernel)
  have v_above_so := A.var "above_so" 9 (by decide +kernel)
  have s_above_so := A.stv "above_so" 9 (by decide +kernel)
  have l_above_so := A.lcv "above_so" 9 (by decide +kernel)
  have v_got := A.var "got" 10 (by decide +kernel)
  have s_got := A.stv "got" 10 (by decide +kernel)
  have l_got := A.lcv "got" 10 (by decide +kernel)
  have v_up_so := A.var "up_so" 11 (by decide +kernel)
  have s_up_so := A.stv "up_so" 11 (by decide +kernel)
  have l_up_so := A.lcv "up_so" 11 (by decide +kernel)
  have v_between_so := A.var "between_so" 12 (by decide +kernel)
  have s_between_so := A.stv "between_so" 12 (by decide +kernel)
  have l_between_so := A.lcv "between_so" 12 (by decide +kernel)
  have v_own := A.var "own" 13 (by decide +kernel)
  have s_own := A.stv "own" 13 (by decide +kernel)
  have l_own := A.lcv "own" 13 (by decide +kernel)
  have v_row_so := A.var "row_so" 14 (by decide +kernel)
  have s_row_so := A.stv "row_so" 14 (by decide +kernel)
  have l_row_so := A.lcv "row_so" 14 (by decide +kernel)
  have v_club_so := A.var "club_so" 15 (by decide +kernel)
  have s_club_so := A.stv "club_so" 15 (by decide +kernel)
  have v_flat_so := A.var "flat_so" 16 (by decide +kernel)
  have s_flat_so := A.stv "flat_so" 16 (by decide +kernel)
  have l_flat_so := A.lcv "flat_so" 16 (by decide +kernel)
  have v_lap := A.var "lap" 17 (by decide +kernel)
  have s_lap := A.stv "lap" 17 (by decide +kernel)
  have l_lap := A.lcv "lap" 17 (by decide +kernel)
  have v_due := A.var "due" 18 (by decide +kernel)
  have s_due := A.stv "due" 18 (by decide +kernel)
  have l_due := A.lcv "due" 18 (by decide +kernel)
  have v_makers_so := A.var "makers_so" 19 (by decide +kernel)
  have s_makers_so := A.stv "makers_so" 19 (by decide +kernel)
  have l_makers_so := A.lcv "makers_so" 19 (by decide +kernel)
  have g__law_box := A.glo "_law_box" (by decide +kernel)
  have g__law_cells := A.glo "_law_cells" (by decide +kernel)
  have g__law_of := A.glo "_law_of" (by decide +kernel)
  have g__law_take := A.glo "_law_take" (by decide +kernel)
  have g__law_whole := A.glo "_law_whole" (by decide +kernel)
  have g_tuple := A.glo "tuple" (by decide +kernel)
  have g_range := A.glo "range" (by decide +kernel)
  have g__law_deed := A.glo "_law_deed" (by decide +kernel)
  have g_list := A.glo "list" (by decide +kernel)
  have g__law_height := A.glo "_law_height" (by decide +kernel)
  have g_is_above := A.glo "is_above" (by decide +kernel)
  have g_is_up := A.glo "is_up" (by decide +kernel)
  have g_up_or_undone := A.glo "up_or_undone" (by decide +kernel)
  have g__law_same := A.glo "_law_same" (by decide +kernel)
  have g__law_undo := A.glo "_law_undo" (by decide +kernel)
  have g__law_join := A.glo "_law_join" (by decide +kernel)
  have g__law_lead := A.glo "_law_lead" (by decide +kernel)
  have g_lies_between := A.glo "lies_between" (by decide +kernel)
  have g_sorted := A.glo "sorted" (by decide +kernel)
  have g_in_order := A.glo "in_order" (by decide +kernel)
  have g__law_mixed := A.glo "_law_mixed" (by decide +kernel)
  have g_lowest := A.glo "lowest" (by decide +kernel)
  have g_highest := A.glo "highest" (by decide +kernel)
  have g__law_finite := A.glo "_law_finite" (by decide +kernel)
  have g_level := A.glo "level" (by decide +kernel)
  have g__law_times := A.glo "_law_times" (by decide +kernel)
  have g__law_makers := A.glo "_law_makers" (by decide +kernel)
  have g_has := A.glo "has" (by decide +kernel)
  have g_is_level := A.glo "is_level" (by decide +kernel)
  have g_len := A.glo "len" (by decide +kernel)
  have g_least_up := A.glo "least_up" (by decide +kernel)
  refine dss_box ?_
  repeat walk_at "dw"
  refine vLc (own := [("k", 4)]) A rfl (by decide +kernel) (fun _ => rfl) ?_
  repeat walk_at "dw"
  intro r1 l1 r10 r11 ht1
  have hrng : RngOk (1 + r1) := ⟨by omega, by omega⟩
  repeat walk_at "dw"
  (with_reducible apply lcN_norm)
  walk_at "dnorm"
  refine lc_ind (fun ds S' acc => ∃ (l : List T3) (l' : List D), acc = l.map d3 ∧ (∀ t, t ∈ l → Bd3 1100 t) ∧ l.length + ds.length = (1 + r1).toNat ∧ Tin (b + 1 + 6 * l.length) l' ∧ S' = (c, l') :: []) ?_ ?_ ?_
  · rintro d ds S' acc ⟨l, l', rfl, hlb, hlen, ht', rfl⟩ X' hX
    have A' := A.blk rfl hX
    have w_k := A'.var "k" 4 (by decide +kernel)
    have u_k := A'.stv "k" 4 (by decide +kernel)
    have h__law_deed := A'.glo "_law_deed" (by decide +kernel)
    have w_tin := A'.var "tin" 1 (by decide +kernel)
    have w_top_so := A'.var "top_so" 2 (by decide +kernel)
    rw [List.length_cons] at hlen
    repeat walk_at "dw"
    refine .mk fun X2 hX2 => ?_
    have A2 := A.blk rfl hX2
    repeat walk_at "dw"
    intro x y z l2 hx hy hz ht2
    refine .mk ⟨l ++ [(x, y, z)], l2, by rw [List.map_append]; rfl, fun t ht => ?_, by rw [List.length_append, List.length_singleton]; omega, ht2.mono (by rw [List.length_append, List.length_singleton]; omega), rfl⟩
    rcases List.mem_append.mp ht with ht | ht
    · exact hlb t ht
    · rw [List.mem_singleton.mp ht]
      exact ⟨hx, hy, hz⟩
  · rintro S' acc ⟨l, l', rfl, hlb, hlen, ht', rfl⟩
    rw [List.length_nil] at hlen
    repeat walk_at "dw"
    exact .mk (cont l _ l' (fun z => by rw [z] at hlen; simp only [List.length_nil] at hlen; omega) (by omega) hlb (ht'.mono (by omega)))
  · exact ⟨[], l1, rfl, (by intro t ht; cases ht), by rw [rangeD_len]; simp, ht1.mono (by simp), rfl⟩

theorem seg_C {P : Program} {w : World} {K : PySem.W.Frag} {mg : Str → Option Value} {base : Heap} (M : Mod K w mg) {X : Cx} (A : At X P w K mg base tb_law nm_law 10) {E : DEnds} {is : List Int} {c : Addr} {b : Nat} {lt : List D} {top : Int} (h0 : 0 ≤ top) (htb : Bd 1000 top) {p q : Int} (hw : WayB p q) {l : List T3} (hl0 : l ≠ []) (hl : l.length ≤ 6) (hlb : ∀ t, t ∈ l → Bd3 1100 t) {w4 w6 w7 w8 w9 w10 w11 w12 w13 w14 w15 w16 w17 w18 w19 : Option D} (ht : Tin b lt) (hb : b ≤ 900) (cont : ∀ (x1 y1 z1 x2 y2 z2 x3 y3 z3 : Int) (lt : List D), Bd3 1100 (x1, y1, z1) → Bd3 1100 (x2, y2, z2) → Bd3 1100 (x3, y3, z3) → Tin (b + 15) lt → DSs X (loopB.drop 3) [some (.frz (is.map D.int)), some (.cell c), some (.int top), some (p2 p q), w4, some (.tup (l.map d3)), some (t3 x1 y1 z1), some (t3 x2 y2 z2), some (t3 x3 y3 z3), w9, w10, w11, w12, w13, w14, w15, w16, w17, w18, w19] ((c, lt) :: []) E) : DSs X (loopB.drop 2) [some (.frz (is.map D.int)), some (.cell c), some (.int top), some (p2 p q), w4, some (.tup (l.map d3)), w6, w7, w8, w9, w10, w11, w12, w13, w14, w15, w16, w17, w18, w19] ((c, lt) :: []) E := by
  have d__law_same := ok__law_same (P := P) (w := w) (base := base) M 3
  have d__law_take := ok__law_take (P := P) (w := w) (base := base) M
  have d__law_of := ok__law_of (P := P) (w := w) (base := base) M
  have d__law_whole := ok__law_whole (P := P) (w := w) (base := base) M
  have d__law_deed := ok__law_deed (P := P) (w := w) (base := base) M
  have G := M.nob
  have v_script := A.var "script" 0 (by decide +kernel)
  have s_script := A.stv "script" 0 (by decide +kernel)
  have l_script := A.lcv "script" 0 (by decide +kernel)
  have v_tin := A.var "tin" 1 (by decide +kernel)
  have s_tin := A.stv "tin" 1 (by decide +kernel)
  have v_top_so := A.var "top_so" 2 (by decide +kernel)
  have s_top_so := A.stv "top_so" 2 (by decide +kernel)
  have v_way_so := A.var "way_so" 3 (by decide +kernel)
  have s_way_so := A.stv "way_so" 3 (by decide +kernel)
  have v_k := A.var "k" 4 (by decide +kernel)
  have s_k := A.stv "k" 4 (by decide +kernel)
  have l_k := A.lcv "k" 4 (by decide +kernel)
  have v_deeds_so := A.var "deeds_so" 5 (by decide +kernel)
  have s_deeds_so := A.stv "deeds_so" 5 (by decide +kernel)
  have l_deeds_so := A.lcv "deeds_so" 5 (by decide +kernel)
  have v_one := A.var "one" 6 (by decide +kernel)
  have s_one := A.stv "one" 6 (by decide +kernel)
  have l_one := A.lcv "one" 6 (by decide +kernel)
  have v_two := A.var "two" 7 (by decide +kernel)
  have s_two := A.stv "two" 7 (by decide +kernel)
  have l_two := A.lcv "two" 7 (by decide +kernel)
  have v_three := A.var "three" 8 (by decide +kernel)
  have s_three := A.stv "three" 8 (by decide +kernel)
  have l_three := A.lcv "three" 8 (by decide +kernel)
  have v_above_so := A.var "above_so" 9 (by decide +kernel)
  have s_above_so := A.stv "above_so" 9 (by decide +kernel)
  have l_above_so := A.lcv "above_so" 9 (by decide +kernel)
  have v_got := A.var "got" 10 (by decide +kernel)
  have s_got := A.stv "got" 10 (by decide +kernel)
  have l_got := A.lcv "got" 10 (by decide +kernel)
  have v_up_so := A.var "up_so" 11 (by decide +kernel)
  have s_up_so := A.stv "up_so" 11 (by decide +kernel)
  have l_up_so := A.lcv "up_so" 11 (by decide +kernel)
  have v_between_so := A.var "between_so" 12 (by decide +kernel)
  have s_between_so := A.stv "between_so" 12 (by decide +kernel)
  have l_between_so := A.lcv "between_so" 12 (by decide +kernel)
  have v_own := A.var "own" 13 (by decide +kernel)
  have s_own := A.stv "own" 13 (by decide +kernel)
  have l_own := A.lcv "own" 13 (by decide +kernel)
  have v_row_so := A.var "row_so" 14 (by decide +kernel)
  have s_row_so := A.stv "row_so" 14 (by decide +kernel)
  have l_row_so := A.lcv "row_so" 14 (by decide +kernel)
  have v_club_so := A.var "club_so" 15 (by decide +kernel)
  have s_club_so := A.stv "club_so" 15 (by decide +kernel)
  have v_flat_so := A.var "flat_so" 16 (by decide +kernel)
  have s_flat_so := A.stv "flat_so" 16 (by decide +kernel)
  have l_flat_so := A.lcv "flat_so" 16 (by decide +kernel)
  have v_lap := A.var "lap" 17 (by decide +kernel)
  have s_lap := A.stv "lap" 17 (by decide +kernel)
  have l_lap := A.lcv "lap" 17 (by decide +kernel)
  have v_due := A.var "due" 18 (by decide +kernel)
  have s_due := A.stv "due" 18 (by decide +kernel)
  have l_due := A.lcv "due" 18 (by decide +kernel)
  have v_makers_so := A.var "makers_so" 19 (by decide +kernel)
  have s_makers_so := A.stv "makers_so" 19 (by decide +kernel)
  have l_makers_so := A.lcv "makers_so" 19 (by decide +kernel)
  have g__law_box := A.glo "_law_box" (by decide +kernel)
  have g__law_cells := A.glo "_law_cells" (by decide +kernel)
  have g__law_of := A.glo "_law_of" (by decide +kernel)
  have g__law_take := A.glo "_law_take" (by decide +kernel)
  have g__law_whole := A.glo "_law_whole" (by decide +kernel)
  have g_tuple := A.glo "tuple" (by decide +kernel)
  have g_range := A.glo "range" (by decide +kernel)
  have g__law_deed := A.glo "_law_deed" (by decide +kernel)
  have g_list := A.glo "list" (by decide +kernel)
  have g__law_height := A.glo "_law_height" (by decide +kernel)
  have g_is_above := A.glo "is_above" (by decide +kernel)
  have g_is_up := A.glo "is_up" (by decide +kernel)
  have g_up_or_undone := A.glo "up_or_undone" (by decide +kernel)
  have g__law_same := A.glo "_law_same" (by decide +kernel)
  have g__law_undo := A.glo "_law_undo" (by decide +kernel)
  have g__law_join := A.glo "_law_join" (by decide +kernel)
  have g__law_lead := A.glo "_law_lead" (by decide +kernel)
  have g_lies_between := A.glo "lies_between" (by decide +kernel)
  have g_sorted := A.glo "sorted" (by decide +kernel)
  have g_in_order := A.glo "in_order" (by decide +kernel)
  have g__law_mixed := A.glo "_law_mixed" (by decide +kernel)
  have g_lowest := A.glo "lowest" (by decide +kernel)
  have g_highest := A.glo "highest" (by decide +kernel)
  have g__law_finite := A.glo "_law_finite" (by decide +kernel)
  have g_level := A.glo "level" (by decide +kernel)
  have g__law_times := A.glo "_law_times" (by decide +kernel)
  have g__law_makers := A.glo "_law_makers" (by decide +kernel)
  have g_has := A.glo "has" (by decide +kernel)
  have g_is_level := A.glo "is_level" (by decide +kernel)
  have g_len := A.glo "len" (by decide +kernel)
  have g_least_up := A.glo "least_up" (by decide +kernel)
  refine dss_box ?_
  repeat walk_at "dw"
  intro x1 y1 z1 l1 hx1 hy1 hz1 ht1
  repeat walk_at "dw"
  refine de_listOf A G g_list.g rfl ?_
  repeat walk_at "dw"
  intro r l2 hr _ ht2
  repeat walk_at "dw"
  refine do_cat ?_ ?_
  · rw [List.length_map]
    exact le_line (m := 1000) (by simp only [List.length_cons, List.length_nil]; omega) rfl
  repeat walk_at "dw"
  have hl3 : (l.map d3 ++ [t3 0 0 r]).length = l.length + 1 := by simp
  refine ⟨c, _, _, _, _, (l.map d3 ++ [t3 0 0 r]).length, rfl, rfl, ht2, by omega, trivial, rfl, by omega, by omega, ?_⟩
  intro j l3 j0 j1 ht3
  obtain ⟨x, hx1', hx2'⟩ := atI_ok j0 j1
  have hx : ∃ x2 y2 z2, x = t3 x2 y2 z2 ∧ Bd3 1100 (x2, y2, z2) := by
    rcases List.mem_append.mp (List.mem_of_getElem? hx1') with g | g
    · obtain ⟨t, ht, rfl⟩ := List.mem_map.mp g
      exact ⟨_, _, _, rfl, hlb t ht⟩
    · rw [List.mem_singleton.mp g]
      exact ⟨0, 0, r, rfl, Bd.lit rfl, Bd.lit rfl, hr⟩
  obtain ⟨x2, y2, z2, rfl, k2⟩ := hx
  refine ⟨_, hx2', ?_⟩
  repeat walk_at "dw"
  intro x3 y3 z3 l4 hx3 hy3 hz3 ht4
  repeat walk_at "dw"
  exact .mk (cont x1 y1 z1 x2 y2 z2 x3 y3 z3 l4 ⟨hx1, hy1, hz1⟩ k2 ⟨hx3, hy3, hz3⟩ (ht4.mono (by omega)))

theorem seg_D {P : Program} {w : World} {K : PySem.W.Frag} {mg : Str → Option Value} {base : Heap} (M : Mod K w mg) {X : Cx} (A : At X P w K mg base tb_law nm_law 10) {E : DEnds} {is : List Int} {c : Addr} {b : Nat} {lt : List D} {p q : Int} (hw : WayB p q) {x1 y1 z1 x2 y2 z2 x3 y3 z3 : Int} (k1 : Bd3 1100 (x1, y1, z1)) (k2 : Bd3 1100 (x2, y2, z2)) (k3 : Bd3 1100 (x3, y3, z3)) {top : Int} {w5 : Option D} {w4 w9 w10 w11 w12 w13 w14 w15 w16 w17 w18 w19 : Option D} (cont : ∀ (w10 w11 : Option D), DSs X (loopB.drop 7) [some (.frz (is.map D.int)), some (.cell c), some (.int top), some (p2 p q), w4, w5, some (t3 x1 y1 z1), some (t3 x2 y2 z2), some (t3 x3 y3 z3), some (.bl (aboveT p q (x1, y1, z1) (x2, y2, z2))), w10, w11, w12, w13, w14, w15, w16, w17, w18, w19] ((c, lt) :: []) E) : DSs X (loopB.drop 3) [some (.frz (is.map D.int)), some (.cell c), some (.int top), some (p2 p q), w4, w5, some (t3 x1 y1 z1), some (t3 x2 y2 z2), some (t3 x3 y3 z3), w9, w10, w11, w12, w13, w14, w15, w16, w17, w18, w19] ((c, lt) :: []) E := by
  have d__law_same := ok__law_same (P := P) (w := w) (base := base) M 3
  have d__law_height := ok__law_height (P := P) (w := w) (base := base) M
  have d_is_above := ok_is_above (P := P) (w := w) (base := base) M
  have d_is_up := ok_is_up (P := P) (w := w) (base := base) M
  have d_up_or_undone := ok_up_or_undone (P := P) (w := w) (base := base) M
  have d__law_undo := ok__law_undo (P := P) (w := w) (base := base) M
  have G := M.nob
  have v_script := A.var "script" 0 (by decide +kernel)
  have s_script := A.stv "script" 0 (by decide +kernel)
  have l_script := A.lcv "script" 0 (by decide +kernel)
  have v_tin := A.var "tin" 1 (by decide +kernel)
  have s_tin := A.stv "tin" 1 (by decide +kernel)
  have v_top_so := A.var "top_so" 2 (by decide +kernel)
  have s_top_so := A.stv "top_so" 2 (by decide +kernel)
  have v_way_so := A.var "way_so" 3 (by decide +kernel)
  have s_way_so := A.stv "way_so" 3 (by decide +kernel)
  have v_k := A.var "k" 4 (by decide +kernel)
  have s_k := A.stv "k" 4 (by decide +kernel)
  have l_k := A.lcv "k" 4 (by decide +kernel)
  have v_deeds_so := A.var "deeds_so" 5 (by decide +kernel)
  have s_deeds_so := A.stv "deeds_so" 5 (by decide +kernel)
  have l_deeds_so := A.lcv "deeds_so" 5 (by decide +kernel)
  have v_one := A.var "one" 6 (by decide +kernel)
  have s_one := A.stv "one" 6 (by decide +kernel)
  have l_one := A.lcv "one" 6 (by decide +kernel)
  have v_two := A.var "two" 7 (by decide +kernel)
  have s_two := A.stv "two" 7 (by decide +kernel)
  have l_two := A.lcv "two" 7 (by decide +kernel)
  have v_three := A.var "three" 8 (by decide +kernel)
  have s_three := A.stv "three" 8 (by decide +kernel)
  have l_three := A.lcv "three" 8 (by decide +kernel)
  have v_above_so := A.var "above_so" 9 (by decide +kernel)
  have s_above_so := A.stv "above_so" 9 (by decide +kernel)
  have l_above_so := A.lcv "above_so" 9 (by decide +kernel)
  have v_got := A.var "got" 10 (by decide +kernel)
  have s_got := A.stv "got" 10 (by decide +kernel)
  have l_got := A.lcv "got" 10 (by decide +kernel)
  have v_up_so := A.var "up_so" 11 (by decide +kernel)
  have s_up_so := A.stv "up_so" 11 (by decide +kernel)
  have l_up_so := A.lcv "up_so" 11 (by decide +kernel)
  have v_between_so := A.var "between_so" 12 (by decide +kernel)
  have s_between_so := A.stv "between_so" 12 (by decide +kernel)
  have l_between_so := A.lcv "between_so" 12 (by decide +kernel)
  have v_own := A.var "own" 13 (by decide +kernel)
  have s_own := A.stv "own" 13 (by decide +kernel)
  have l_own := A.lcv "own" 13 (by decide +kernel)
  have v_row_so := A.var "row_so" 14 (by decide +kernel)
  have s_row_so := A.stv "row_so" 14 (by decide +kernel)
  have l_row_so := A.lcv "row_so" 14 (by decide +kernel)
  have v_club_so := A.var "club_so" 15 (by decide +kernel)
  have s_club_so := A.stv "club_so" 15 (by decide +kernel)
  have v_flat_so := A.var "flat_so" 16 (by decide +kernel)
  have s_flat_so := A.stv "flat_so" 16 (by decide +kernel)
  have l_flat_so := A.lcv "flat_so" 16 (by decide +kernel)
  have v_lap := A.var "lap" 17 (by decide +kernel)
  have s_lap := A.stv "lap" 17 (by decide +kernel)
  have l_lap := A.lcv "lap" 17 (by decide +kernel)
  have v_due := A.var "due" 18 (by decide +kernel)
  have s_due := A.stv "due" 18 (by decide +kernel)
  have l_due := A.lcv "due" 18 (by decide +kernel)
  have v_makers_so := A.var "makers_so" 19 (by decide +kernel)
  have s_makers_so := A.stv "makers_so" 19 (by decide +kernel)
  have l_makers_so := A.lcv "makers_so" 19 (by decide +kernel)
  have g__law_box := A.glo "_law_box" (by decide +kernel)
  have g__law_cells := A.glo "_law_cells" (by decide +kernel)
  have g__law_of := A.glo "_law_of" (by decide +kernel)
  have g__law_take := A.glo "_law_take" (by decide +kernel)
  have g__law_whole := A.glo "_law_whole" (by decide +kernel)
  have g_tuple := A.glo "tuple" (by decide +kernel)
  have g_range := A.glo "range" (by decide +kernel)
  have g__law_deed := A.glo "_law_deed" (by decide +kernel)
  have g_list := A.glo "list" (by decide +kernel)
  have g__law_height := A.glo "_law_height" (by decide +kernel)
  have g_is_above := A.glo "is_above" (by decide +kernel)
  have g_is_up := A.glo "is_up" (by decide +kernel)
  have g_up_or_undone := A.glo "up_or_undone" (by decide +kernel)
  have g__law_same := A.glo "_law_same" (by decide +kernel)
  have g__law_undo := A.glo "_law_undo" (by decide +kernel)
  have g__law_join := A.glo "_law_join" (by decide +kernel)
  have g__law_lead := A.glo "_law_lead" (by decide +kernel)
  have g_lies_between := A.glo "lies_between" (by decide +kernel)
  have g_sorted := A.glo "sorted" (by decide +kernel)
  have g_in_order := A.glo "in_order" (by decide +kernel)
  have g__law_mixed := A.glo "_law_mixed" (by decide +kernel)
  have g_lowest := A.glo "lowest" (by decide +kernel)
  have g_highest := A.glo "highest" (by decide +kernel)
  have g__law_finite := A.glo "_law_finite" (by decide +kernel)
  have g_level := A.glo "level" (by decide +kernel)
  have g__law_times := A.glo "_law_times" (by decide +kernel)
  have g__law_makers := A.glo "_law_makers" (by decide +kernel)
  have g_has := A.glo "has" (by decide +kernel)
  have g_is_level := A.glo "is_level" (by decide +kernel)
  have g_len := A.glo "len" (by decide +kernel)
  have g_least_up := A.glo "least_up" (by decide +kernel)
  obtain ⟨hx1, hy1, hz1⟩ := k1
  obtain ⟨hx2, hy2, hz2⟩ := k2
  obtain ⟨hx3, hy3, hz3⟩ := k3
  refine ds_cons ?_
  repeat walk_at "dw"
  refine vSet A (by assumption) ?_ ?_
  exact rfl
  repeat walk_at "dw"
  refine de_andV (t := !decide ((x1, y1, z1) = (x2, y2, z2))) (u := !aboveT p q (x1, y1, z1) (x2, y2, z2)) (fun Ψ hΨ => ?_) (fun Ψ hΨ => ?_) ?_
  · repeat walk_at "dw"
    exact do_neT3 A hΨ
  · repeat walk_at "dw"
    exact hΨ
  repeat walk_at "dw"
  refine de_ifV (t := lt3 (0, 0, 0) (hgt p q (x1, y1, z1)) || decide ((x1, y1, z1) = (0, 0, 0))) (d1 := t3 x1 y1 z1) (d2 := fUndo x1 y1 z1) (fun Ψ hΨ => ?_) (fun Ψ hΨ => ?_) (fun Ψ hΨ => ?_) ?_
  · repeat walk_at "dw"
    refine ite_c (fun e => ?_) (fun e => ?_)
    · rw [show lt3 (0, 0, 0) (hgt p q (x1, y1, z1)) = true from e, Bool.true_or] at hΨ
      exact hΨ
    · rw [show lt3 (0, 0, 0) (hgt p q (x1, y1, z1)) = false from e, Bool.false_or] at hΨ
      repeat walk_at "dw"
      exact hΨ
  · repeat walk_at "dw"
    exact hΨ
  · repeat walk_at "dw"
    exact hΨ
  repeat walk_at "dw"
  refine cSame_i (law_one hw) (by split <;> rfl) (by split <;> rfl) ?_
  refine ⟨_, rfl, ?_⟩
  refine ite_f rfl ?_
  refine ds_nil ?_
  exact cont _ _

theorem seg_E {P : Program} {w : World} {K : PySem.W.Frag} {mg : Str → Option Value} {base : Heap} (M : Mod K w mg) {X : Cx} (A : At X P w K mg base tb_law nm_law 10) {E : DEnds} {is : List Int} {c : Addr} {b : Nat} {lt : List D} {p q : Int} (hw : WayB p q) {x1 y1 z1 x2 y2 z2 x3 y3 z3 : Int} (k1 : Bd3 1100 (x1, y1, z1)) (k2 : Bd3 1100 (x2, y2, z2)) (k3 : Bd3 1100 (x3, y3, z3)) {top : Int} {w5 : Option D} {w4 w10 w11 w12 w13 w14 w15 w16 w17 w18 w19 : Option D} (cont : ∀ (w10 w12 : Option D), DSs X (loopB.drop 11) [some (.frz (is.map D.int)), some (.cell c), some (.int top), some (p2 p q), w4, w5, some (t3 x1 y1 z1), some (t3 x2 y2 z2), some (t3 x3 y3 z3), some (.bl (aboveT p q (x1, y1, z1) (x2, y2, z2))), w10, w11, w12, w13, w14, w15, w16, w17, w18, w19] ((c, lt) :: []) E) : DSs X (loopB.drop 7) [some (.frz (is.map D.int)), some (.cell c), some (.int top), some (p2 p q), w4, w5, some (t3 x1 y1 z1), some (t3 x2 y2 z2), some (t3 x3 y3 z3), some (.bl (aboveT p q (x1, y1, z1) (x2, y2, z2))), w10, w11, w12, w13, w14, w15, w16, w17, w18, w19] ((c, lt) :: []) E := by
  have d__law_same := ok__law_same (P := P) (w := w) (base := base) M 3
  have d__law_height := ok__law_height (P := P) (w := w) (base := base) M
  have d_is_above := ok_is_above (P := P) (w := w) (base := base) M
  have d__law_join := ok__law_join (P := P) (w := w) (base := base) M
  have d__law_undo := ok__law_undo (P := P) (w := w) (base := base) M
  have d__law_lead := ok__law_lead (P := P) (w := w) (base := base) M
  have d_lies_between := ok_lies_between (P := P) (w := w) (base := base) M
  have G := M.nob
  have v_script := A.var "script" 0 (by decide +kernel)
  have s_script := A.stv "script" 0 (by decide +kernel)
  have l_script := A.lcv "script" 0 (by decide +kernel)
  have v_tin := A.var "tin" 1 (by decide +kernel)
  have s_tin := A.stv "tin" 1 (by decide +kernel)
  have v_top_so := A.var "top_so" 2 (by decide +kernel)
  have s_top_so := A.stv "top_so" 2 (by decide +kernel)
  have v_way_so := A.var "way_so" 3 (by decide +kernel)
  have s_way_so := A.stv "way_so" 3 (by decide +kernel)
  have v_k := A.var "k" 4 (by decide +kernel)
  have s_k := A.stv "k" 4 (by decide +kernel)
  have l_k := A.lcv "k" 4 (by decide +kernel)
  have v_deeds_so := A.var "deeds_so" 5 (by decide +kernel)
  have s_deeds_so := A.stv "deeds_so" 5 (by decide +kernel)
  have l_deeds_so := A.lcv "deeds_so" 5 (by decide +kernel)
  have v_one := A.var "one" 6 (by decide +kernel)
  have s_one := A.stv "one" 6 (by decide +kernel)
  have l_one := A.lcv "one" 6 (by decide +kernel)
  have v_two := A.var "two" 7 (by decide +kernel)
  have s_two := A.stv "two" 7 (by decide +kernel)
  have l_two := A.lcv "two" 7 (by decide +kernel)
  have v_three := A.var "three" 8 (by decide +kernel)
  have s_three := A.stv "three" 8 (by decide +kernel)
  have l_three := A.lcv "three" 8 (by decide +kernel)
  have v_above_so := A.var "above_so" 9 (by decide +kernel)
  have s_above_so := A.stv "above_so" 9 (by decide +kernel)
  have l_above_so := A.lcv "above_so" 9 (by decide +kernel)
  have v_got := A.var "got" 10 (by decide +kernel)
  have s_got := A.stv "got" 10 (by decide +kernel)
  have l_got := A.lcv "got" 10 (by decide +kernel)
  have v_up_so := A.var "up_so" 11 (by decide +kernel)
  have s_up_so := A.stv "up_so" 11 (by decide +kernel)
  have l_up_so := A.lcv "up_so" 11 (by decide +kernel)
  have v_between_so := A.var "between_so" 12 (by decide +kernel)
  have s_between_so := A.stv "between_so" 12 (by decide +kernel)
  have l_between_so := A.lcv "between_so" 12 (by decide +kernel)
  have v_own := A.var "own" 13 (by decide +kernel)
  have s_own := A.stv "own" 13 (by decide +kernel)
  have l_own := A.lcv "own" 13 (by decide +kernel)
  have v_row_so := A.var "row_so" 14 (by decide +kernel)
  have s_row_so := A.stv "row_so" 14 (by decide +kernel)
  have l_row_so := A.lcv "row_so" 14 (by decide +kernel)
  have v_club_so := A.var "club_so" 15 (by decide +kernel)
  have s_club_so := A.stv "club_so" 15 (by decide +kernel)
  have v_flat_so := A.var "flat_so" 16 (by decide +kernel)
  have s_flat_so := A.stv "flat_so" 16 (by decide +kernel)
  have l_flat_so := A.lcv "flat_so" 16 (by decide +kernel)
  have v_lap := A.var "lap" 17 (by decide +kernel)
  have s_lap := A.stv "lap" 17 (by decide +kernel)
  have l_lap := A.lcv "lap" 17 (by decide +kernel)
  have v_due := A.var "due" 18 (by decide +kernel)
  have s_due := A.stv "due" 18 (by decide +kernel)
  have l_due := A.lcv "due" 18 (by decide +kernel)
  have v_makers_so := A.var "makers_so" 19 (by decide +kernel)
  have s_makers_so := A.stv "makers_so" 19 (by decide +kernel)
  have l_makers_so := A.lcv "makers_so" 19 (by decide +kernel)
  have g__law_box := A.glo "_law_box" (by decide +kernel)
  have g__law_cells := A.glo "_law_cells" (by decide +kernel)
  have g__law_of := A.glo "_law_of" (by decide +kernel)
  have g__law_take := A.glo "_law_take" (by decide +kernel)
  have g__law_whole := A.glo "_law_whole" (by decide +kernel)
  have g_tuple := A.glo "tuple" (by decide +kernel)
  have g_range := A.glo "range" (by decide +kernel)
  have g__law_deed := A.glo "_law_deed" (by decide +kernel)
  have g_list := A.glo "list" (by decide +kernel)
  have g__law_height := A.glo "_law_height" (by decide +kernel)
  have g_is_above := A.glo "is_above" (by decide +kernel)
  have g_is_up := A.glo "is_up" (by decide +kernel)
  have g_up_or_undone := A.glo "up_or_undone" (by decide +kernel)
  have g__law_same := A.glo "_law_same" (by decide +kernel)
  have g__law_undo := A.glo "_law_undo" (by decide +kernel)
  have g__law_join := A.glo "_law_join" (by decide +kernel)
  have g__law_lead := A.glo "_law_lead" (by decide +kernel)
  have g_lies_between := A.glo "lies_between" (by decide +kernel)
  have g_sorted := A.glo "sorted" (by decide +kernel)
  have g_in_order := A.glo "in_order" (by decide +kernel)
  have g__law_mixed := A.glo "_law_mixed" (by decide +kernel)
  have g_lowest := A.glo "lowest" (by decide +kernel)
  have g_highest := A.glo "highest" (by decide +kernel)
  have g__law_finite := A.glo "_law_finite" (by decide +kernel)
  have g_level := A.glo "level" (by decide +kernel)
  have g__law_times := A.glo "_law_times" (by decide +kernel)
  have g__law_makers := A.glo "_law_makers" (by decide +kernel)
  have g_has := A.glo "has" (by decide +kernel)
  have g_is_level := A.glo "is_level" (by decide +kernel)
  have g_len := A.glo "len" (by decide +kernel)
  have g_least_up := A.glo "least_up" (by decide +kernel)
  obtain ⟨hx1, hy1, hz1⟩ := k1
  obtain ⟨hx2, hy2, hz2⟩ := k2
  obtain ⟨hx3, hy3, hz3⟩ := k3
  refine ds_cons ?_
  refine vSet A (by assumption) ?_ ?_
  exact rfl
  repeat walk_at "dw"
  refine de_andV (t := aboveT p q (x1, y1, z1) (x2, y2, z2)) (u := aboveT p q (x3, y3, z3) (x1, y1, z1)) (fun Ψ hΨ => ?_) (fun Ψ hΨ => ?_) ?_
  · repeat walk_at "dw"
    exact hΨ
  · repeat walk_at "dw"
    exact hΨ
  repeat walk_at "dw"
  refine do_rep (by decide) (show 1 * 4 ≤ 100000 by decide) ?_
  repeat walk_at "dw"
  refine cSame_i (law_two hw) rfl rfl ?_
  refine ⟨_, rfl, ?_⟩
  refine ite_f rfl ?_
  refine ds_nil ?_
  exact cont _ _

theorem seg_F {P : Program} {w : World} {K : PySem.W.Frag} {mg : Str → Option Value} {base : Heap} (M : Mod K w mg) {X : Cx} (A : At X P w K mg base tb_law nm_law 10) {E : DEnds} {is : List Int} {c : Addr} {b : Nat} {lt : List D} {p q : Int} (hw : WayB p q) {l : List T3} (hl0 : l ≠ []) (hl : l.length ≤ 6) (hlb : ∀ t, t ∈ l → Bd3 1100 t) {top : Int} {w4 w6 w7 w8 w9 w10 w11 w12 w13 w14 w15 w16 w17 w18 w19 : Option D} (ht : Tin b lt) (hb : b ≤ 900) (cont : ∀ (w13 w14 : Option D) (lt : List D), Tin (b + 50) lt → DSs X (loopB.drop 13) [some (.frz (is.map D.int)), some (.cell c), some (.int top), some (p2 p q), w4, some (.tup (l.map d3)), w6, w7, w8, w9, w10, w11, w12, w13, w14, w15, w16, w17, w18, w19] ((c, lt) :: []) E) : DSs X (loopB.drop 11) [some (.frz (is.map D.int)), some (.cell c), some (.int top), some (p2 p q), w4, some (.tup (l.map d3)), w6, w7, w8, w9, w10, w11, w12, w13, w14, w15, w16, w17, w18, w19] ((c, lt) :: []) E := by
  have d__law_same := ok__law_same (P := P) (w := w) (base := base) M 3
  have d__law_height := ok__law_height (P := P) (w := w) (base := base) M
  have d_in_order := ok_in_order (P := P) (w := w) (base := base) M
  have d_lowest := ok_lowest (P := P) (w := w) (base := base) M
  have d_highest := ok_highest (P := P) (w := w) (base := base) M
  have d__law_mixed := ok__law_mixed (P := P) (w := w) (base := base) M 2
  have G := M.nob
  have v_script := A.var "script" 0 (by decide +kernel)
  have s_script := A.stv "script" 0 (by decide +kernel)
  have l_script := A.lcv "script" 0 (by decide +kernel)
  have v_tin := A.var "tin" 1 (by decide +kernel)
  have s_tin := A.stv "tin" 1 (by decide +kernel)
  have v_top_so := A.var "top_so" 2 (by decide +kernel)
  have s_top_so := A.stv "top_so" 2 (by decide +kernel)
  have v_way_so := A.var "way_so" 3 (by decide +kernel)
  have s_way_so := A.stv "way_so" 3 (by decide +kernel)
  have v_k := A.var "k" 4 (by decide +kernel)
  have s_k := A.stv "k" 4 (by decide +kernel)
  have l_k := A.lcv "k" 4 (by decide +kernel)
  have v_deeds_so := A.var "deeds_so" 5 (by decide +kernel)
  have s_deeds_so := A.stv "deeds_so" 5 (by decide +kernel)
  have l_deeds_so := A.lcv "deeds_so" 5 (by decide +kernel)
  have v_one := A.var "one" 6 (by decide +kernel)
  have s_one := A.stv "one" 6 (by decide +kernel)
  have l_one := A.lcv "one" 6 (by decide +kernel)
  have v_two := A.var "two" 7 (by decide +kernel)
  have s_two := A.stv "two" 7 (by decide +kernel)
  have l_two := A.lcv "two" 7 (by decide +kernel)
  have v_three := A.var "three" 8 (by decide +kernel)
  have s_three := A.stv "three" 8 (by decide +kernel)
  have l_three := A.lcv "three" 8 (by decide +kernel)
  have v_above_so := A.var "above_so" 9 (by decide +kernel)
  have s_above_so := A.stv "above_so" 9 (by decide +kernel)
  have l_above_so := A.lcv "above_so" 9 (by decide +kernel)
  have v_got := A.var "got" 10 (by decide +kernel)
  have s_got := A.stv "got" 10 (by decide +kernel)
  have l_got := A.lcv "got" 10 (by decide +kernel)
  have v_up_so := A.var "up_so" 11 (by decide +kernel)
  have s_up_so := A.stv "up_so" 11 (by decide +kernel)
  have l_up_so := A.lcv "up_so" 11 (by decide +kernel)
  have v_between_so := A.var "between_so" 12 (by decide +kernel)
  have s_between_so := A.stv "between_so" 12 (by decide +kernel)
  have l_between_so := A.lcv "between_so" 12 (by decide +kernel)
  have v_own := A.var "own" 13 (by decide +kernel)
  have s_own := A.stv "own" 13 (by decide +kernel)
  have l_own := A.lcv "own" 13 (by decide +kernel)
  have v_row_so := A.var "row_so" 14 (by decide +kernel)
  have s_row_so := A.stv "row_so" 14 (by decide +kernel)
  have l_row_so := A.lcv "row_so" 14 (by decide +kernel)
  have v_club_so := A.var "club_so" 15 (by decide +kernel)
  have s_club_so := A.stv "club_so" 15 (by decide +kernel)
  have v_flat_so := A.var "flat_so" 16 (by decide +kernel)
  have s_flat_so := A.stv "flat_so" 16 (by decide +kernel)
  have l_flat_so := A.lcv "flat_so" 16 (by decide +kernel)
  have v_lap := A.var "lap" 17 (by decide +kernel)
  have s_lap := A.stv "lap" 17 (by decide +kernel)
  have l_lap := A.lcv "lap" 17 (by decide +kernel)
  have v_due := A.var "due" 18 (by decide +kernel)
  have s_due := A.stv "due" 18 (by decide +kernel)
  have l_due := A.lcv "due" 18 (by decide +kernel)
  have v_makers_so := A.var "makers_so" 19 (by decide +kernel)
  have s_makers_so := A.stv "makers_so" 19 (by decide +kernel)
  have l_makers_so := A.lcv "makers_so" 19 (by decide +kernel)
  have g__law_box := A.glo "_law_box" (by decide +kernel)
  have g__law_cells := A.glo "_law_cells" (by decide +kernel)
  have g__law_of := A.glo "_law_of" (by decide +kernel)
  have g__law_take := A.glo "_law_take" (by decide +kernel)
  have g__law_whole := A.glo "_law_whole" (by decide +kernel)
  have g_tuple := A.glo "tuple" (by decide +kernel)
  have g_range := A.glo "range" (by decide +kernel)
  have g__law_deed := A.glo "_law_deed" (by decide +kernel)
  have g_list := A.glo "list" (by decide +kernel)
  have g__law_height := A.glo "_law_height" (by decide +kernel)
  have g_is_above := A.glo "is_above" (by decide +kernel)
  have g_is_up := A.glo "is_up" (by decide +kernel)
  have g_up_or_undone := A.glo "up_or_undone" (by decide +kernel)
  have g__law_same := A.glo "_law_same" (by decide +kernel)
  have g__law_undo := A.glo "_law_undo" (by decide +kernel)
  have g__law_join := A.glo "_law_join" (by decide +kernel)
  have g__law_lead := A.glo "_law_lead" (by decide +kernel)
  have g_lies_between := A.glo "lies_between" (by decide +kernel)
  have g_sorted := A.glo "sorted" (by decide +kernel)
  have g_in_order := A.glo "in_order" (by decide +kernel)
  have g__law_mixed := A.glo "_law_mixed" (by decide +kernel)
  have g_lowest := A.glo "lowest" (by decide +kernel)
  have g_highest := A.glo "highest" (by decide +kernel)
  have g__law_finite := A.glo "_law_finite" (by decide +kernel)
  have g_level := A.glo "level" (by decide +kernel)
  have g__law_times := A.glo "_law_times" (by decide +kernel)
  have g__law_makers := A.glo "_law_makers" (by decide +kernel)
  have g_has := A.glo "has" (by decide +kernel)
  have g_is_level := A.glo "is_level" (by decide +kernel)
  have g_len := A.glo "len" (by decide +kernel)
  have g_least_up := A.glo "least_up" (by decide +kernel)
  have hl5 : l.length ≤ 500 := by omega
  have hlb2 : ∀ t, t ∈ l → Bd3 2000 t := fun t ht => ⟨(hlb t ht).1.mono (by decide), (hlb t ht).2.1.mono (by decide), (hlb t ht).2.2.mono (by decide)⟩
  obtain ⟨t, m, hm⟩ := ordD_ne (p := p) (q := q) hl0
  have hol := ordD_len (p := p) (q := q) (l := l)
  refine ds_cons ?_
  refine vSetLc (own := [("own", 13)]) A (by assumption) rfl (by decide +kernel) (fun _ => rfl) rfl rfl ?_
  refine di_lst (de_sortD (x := .lst (l.map (rowD p q))) A G (by decide +kernel) rfl (sortO_rows hl5) (fun Ψ hΨ => ?_) ?_)
  · refine de_lcN (own := [("own", 13)]) 13 (fun d => .tup [hD p q d, d]) A rfl (by decide +kernel) (fun _ => rfl) (by decide +kernel) (by decide +kernel) ?_
    refine di_tup (vName A (by assumption) ⟨_, rfl, ?_⟩)
    refine ⟨_, rfl, ?_, ?_, ?_⟩
    · exact le_line (m := 1000) (by rw [List.length_map]; omega) rfl
    · intro d hd X' A' Ξ hΞ
      refine de_norm (by walk_at "dnorm") ?_
      have w_own := A'.var "own" 13 (by decide +kernel)
      have u_own := A'.stv "own" 13 (by decide +kernel)
      have h__law_height := A'.glo "_law_height" (by decide +kernel)
      have w_way_so := A'.var "way_so" 3 (by decide +kernel)
      obtain ⟨⟨x, y, z⟩, ht, rfl⟩ := List.mem_map.mp hd
      obtain ⟨hx, hy, hz⟩ := hlb2 _ ht
      repeat walk_at "dw"
      exact hΞ
    · rw [show (l.map d3).map (fun d => D.tup [hD p q d, d]) = l.map (rowD p q) by rw [List.map_map]; rfl]
      exact hΨ
  refine ⟨_, rfl, le_line (m := 1000) (by rw [ordered_len]; omega) rfl, ?_⟩
  (with_reducible apply lcN_norm)
  walk_at "dnorm"
  refine lc_mapN (i := 13) (f := second) A rfl (by decide +kernel) (by decide +kernel) (fun d hd X' A' Ξ hΞ => ?_) ?_
  · obtain ⟨t, ht, rfl⟩ := ordered_mem hd
    have w_own := A'.var "own" 13 (by decide +kernel)
    have u_own := A'.stv "own" 13 (by decide +kernel)
    repeat walk_at "dw"
    exact hΞ
  rw [ordered_second]
  repeat walk_at "dw"
  have hcn : cntD (.tup (l.map d3)) = l.length + 1 := by
    conv => { lhs; unfold cntD }
    rw [cnt_d3s]
  refine cMixed_i ht (by rw [hcn]; omega) (by unfold tupO; rw [tupO_d3s l, Bool.and_true]; exact Nat.ble_eq.mpr (le_line (m := 1000) (by rw [List.length_map]; omega) rfl)) ?_
  intro d' lt2 hfd hnd ht2
  have hnl : nrm (.tup (l.map d3)) = .tup (l.map d3) := by unfold nrm; rw [nrm_d3s]
  rw [hnl] at hnd
  rw [hcn] at ht2
  have hfl := (fit_row (l := l) hl5).2
  have hf0 : fitD 2 (.tup []) = true := rfl
  have hn0 : nrm (.tup []) = .tup (([] : List T3).map d3) := by simp [nrm, nrmL]
  have hb0 : ∀ t, t ∈ ([] : List T3) → Bd3 2000 t := fun t ht => by cases ht
  have hl0' : ([] : List T3).length ≤ 500 := by decide
  repeat walk_at "dw"
  rw [hm] at hol ⊢
  refine ⟨d3 t, atI_first, ?_⟩
  repeat walk_at "dw"
  refine ⟨d3 ((t :: m).getLastD (0, 0, 0)), atI_lastD, ?_⟩
  repeat walk_at "dw"
  have hro := law_rows (l := t :: m) (a := d3 t) (b := d3 ((t :: m).getLastD (0, 0, 0))) (by omega) ⟨rfl, rfl⟩ ⟨rfl, rfl⟩
  refine ⟨hro.1, hro.2, ?_⟩
  refine ⟨_, rfl, ?_⟩
  refine ite_f rfl ?_
  refine ds_nil ?_
  exact cont _ _ lt2 (ht2.mono (by omega))

theorem seg_T {P : Program} {w : World} {K : PySem.W.Frag} {mg : Str → Option Value} {base : Heap} (M : Mod K w mg) {X : Cx} (A : At X P w K mg base tb_law nm_law 10) {E : DEnds} {is : List Int} {c : Addr} {b : Nat} {lt : List D} {w2 w3 w4 w5 w6 w7 w8 w9 w10 w11 w12 w13 w14 w15 w16 w17 w18 w19 : Option D} (ht : Tin b lt) (hb : b ≤ 900) (cont : ∀ (a bb u e v c0 p q x0 y0 z0 : Int) (lt : List D), FullB a bb u e v c0 → WayB p q → 0 < q → Flat p q a bb u e v c0 x0 y0 z0 → Tin (b + 10) lt → DSs X (tailB.drop 2) [some (.frz (is.map D.int)), some (.cell c), w2, some (p2 p q), w4, w5, w6, w7, w8, w9, w10, w11, w12, w13, w14, some (fullD a bb u e v c0), some (lineD x0 y0 z0 c0), w17, w18, w19] ((c, lt) :: []) E) : DSs X (tailB) [some (.frz (is.map D.int)), some (.cell c), w2, w3, w4, w5, w6, w7, w8, w9, w10, w11, w12, w13, w14, w15, w16, w17, w18, w19] ((c, lt) :: []) E := by
  have d__law_same := ok__law_same (P := P) (w := w) (base := base) M 3
  have d__law_finite := ok__law_finite (P := P) (w := w) (base := base) M
  have d__law_whole := ok__law_whole (P := P) (w := w) (base := base) M
  have d__law_take := ok__law_take (P := P) (w := w) (base := base) M
  have d_level := ok_level (P := P) (w := w) (base := base) M
  have G := M.nob
  have v_script := A.var "script" 0 (by decide +kernel)
  have s_script := A.stv "script" 0 (by decide +kernel)
  have l_script := A.lcv "script" 0 (by decide +kernel)
  have v_tin := A.var "tin" 1 (by decide +kernel)
  have s_tin := A.stv "tin" 1 (by decide +kernel)
  have v_top_so := A.var "top_so" 2 (by decide +kernel)
  have s_top_so := A.stv "top_so" 2 (by decide +kernel)
  have v_way_so := A.var "way_so" 3 (by decide +kernel)
  have s_way_so := A.stv "way_so" 3 (by decide +kernel)
  have v_k := A.var "k" 4 (by decide +kernel)
  have s_k := A.stv "k" 4 (by decide +kernel)
  have l_k := A.lcv "k" 4 (by decide +kernel)
  have v_deeds_so := A.var "deeds_so" 5 (by decide +kernel)
  have s_deeds_so := A.stv "deeds_so" 5 (by decide +kernel)
  have l_deeds_so := A.lcv "deeds_so" 5 (by decide +kernel)
  have v_one := A.var "one" 6 (by decide +kernel)
  have s_one := A.stv "one" 6 (by decide +kernel)
  have l_one := A.lcv "one" 6 (by decide +kernel)
  have v_two := A.var "two" 7 (by decide +kernel)
  have s_two := A.stv "two" 7 (by decide +kernel)
  have l_two := A.lcv "two" 7 (by decide +kernel)
  have v_three := A.var "three" 8 (by decide +kernel)
  have s_three := A.stv "three" 8 (by decide +kernel)
  have l_three := A.lcv "three" 8 (by decide +kernel)
  have v_above_so := A.var "above_so" 9 (by decide +kernel)
  have s_above_so := A.stv "above_so" 9 (by decide +kernel)
  have l_above_so := A.lcv "above_so" 9 (by decide +kernel)
  have v_got := A.var "got" 10 (by decide +kernel)
  have s_got := A.stv "got" 10 (by decide +kernel)
  have l_got := A.lcv "got" 10 (by decide +kernel)
  have v_up_so := A.var "up_so" 11 (by decide +kernel)
  have s_up_so := A.stv "up_so" 11 (by decide +kernel)
  have l_up_so := A.lcv "up_so" 11 (by decide +kernel)
  have v_between_so := A.var "between_so" 12 (by decide +kernel)
  have s_between_so := A.stv "between_so" 12 (by decide +kernel)
  have l_between_so := A.lcv "between_so" 12 (by decide +kernel)
  have v_own := A.var "own" 13 (by decide +kernel)
  have s_own := A.stv "own" 13 (by decide +kernel)
  have l_own := A.lcv "own" 13 (by decide +kernel)
  have v_row_so := A.var "row_so" 14 (by decide +kernel)
  have s_row_so := A.stv "row_so" 14 (by decide +kernel)
  have l_row_so := A.lcv "row_so" 14 (by decide +kernel)
  have v_club_so := A.var "club_so" 15 (by decide +kernel)
  have s_club_so := A.stv "club_so" 15 (by decide +kernel)
  have v_flat_so := A.var "flat_so" 16 (by decide +kernel)
  have s_flat_so := A.stv "flat_so" 16 (by decide +kernel)
  have l_flat_so := A.lcv "flat_so" 16 (by decide +kernel)
  have v_lap := A.var "lap" 17 (by decide +kernel)
  have s_lap := A.stv "lap" 17 (by decide +kernel)
  have l_lap := A.lcv "lap" 17 (by decide +kernel)
  have v_due := A.var "due" 18 (by decide +kernel)
  have s_due := A.stv "due" 18 (by decide +kernel)
  have l_due := A.lcv "due" 18 (by decide +kernel)
  have v_makers_so := A.var "makers_so" 19 (by decide +kernel)
  have s_makers_so := A.stv "makers_so" 19 (by decide +kernel)
  have l_makers_so := A.lcv "makers_so" 19 (by decide +kernel)
  have g__law_box := A.glo "_law_box" (by decide +kernel)
  have g__law_cells := A.glo "_law_cells" (by decide +kernel)
  have g__law_of := A.glo "_law_of" (by decide +kernel)
  have g__law_take := A.glo "_law_take" (by decide +kernel)
  have g__law_whole := A.glo "_law_whole" (by decide +kernel)
  have g_tuple := A.glo "tuple" (by decide +kernel)
  have g_range := A.glo "range" (by decide +kernel)
  have g__law_deed := A.glo "_law_deed" (by decide +kernel)
  have g_list := A.glo "list" (by decide +kernel)
  have g__law_height := A.glo "_law_height" (by decide +kernel)
  have g_is_above := A.glo "is_above" (by decide +kernel)
  have g_is_up := A.glo "is_up" (by decide +kernel)
  have g_up_or_undone := A.glo "up_or_undone" (by decide +kernel)
  have g__law_same := A.glo "_law_same" (by decide +kernel)
  have g__law_undo := A.glo "_law_undo" (by decide +kernel)
  have g__law_join := A.glo "_law_join" (by decide +kernel)
  have g__law_lead := A.glo "_law_lead" (by decide +kernel)
  have g_lies_between := A.glo "lies_between" (by decide +kernel)
  have g_sorted := A.glo "sorted" (by decide +kernel)
  have g_in_order := A.glo "in_order" (by decide +kernel)
  have g__law_mixed := A.glo "_law_mixed" (by decide +kernel)
  have g_lowest := A.glo "lowest" (by decide +kernel)
  have g_highest := A.glo "highest" (by decide +kernel)
  have g__law_finite := A.glo "_law_finite" (by decide +kernel)
  have g_level := A.glo "level" (by decide +kernel)
  have g__law_times := A.glo "_law_times" (by decide +kernel)
  have g__law_makers := A.glo "_law_makers" (by decide +kernel)
  have g_has := A.glo "has" (by decide +kernel)
  have g_is_level := A.glo "is_level" (by decide +kernel)
  have g_len := A.glo "len" (by decide +kernel)
  have g_least_up := A.glo "least_up" (by decide +kernel)
  refine dss_box ?_
  repeat walk_at "dw"
  refine cFinite_i ht (by omega) (by decide) (by decide) ?_
  intro a bb u e v c0 l1 hF _ _ _ ht1
  repeat walk_at "dw"
  intro r1 l2 _ hr1 ht2
  have hr1' := hr1 (by decide)
  repeat walk_at "dw"
  intro r2 l3 r20 r21 ht3
  repeat walk_at "dw"
  refine .mk ?_
  refine dss_box ?_
  have hp1 : Bd 100 r1 := ⟨by omega⟩
  have hp2 : Bd 100 (1 + r2) := ⟨by omega⟩
  have hw : WayB r1 (1 + r2) := ⟨decide_eq_false (fun z => by have := congrArg Prod.snd z; dsimp only at this; omega), hp1.mono (by decide), hp2.mono (by decide)⟩
  have hq : 0 < 1 + r2 := by omega
  repeat walk_at "dw"
  obtain ⟨x0, y0, z0, e0, hL⟩ := flat_ok hp1 hp2 hq hF
  rw [e0]
  repeat walk_at "dw"
  exact .mk (cont _ _ _ _ _ _ _ _ _ _ _ _ hF hw hq hL (ht3.mono (by omega)))

theorem seg_U {P : Program} {w : World} {K : PySem.W.Frag} {mg : Str → Option Value} {base : Heap} (M : Mod K w mg) {X : Cx} (A : At X P w K mg base tb_law nm_law 10) {E : DEnds} {is : List Int} {c : Addr} {b : Nat} {lt : List D} {a bb u e v c0 : Int} (hF : FullB a bb u e v c0) {x y z : Int} (hx : Bd 1000 x) (hy : Bd 1000 y) (hz : Bd 1000 z) {w2 w3 w4 w5 w6 w7 w8 w9 w10 w11 w12 w14 w16 w17 w18 w19 : Option D} (ht : Tin b lt) (hb : b ≤ 90000) (cont : ∀ (r s t : Int) (lt : List D), Mem a bb u e v c0 (r, s, t) → Bd 300 r → Bd 300 s → Bd 300 t → Tin (b + 3) lt → E.nx [some (.frz (is.map D.int)), some (.cell c), w2, w3, w4, w5, w6, w7, w8, w9, w10, w11, w12, some (t3 (x + r) (y + s) (z + t + x * s)), w14, some (fullD a bb u e v c0), w16, w17, w18, w19] ((c, lt) :: [])) : DSs X (loopU) [some (.frz (is.map D.int)), some (.cell c), w2, w3, w4, w5, w6, w7, w8, w9, w10, w11, w12, some (t3 x y z), w14, some (fullD a bb u e v c0), w16, w17, w18, w19] ((c, lt) :: []) E := by
  have d__law_same := ok__law_same (P := P) (w := w) (base := base) M 3
  have d__law_join := ok__law_join (P := P) (w := w) (base := base) M
  have d__law_times := ok__law_times (P := P) (w := w) (base := base) M
  have d__law_of := ok__law_of (P := P) (w := w) (base := base) M
  have d__law_makers := ok__law_makers (P := P) (w := w) (base := base) M
  have d__law_whole := ok__law_whole (P := P) (w := w) (base := base) M
  have G := M.nob
  have v_script := A.var "script" 0 (by decide +kernel)
  have s_script := A.stv "script" 0 (by decide +kernel)
  have l_script := A.lcv "script" 0 (by decide +kernel)
  have v_tin := A.var "tin" 1 (by decide +kernel)
  have s_tin := A.stv "tin" 1 (by decide +kernel)
  have v_top_so := A.var "top_so" 2 (by decide +kernel)
  have s_top_so := A.stv "top_so" 2 (by decide +kernel)
  have v_way_so := A.var "way_so" 3 (by decide +kernel)
  have s_way_so := A.stv "way_so" 3 (by decide +kernel)
  have v_k := A.var "k" 4 (by decide +kernel)
  have s_k := A.stv "k" 4 (by decide +kernel)
  have l_k := A.lcv "k" 4 (by decide +kernel)
  have v_deeds_so := A.var "deeds_so" 5 (by decide +kernel)
  have s_deeds_so := A.stv "deeds_so" 5 (by decide +kernel)
  have l_deeds_so := A.lcv "deeds_so" 5 (by decide +kernel)
  have v_one := A.var "one" 6 (by decide +kernel)
  have s_one := A.stv "one" 6 (by decide +kernel)
  have l_one := A.lcv "one" 6 (by decide +kernel)
  have v_two := A.var "two" 7 (by decide +kernel)
  have s_two := A.stv "two" 7 (by decide +kernel)
  have l_two := A.lcv "two" 7 (by decide +kernel)
  have v_three := A.var "three" 8 (by decide +kernel)
  have s_three := A.stv "three" 8 (by decide +kernel)
  have l_three := A.lcv "three" 8 (by decide +kernel)
  have v_above_so := A.var "above_so" 9 (by decide +kernel)
  have s_above_so := A.stv "above_so" 9 (by decide +kernel)
  have l_above_so := A.lcv "above_so" 9 (by decide +kernel)
  have v_got := A.var "got" 10 (by decide +kernel)
  have s_got := A.stv "got" 10 (by decide +kernel)
  have l_got := A.lcv "got" 10 (by decide +kernel)
  have v_up_so := A.var "up_so" 11 (by decide +kernel)
  have s_up_so := A.stv "up_so" 11 (by decide +kernel)
  have l_up_so := A.lcv "up_so" 11 (by decide +kernel)
  have v_between_so := A.var "between_so" 12 (by decide +kernel)
  have s_between_so := A.stv "between_so" 12 (by decide +kernel)
  have l_between_so := A.lcv "between_so" 12 (by decide +kernel)
  have v_own := A.var "own" 13 (by decide +kernel)
  have s_own := A.stv "own" 13 (by decide +kernel)
  have l_own := A.lcv "own" 13 (by decide +kernel)
  have v_row_so := A.var "row_so" 14 (by decide +kernel)
  have s_row_so := A.stv "row_so" 14 (by decide +kernel)
  have l_row_so := A.lcv "row_so" 14 (by decide +kernel)
  have v_club_so := A.var "club_so" 15 (by decide +kernel)
  have s_club_so := A.stv "club_so" 15 (by decide +kernel)
  have v_flat_so := A.var "flat_so" 16 (by decide +kernel)
  have s_flat_so := A.stv "flat_so" 16 (by decide +kernel)
  have l_flat_so := A.lcv "flat_so" 16 (by decide +kernel)
  have v_lap := A.var "lap" 17 (by decide +kernel)
  have s_lap := A.stv "lap" 17 (by decide +kernel)
  have l_lap := A.lcv "lap" 17 (by decide +kernel)
  have v_due := A.var "due" 18 (by decide +kernel)
  have s_due := A.stv "due" 18 (by decide +kernel)
  have l_due := A.lcv "due" 18 (by decide +kernel)
  have v_makers_so := A.var "makers_so" 19 (by decide +kernel)
  have s_makers_so := A.stv "makers_so" 19 (by decide +kernel)
  have l_makers_so := A.lcv "makers_so" 19 (by decide +kernel)
  have g__law_box := A.glo "_law_box" (by decide +kernel)
  have g__law_cells := A.glo "_law_cells" (by decide +kernel)
  have g__law_of := A.glo "_law_of" (by decide +kernel)
  have g__law_take := A.glo "_law_take" (by decide +kernel)
  have g__law_whole := A.glo "_law_whole" (by decide +kernel)
  have g_tuple := A.glo "tuple" (by decide +kernel)
  have g_range := A.glo "range" (by decide +kernel)
  have g__law_deed := A.glo "_law_deed" (by decide +kernel)
  have g_list := A.glo "list" (by decide +kernel)
  have g__law_height := A.glo "_law_height" (by decide +kernel)
  have g_is_above := A.glo "is_above" (by decide +kernel)
  have g_is_up := A.glo "is_up" (by decide +kernel)
  have g_up_or_undone := A.glo "up_or_undone" (by decide +kernel)
  have g__law_same := A.glo "_law_same" (by decide +kernel)
  have g__law_undo := A.glo "_law_undo" (by decide +kernel)
  have g__law_join := A.glo "_law_join" (by decide +kernel)
  have g__law_lead := A.glo "_law_lead" (by decide +kernel)
  have g_lies_between := A.glo "lies_between" (by decide +kernel)
  have g_sorted := A.glo "sorted" (by decide +kernel)
  have g_in_order := A.glo "in_order" (by decide +kernel)
  have g__law_mixed := A.glo "_law_mixed" (by decide +kernel)
  have g_lowest := A.glo "lowest" (by decide +kernel)
  have g_highest := A.glo "highest" (by decide +kernel)
  have g__law_finite := A.glo "_law_finite" (by decide +kernel)
  have g_level := A.glo "level" (by decide +kernel)
  have g__law_times := A.glo "_law_times" (by decide +kernel)
  have g__law_makers := A.glo "_law_makers" (by decide +kernel)
  have g_has := A.glo "has" (by decide +kernel)
  have g_is_level := A.glo "is_level" (by decide +kernel)
  have g_len := A.glo "len" (by decide +kernel)
  have g_least_up := A.glo "least_up" (by decide +kernel)
  refine dss_box ?_
  repeat walk_at "dw"
  refine cMk_i (.full hF) ?_
  repeat walk_at "dw"
  refine ⟨c, _, _, _, _, 3, rfl, rfl, ht, by omega, trivial, rfl, by decide, by decide, ?_⟩
  intro j l1 j0 j1 ht1
  have hg : ∃ r s t, IxD [] (.lst [t3 a bb u, t3 0 e v, t3 0 0 c0]) (.int j) (t3 r s t) ∧ Bd 100 r ∧ Bd 100 s ∧ Bd 100 t ∧ ∀ k, Mem a bb u e v c0 (timesR k r s t) := by
    have z0 : Bd 100 (0 : Int) := Bd.lit rfl
    have hj : j = 0 ∨ j = 1 ∨ j = 2 := by omega
    rcases hj with rfl | rfl | rfl
    · exact ⟨_, _, _, rfl, hF.ab, hF.bb, hF.ub, mem_first⟩
    · exact ⟨_, _, _, rfl, z0, hF.eb, hF.vb, mem_second⟩
    · exact ⟨_, _, _, rfl, z0, z0, hF.cb, mem_centre⟩
  obtain ⟨r, s, t, hix, hr, hs, htt, hmem⟩ := hg
  refine ⟨_, hix, ?_⟩
  repeat walk_at "dw"
  intro k l2 hk hk4 ht2
  have hk4' := hk4 (by decide)
  obtain ⟨b1, b2, b3⟩ := times_bd (k := k) (by omega) (by omega) hr hs htt
  repeat walk_at "dw"
  exact .mk (ds_nil (cont _ _ _ _ (hmem k) b1 b2 b3 (ht2.mono (by omega))))

theorem seg_V {P : Program} {w : World} {K : PySem.W.Frag} {mg : Str → Option Value} {base : Heap} (M : Mod K w mg) {X : Cx} (A : At X P w K mg base tb_law nm_law 10) {E : DEnds} {is : List Int} {c : Addr} {b : Nat} {lt : List D} {a bb u e v c0 : Int} (hF : FullB a bb u e v c0) {p q x0 y0 z0 : Int} (hq : 0 < q) (hw : WayB p q) (hL : Flat p q a bb u e v c0 x0 y0 z0) {w2 w4 w5 w6 w7 w8 w9 w10 w11 w12 w13 w14 w17 w18 w19 : Option D} (ht : Tin b lt) (hb : b ≤ 80000) (cont : ∀ (w4 w13 w18 : Option D) (lt : List D), Tin (b + 9) lt → E.nx [some (.frz (is.map D.int)), some (.cell c), w2, some (p2 p q), w4, w5, w6, w7, w8, w9, w10, w11, w12, w13, w14, some (fullD a bb u e v c0), some (lineD x0 y0 z0 c0), w17, w18, w19] ((c, lt) :: [])) : DSs X (loopL) [some (.frz (is.map D.int)), some (.cell c), w2, some (p2 p q), w4, w5, w6, w7, w8, w9, w10, w11, w12, w13, w14, some (fullD a bb u e v c0), some (lineD x0 y0 z0 c0), w17, w18, w19] ((c, lt) :: []) E := by
  have d__law_same := ok__law_same (P := P) (w := w) (base := base) M 3
  have d_has := ok_has (P := P) (w := w) (base := base) M
  have d_is_level := ok_is_level (P := P) (w := w) (base := base) M
  have G := M.nob
  have v_script := A.var "script" 0 (by decide +kernel)
  have s_script := A.stv "script" 0 (by decide +kernel)
  have l_script := A.lcv "script" 0 (by decide +kernel)
  have v_tin := A.var "tin" 1 (by decide +kernel)
  have s_tin := A.stv "tin" 1 (by decide +kernel)
  have v_top_so := A.var "top_so" 2 (by decide +kernel)
  have s_top_so := A.stv "top_so" 2 (by decide +kernel)
  have v_way_so := A.var "way_so" 3 (by decide +kernel)
  have s_way_so := A.stv "way_so" 3 (by decide +kernel)
  have v_k := A.var "k" 4 (by decide +kernel)
  have s_k := A.stv "k" 4 (by decide +kernel)
  have l_k := A.lcv "k" 4 (by decide +kernel)
  have v_deeds_so := A.var "deeds_so" 5 (by decide +kernel)
  have s_deeds_so := A.stv "deeds_so" 5 (by decide +kernel)
  have l_deeds_so := A.lcv "deeds_so" 5 (by decide +kernel)
  have v_one := A.var "one" 6 (by decide +kernel)
  have s_one := A.stv "one" 6 (by decide +kernel)
  have l_one := A.lcv "one" 6 (by decide +kernel)
  have v_two := A.var "two" 7 (by decide +kernel)
  have s_two := A.stv "two" 7 (by decide +kernel)
  have l_two := A.lcv "two" 7 (by decide +kernel)
  have v_three := A.var "three" 8 (by decide +kernel)
  have s_three := A.stv "three" 8 (by decide +kernel)
  have l_three := A.lcv "three" 8 (by decide +kernel)
  have v_above_so := A.var "above_so" 9 (by decide +kernel)
  have s_above_so := A.stv "above_so" 9 (by decide +kernel)
  have l_above_so := A.lcv "above_so" 9 (by decide +kernel)
  have v_got := A.var "got" 10 (by decide +kernel)
  have s_got := A.stv "got" 10 (by decide +kernel)
  have l_got := A.lcv "got" 10 (by decide +kernel)
  have v_up_so := A.var "up_so" 11 (by decide +kernel)
  have s_up_so := A.stv "up_so" 11 (by decide +kernel)
  have l_up_so := A.lcv "up_so" 11 (by decide +kernel)
  have v_between_so := A.var "between_so" 12 (by decide +kernel)
  have s_between_so := A.stv "between_so" 12 (by decide +kernel)
  have l_between_so := A.lcv "between_so" 12 (by decide +kernel)
  have v_own := A.var "own" 13 (by decide +kernel)
  have s_own := A.stv "own" 13 (by decide +kernel)
  have l_own := A.lcv "own" 13 (by decide +kernel)
  have v_row_so := A.var "row_so" 14 (by decide +kernel)
  have s_row_so := A.stv "row_so" 14 (by decide +kernel)
  have l_row_so := A.lcv "row_so" 14 (by decide +kernel)
  have v_club_so := A.var "club_so" 15 (by decide +kernel)
  have s_club_so := A.stv "club_so" 15 (by decide +kernel)
  have v_flat_so := A.var "flat_so" 16 (by decide +kernel)
  have s_flat_so := A.stv "flat_so" 16 (by decide +kernel)
  have l_flat_so := A.lcv "flat_so" 16 (by decide +kernel)
  have v_lap := A.var "lap" 17 (by decide +kernel)
  have s_lap := A.stv "lap" 17 (by decide +kernel)
  have l_lap := A.lcv "lap" 17 (by decide +kernel)
  have v_due := A.var "due" 18 (by decide +kernel)
  have s_due := A.stv "due" 18 (by decide +kernel)
  have l_due := A.lcv "due" 18 (by decide +kernel)
  have v_makers_so := A.var "makers_so" 19 (by decide +kernel)
  have s_makers_so := A.stv "makers_so" 19 (by decide +kernel)
  have l_makers_so := A.lcv "makers_so" 19 (by decide +kernel)
  have g__law_box := A.glo "_law_box" (by decide +kernel)
  have g__law_cells := A.glo "_law_cells" (by decide +kernel)
  have g__law_of := A.glo "_law_of" (by decide +kernel)
  have g__law_take := A.glo "_law_take" (by decide +kernel)
  have g__law_whole := A.glo "_law_whole" (by decide +kernel)
  have g_tuple := A.glo "tuple" (by decide +kernel)
  have g_range := A.glo "range" (by decide +kernel)
  have g__law_deed := A.glo "_law_deed" (by decide +kernel)
  have g_list := A.glo "list" (by decide +kernel)
  have g__law_height := A.glo "_law_height" (by decide +kernel)
  have g_is_above := A.glo "is_above" (by decide +kernel)
  have g_is_up := A.glo "is_up" (by decide +kernel)
  have g_up_or_undone := A.glo "up_or_undone" (by decide +kernel)
  have g__law_same := A.glo "_law_same" (by decide +kernel)
  have g__law_undo := A.glo "_law_undo" (by decide +kernel)
  have g__law_join := A.glo "_law_join" (by decide +kernel)
  have g__law_lead := A.glo "_law_lead" (by decide +kernel)
  have g_lies_between := A.glo "lies_between" (by decide +kernel)
  have g_sorted := A.glo "sorted" (by decide +kernel)
  have g_in_order := A.glo "in_order" (by decide +kernel)
  have g__law_mixed := A.glo "_law_mixed" (by decide +kernel)
  have g_lowest := A.glo "lowest" (by decide +kernel)
  have g_highest := A.glo "highest" (by decide +kernel)
  have g__law_finite := A.glo "_law_finite" (by decide +kernel)
  have g_level := A.glo "level" (by decide +kernel)
  have g__law_times := A.glo "_law_times" (by decide +kernel)
  have g__law_makers := A.glo "_law_makers" (by decide +kernel)
  have g_has := A.glo "has" (by decide +kernel)
  have g_is_level := A.glo "is_level" (by decide +kernel)
  have g_len := A.glo "len" (by decide +kernel)
  have g_least_up := A.glo "least_up" (by decide +kernel)
  refine ds_cons ?_
  repeat walk_at "dw"
  refine ds_for A (fun _ => rfl) ?_
  repeat walk_at "dw"
  refine for_ind (fun ds ρ S' => ∃ (n : Nat) (x y z : Int) (l' : List D) (w4 : Option D), n + ds.length = 3 ∧ Lap n a bb u e v c0 x y z ∧ Tin (b + 3 * n) l' ∧ S' = (c, l') :: [] ∧ ρ = [some (.frz (is.map D.int)), some (.cell c), w2, some (p2 p q), w4, w5, w6, w7, w8, w9, w10, w11, w12, some (t3 x y z), w14, some (fullD a bb u e v c0), some (lineD x0 y0 z0 c0), w17, w18, w19]) ?_ ?_ ?_
  · rintro d ds ρ S' ⟨n, x, y, z, l1, w4, hn, hlap, ht1, rfl, rfl⟩
    rw [List.length_cons] at hn
    obtain ⟨hx, hy, hz⟩ := hlap.bd (by omega)
    refine vG A (by assumption) rfl ?_
    (with_reducible apply nxG_norm)
    walk_at "dnorm"
    refine seg_U M A hF hx hy hz ht1 (by omega) (fun r s t l2 hm b1 b2 b3 ht2 => ?_)
    exact .mk ⟨n + 1, _, _, _, l2, _, by omega, lap_join hF (by omega) hlap hm b1 b2 b3, ht2.mono (by omega), rfl, rfl⟩
  · rintro ρ S' ⟨n, x, y, z, l1, w4, hn, hlap, ht1, rfl, rfl⟩
    rw [List.length_nil] at hn
    obtain ⟨hx, hy, hz⟩ := hlap.bd (by omega)
    obtain ⟨i1, o1, hp1, hi1⟩ := hL.part hlap.1
    obtain ⟨i2, j2, o2, hp2, hi2⟩ := full_part hF hlap.1
    have hpb := hw.p
    have hqb := hw.q
    refine nx_mk ?_
    refine ds_cons ?_
    repeat walk_at "dw"
    refine cSame_i (by rw [hi1]) rfl rfl ?_
    refine ⟨_, rfl, ?_⟩
    refine ite_f rfl ?_
    refine ds_nil ?_
    exact ds_nil (cont _ _ _ _ (ht1.mono (by omega)))
  · exact ⟨0, 0, 0, 0, lt, w4, rfl, lap_zero, ht, rfl, rfl⟩

theorem seg_W {P : Program} {w : World} {K : PySem.W.Frag} {mg : Str → Option Value} {base : Heap} (M : Mod K w mg) {X : Cx} (A : At X P w K mg base tb_law nm_law 10) {E : DEnds} {is : List Int} {c : Addr} {b : Nat} {lt : List D} {a bb u e v c0 : Int} (hF : FullB a bb u e v c0) {p q x0 y0 z0 : Int} (hq : 0 < q) (hw : WayB p q) (hL : Flat p q a bb u e v c0 x0 y0 z0) {w2 w4 w5 w6 w7 w8 w9 w10 w11 w12 w13 w14 w17 w18 w19 : Option D} (ht : Tin b lt) (hb : b ≤ 90000) (cont : ∀ (w13 w19 : Option D), DSs X (tailB.drop 5) [some (.frz (is.map D.int)), some (.cell c), w2, some (p2 p q), w4, w5, w6, w7, w8, w9, w10, w11, w12, w13, w14, some (fullD a bb u e v c0), some (lineD x0 y0 z0 c0), w17, w18, w19] ((c, lt) :: []) E) : DSs X (tailB.drop 3) [some (.frz (is.map D.int)), some (.cell c), w2, some (p2 p q), w4, w5, w6, w7, w8, w9, w10, w11, w12, w13, w14, some (fullD a bb u e v c0), some (lineD x0 y0 z0 c0), w17, w18, w19] ((c, lt) :: []) E := by
  have d__law_same := ok__law_same (P := P) (w := w) (base := base) M 3
  have d__law_makers := ok__law_makers (P := P) (w := w) (base := base) M
  have d__law_has := ok__law_has (P := P) (w := w) (base := base) M
  have G := M.nob
  have v_script := A.var "script" 0 (by decide +kernel)
  have s_script := A.stv "script" 0 (by decide +kernel)
  have l_script := A.lcv "script" 0 (by decide +kernel)
  have v_tin := A.var "tin" 1 (by decide +kernel)
  have s_tin := A.stv "tin" 1 (by decide +kernel)
  have v_top_so := A.var "top_so" 2 (by decide +kernel)
  have s_top_so := A.stv "top_so" 2 (by decide +kernel)
  have v_way_so := A.var "way_so" 3 (by decide +kernel)
  have s_way_so := A.stv "way_so" 3 (by decide +kernel)
  have v_k := A.var "k" 4 (by decide +kernel)
  have s_k := A.stv "k" 4 (by decide +kernel)
  have l_k := A.lcv "k" 4 (by decide +kernel)
  have v_deeds_so := A.var "deeds_so" 5 (by decide +kernel)
  have s_deeds_so := A.stv "deeds_so" 5 (by decide +kernel)
  have l_deeds_so := A.lcv "deeds_so" 5 (by decide +kernel)
  have v_one := A.var "one" 6 (by decide +kernel)
  have s_one := A.stv "one" 6 (by decide +kernel)
  have l_one := A.lcv "one" 6 (by decide +kernel)
  have v_two := A.var "two" 7 (by decide +kernel)
  have s_two := A.stv "two" 7 (by decide +kernel)
  have l_two := A.lcv "two" 7 (by decide +kernel)
  have v_three := A.var "three" 8 (by decide +kernel)
  have s_three := A.stv "three" 8 (by decide +kernel)
  have l_three := A.lcv "three" 8 (by decide +kernel)
  have v_above_so := A.var "above_so" 9 (by decide +kernel)
  have s_above_so := A.stv "above_so" 9 (by decide +kernel)
  have l_above_so := A.lcv "above_so" 9 (by decide +kernel)
  have v_got := A.var "got" 10 (by decide +kernel)
  have s_got := A.stv "got" 10 (by decide +kernel)
  have l_got := A.lcv "got" 10 (by decide +kernel)
  have v_up_so := A.var "up_so" 11 (by decide +kernel)
  have s_up_so := A.stv "up_so" 11 (by decide +kernel)
  have l_up_so := A.lcv "up_so" 11 (by decide +kernel)
  have v_between_so := A.var "between_so" 12 (by decide +kernel)
  have s_between_so := A.stv "between_so" 12 (by decide +kernel)
  have l_between_so := A.lcv "between_so" 12 (by decide +kernel)
  have v_own := A.var "own" 13 (by decide +kernel)
  have s_own := A.stv "own" 13 (by decide +kernel)
  have l_own := A.lcv "own" 13 (by decide +kernel)
  have v_row_so := A.var "row_so" 14 (by decide +kernel)
  have s_row_so := A.stv "row_so" 14 (by decide +kernel)
  have l_row_so := A.lcv "row_so" 14 (by decide +kernel)
  have v_club_so := A.var "club_so" 15 (by decide +kernel)
  have s_club_so := A.stv "club_so" 15 (by decide +kernel)
  have v_flat_so := A.var "flat_so" 16 (by decide +kernel)
  have s_flat_so := A.stv "flat_so" 16 (by decide +kernel)
  have l_flat_so := A.lcv "flat_so" 16 (by decide +kernel)
  have v_lap := A.var "lap" 17 (by decide +kernel)
  have s_lap := A.stv "lap" 17 (by decide +kernel)
  have l_lap := A.lcv "lap" 17 (by decide +kernel)
  have v_due := A.var "due" 18 (by decide +kernel)
  have s_due := A.stv "due" 18 (by decide +kernel)
  have l_due := A.lcv "due" 18 (by decide +kernel)
  have v_makers_so := A.var "makers_so" 19 (by decide +kernel)
  have s_makers_so := A.stv "makers_so" 19 (by decide +kernel)
  have l_makers_so := A.lcv "makers_so" 19 (by decide +kernel)
  have g__law_box := A.glo "_law_box" (by decide +kernel)
  have g__law_cells := A.glo "_law_cells" (by decide +kernel)
  have g__law_of := A.glo "_law_of" (by decide +kernel)
  have g__law_take := A.glo "_law_take" (by decide +kernel)
  have g__law_whole := A.glo "_law_whole" (by decide +kernel)
  have g_tuple := A.glo "tuple" (by decide +kernel)
  have g_range := A.glo "range" (by decide +kernel)
  have g__law_deed := A.glo "_law_deed" (by decide +kernel)
  have g_list := A.glo "list" (by decide +kernel)
  have g__law_height := A.glo "_law_height" (by decide +kernel)
  have g_is_above := A.glo "is_above" (by decide +kernel)
  have g_is_up := A.glo "is_up" (by decide +kernel)
  have g_up_or_undone := A.glo "up_or_undone" (by decide +kernel)
  have g__law_same := A.glo "_law_same" (by decide +kernel)
  have g__law_undo := A.glo "_law_undo" (by decide +kernel)
  have g__law_join := A.glo "_law_join" (by decide +kernel)
  have g__law_lead := A.glo "_law_lead" (by decide +kernel)
  have g_lies_between := A.glo "lies_between" (by decide +kernel)
  have g_sorted := A.glo "sorted" (by decide +kernel)
  have g_in_order := A.glo "in_order" (by decide +kernel)
  have g__law_mixed := A.glo "_law_mixed" (by decide +kernel)
  have g_lowest := A.glo "lowest" (by decide +kernel)
  have g_highest := A.glo "highest" (by decide +kernel)
  have g__law_finite := A.glo "_law_finite" (by decide +kernel)
  have g_level := A.glo "level" (by decide +kernel)
  have g__law_times := A.glo "_law_times" (by decide +kernel)
  have g__law_makers := A.glo "_law_makers" (by decide +kernel)
  have g_has := A.glo "has" (by decide +kernel)
  have g_is_level := A.glo "is_level" (by decide +kernel)
  have g_len := A.glo "len" (by decide +kernel)
  have g_least_up := A.glo "least_up" (by decide +kernel)
  have hline := hL.line
  have hpb := hw.p
  have hqb := hw.q
  refine dss_box ?_
  repeat walk_at "dw"
  refine cMk_i (.line hline) ?_
  repeat walk_at "dw"
  refine .mk ?_
  refine dss_box ?_
  repeat walk_at "dw"
  refine de_lcF (own := [("own", 13)]) 13 (fun _ => false) (fun d => d) A rfl (by decide +kernel) (fun _ => rfl) (by decide +kernel) (by decide +kernel) ?_
  refine di_lst (vName A (by assumption) ⟨_, rfl, ?_⟩)
  refine ⟨_, rfl, sz rfl, ?_, ?_⟩
  · intro d hd X' A'
    have hg : ∃ r s t, d = t3 r s t ∧ Mem a bb u e v c0 (r, s, t) ∧ p * r + q * s = 0 ∧ Bd 2000 r ∧ Bd 2000 s ∧ Bd 2000 t := by
      simp only [List.mem_cons, List.not_mem_nil, or_false] at hd
      rcases hd with rfl | rfl
      · exact ⟨_, _, _, rfl, hL.mem, hL.dot, hL.xb, hL.yb, hL.line.zb.mono (by decide)⟩
      · exact ⟨_, _, _, rfl, mem_cen, by simp, Bd.lit rfl, Bd.lit rfl, hF.cb.mono (by decide)⟩
    obtain ⟨r, s, t, rfl, hm, hd0, hr, hs, ht0⟩ := hg
    obtain ⟨i2, j2, o2, hp2, hi2⟩ := full_part hF hm
    refine ⟨fun Ξ hΞ => ?_, fun h => by cases h⟩
    dsimp only [wipeR, List.map, List.set]
    have w_own := A'.var "own" 13 (by decide +kernel)
    have u_own := A'.stv "own" 13 (by decide +kernel)
    have h__law_has := A'.glo "_law_has" (by decide +kernel)
    have w_club_so := A'.var "club_so" 15 (by decide +kernel)
    have w_way_so := A'.var "way_so" 3 (by decide +kernel)
    repeat walk_at "dw"
    rw [hi2]
    repeat walk_at "dw"
    rw [hd0] at *
    exact hΞ
  rw [show List.map (fun d => d) (List.filter (fun _ => false) [t3 x0 y0 z0, t3 0 0 c0]) = ([] : List D) from rfl]
  repeat walk_at "dw"
  refine do_neD A rfl ?_
  refine ⟨false, by simp [toPy, toPyL, PyData.eqv, PyData.eqvAll], ?_⟩
  repeat walk_at "dw"
  exact .mk (cont _ _)

end Ar
namespace Ar
open PySem PySem.Spec PyProof.Rows L2


local macro_rules | `(tactic| walk_at "dnat") => `(tactic| first | assumption | omega | exact Nat.le_of_ble_eq_true rfl)
local macro_rules | `(tactic| walk_at "dnatz") => `(tactic| first | exact trivial | walk_at "dnat")
local macro_rules | `(tactic| walk_at "bd6") => `(tactic| first | assumption | exact ⟨by walk_at "bd", by walk_at "bd", by walk_at "bd", by walk_at "bd", by walk_at "bd", by walk_at "bd"⟩)
local macro_rules | `(tactic| walk_at "bd3") => `(tactic| first | assumption | exact ⟨by walk_at "bd", by walk_at "bd", by walk_at "bd"⟩)
local macro_rules | `(tactic| walk_at "dcnd") => `(tactic| first | exact trivial | assumption | exact ⟨rfl, rfl⟩)
local macro_rules | `(tactic| walk_at "dk2") => `(tactic| first
  | ((with_reducible apply cTake_i); (with_reducible assumption); (walk_at "dnat"); (walk_at "dnat"); (walk_at "bd"))
  | ((with_reducible apply cWhole_i); (with_reducible assumption); (walk_at "dnat"); (walk_at "dnat"); (walk_at "bd"))
  | ((with_reducible apply cOnto_i); (with_reducible assumption); (walk_at "dnat"); (walk_at "dnat"); (walk_at "bd"))
  | ((with_reducible apply cWord_i); (with_reducible assumption); (walk_at "dnat"); (walk_at "dnat"); (walk_at "dnat"))
  | ((with_reducible apply cDeed_i); (with_reducible assumption); (walk_at "dnat"); (walk_at "dnat"); (walk_at "bd"))
  | ((with_reducible refine cRoute_i ?_ ?_ ?_); (assumption); (walk_at "dnat"))
  | ((with_reducible refine cI2_i ?_ ?_); (walk_at "dnatz"))
  | ((with_reducible refine cM0_i ?_))
  | ((with_reducible refine cMdM_i ?_))
  | ((with_reducible apply cMd_i); (assumption); (assumption))
  | ((with_reducible refine cM_i ?_ ?_ ?_); (walk_at "bd6"); (walk_at "dcnd"))
  | ((with_reducible refine cMM_i ?_ ?_ ?_ ?_); (walk_at "bd6"); (walk_at "bd6"); (walk_at "dcnd"))
  | ((with_reducible refine cMT_i ?_ ?_ ?_ ?_); (walk_at "bd6"); (walk_at "bd3"); (walk_at "dcnd"))
  | ((with_reducible refine cMTdM_i ?_ ?_ ?_ ?_); (walk_at "bd6"); (walk_at "bd3"); (walk_at "dcnd"))
  | ((with_reducible apply cMTd_i); (assumption); (assumption); (walk_at "bd6"); (walk_at "bd3"); (walk_at "dcnd"))
  | ((with_reducible refine cMI_i ?_ ?_ ?_); (walk_at "bd6"); (walk_at "dcnd"))
  | ((with_reducible refine cMW_i ?_ ?_ ?_ ?_ ?_); (walk_at "bd6"); (assumption); (walk_at "dnat"); (assumption))
  | ((with_reducible refine cT1_i ?_ ?_); (walk_at "bd3"))
  | ((with_reducible refine cWay_i ?_ ?_); (assumption))
  | ((with_reducible refine cWD_i ?_ ?_ ?_ ?_ ?_); (assumption); (walk_at "bd"); (walk_at "bd"); (walk_at "bd"))
  | ((with_reducible refine cWDD_i ?_ ?_ ?_ ?_ ?_ ?_ ?_ ?_); (assumption); (walk_at "bd"); (walk_at "bd"); (walk_at "bd"); (walk_at "bd"); (walk_at "bd"); (walk_at "bd"))
  | ((with_reducible refine cClub_i ?_ ?_); (assumption))
  | ((with_reducible refine cPos3_i ?_ ?_ ?_ ?_); (assumption); (assumption); (assumption))
  | ((with_reducible apply cPart_i); (assumption); (walk_at "bd"); (walk_at "bd"); (walk_at "bd"))
  | ((with_reducible refine cFull_i ?_ ?_); (assumption))
  | ((with_reducible apply cWith_i); (first | assumption | exact .cen (by assumption) | exact .row (by assumption) (by assumption)))
  | ((with_reducible apply cPlainF_i); (first | exact .cen | exact .row (by assumption) (by assumption)))
  | ((with_reducible refine cMade_i ?_ ?_ ?_); (assumption); (assumption))
  | ((with_reducible apply cAcross_i); (assumption); (walk_at "bd"); (walk_at "bd"); (assumption); (assumption))
  | ((with_reducible apply cLevel_i); (assumption); (assumption); (assumption))
  | ((with_reducible apply cLevelB_i); (assumption); (assumption); (walk_at "bd"); (walk_at "bd"); (walk_at "bd"); (assumption))
  | ((with_reducible refine cWDDD_i ?_ ?_ ?_ ?_ ?_ ?_ ?_ ?_ ?_ ?_ ?_); (assumption); (walk_at "bd"); (walk_at "bd"); (walk_at "bd"); (walk_at "bd"); (walk_at "bd"); (walk_at "bd"); (walk_at "bd"); (walk_at "bd"); (walk_at "bd"))
  | ((with_reducible refine cMk_i ?_ ?_); (first | assumption | exact .full (by assumption) | exact .line (by assumption)))
  | ((with_reducible refine cFinite_i ?_ ?_ ?_ ?_ ?_); (assumption); (omega); (decide); (decide))
  | ((with_reducible apply cDeedsM_i); (assumption); (assumption); (assumption))
  | ((with_reducible apply cOrdM_i); (assumption); (assumption); (assumption); (assumption); (assumption); (first | exact trivial | assumption))
  | refine ⟨_, ⟨_, List.mem_cons_self, rfl⟩, ?_⟩)

local macro_rules | `(tactic| walk_at "bd") => `(tactic| focus ((with_reducible apply Bd.fit); (repeat' (first | with_reducible assumption | with_reducible apply Bd.add | with_reducible apply Bd.sub | with_reducible apply Bd.mul | with_reducible apply Bd.neg | with_reducible apply Bd.ediv | with_reducible apply Bd.emod | decide | exact Bd.lit (n := 64) rfl | exact Bd.lit (n := 300) rfl)); (all_goals (exact rfl))))
local macro_rules | `(tactic| walk_at "dok") => `(tactic| first | exact trivial | assumption | exact rfl)
local macro_rules | `(tactic| walk_at "dm") => `(tactic| first | (exact Bd.okL (Bd.lit rfl)) | (exact Bd.okR (Bd.lit rfl)) | (exact Bd.okR (by with_reducible assumption)) | (refine Bd.ok (n := 60000000) (m := 60000000) ?_ ?_ rfl <;> walk_at "bd"))
local macro_rules | `(tactic| walk_at "dty") => `(tactic| first | with_reducible exact tyInt | with_reducible exact tyBool | with_reducible exact tyStr | with_reducible exact tyTuple | with_reducible exact tyList)
local macro_rules | `(tactic| walk_at "dk") => `(tactic| first
  | ((with_reducible refine cIsNumber_i ?_ ?_); (walk_at "dok"))
  | ((with_reducible refine cIsLong_i ?_ ?_); (walk_at "dok"))
  | ((with_reducible refine cTupled_i ?_ ?_); (walk_at "dok"))
  | ((with_reducible refine cPlain1_i ?_ ?_); (walk_at "dok"))
  | ((with_reducible refine cRowOf_i ?_ ?_); (walk_at "dok"))
  | ((with_reducible refine cSureDeed_i  ?_))
  | ((with_reducible refine cSureNumber_i  ?_))
  | ((with_reducible refine cD1_i ?_ ?_ ?_ ?_); (walk_at "bd"); (walk_at "bd"); (walk_at "bd"))
  | ((with_reducible refine cD2_i ?_ ?_ ?_ ?_ ?_ ?_ ?_); (walk_at "bd"); (walk_at "bd"); (walk_at "bd"); (walk_at "bd"); (walk_at "bd"); (walk_at "bd"))
  | ((with_reducible refine cDI_i ?_ ?_ ?_ ?_ ?_); (walk_at "bd"); (walk_at "bd"); (walk_at "bd"); (walk_at "bd"))
  | ((with_reducible refine cI1_i ?_ ?_); (walk_at "bd"))
  | walk_at "dk2")
local macro_rules | `(tactic| walk_at "dlen") => `(tactic| first | with_reducible assumption | ((first | (with_reducible refine le_line6 ?_) | (with_reducible refine lt_line6 ?_)); (focus ((try simp only [List.length_map, List.length_append, List.length_cons, List.length_nil, rangeD_len]); (first | done | omega)))))
local macro_rules | `(tactic| walk_at "dnorm") => `(tactic| ((try dsimp only [wipeR, List.map, List.set]); (try exact rfl)))
local macro_rules | `(tactic| walk_at "dS") => `(tactic| ((fail_if_success (with_reducible refine asg_list ?_)); (fail_if_success (with_reducible refine asg_par3l ?_)); (fail_if_success (with_reducible refine asg_par2l ?_)); (fail_if_success (with_reducible refine asg_par3a ?_)); first
  | with_reducible refine ds_retCN ?_
  | with_reducible refine ds_ret ?_
  | ((with_reducible refine vPar3 (by assumption) (by assumption) (by assumption) (by assumption) ?_ ?_ ?_ ?_); (decide +kernel); (exact rfl); (exact ⟨rfl, rfl, rfl⟩))
  | ((with_reducible refine vPar (by assumption) (by assumption) (by assumption) ?_ ?_ ?_ ?_); (decide +kernel); (exact rfl); (exact rfl))
  | ((with_reducible refine vAsgF ?_ ?_ ?_ ?_); (decide +kernel); (exact rfl); (exact rfl))
  | ((with_reducible refine vAsgC (by assumption) ?_ ?_ ?_ ?_); (decide +kernel); (exact rfl); (exact rfl))
  | ((with_reducible refine vSet (by assumption) (by assumption) ?_ ?_); (exact rfl))
  | ((with_reducible refine ds_store ?_ ?_ ?_ ?_ ?_); (exact rfl); (exact rfl); (exact rfl); (exact fun _ => rfl))
  | ((with_reducible refine ds_asg ?_ ?_ ?_ ?_); (exact rfl); (exact rfl); (exact rfl))
  | (with_reducible refine ds_if ?_)
  | ((with_reducible refine vAug (by assumption) (by assumption) ?_); (refine ⟨_, rfl, ?_⟩))
  | ((with_reducible refine ds_expr ?_ ?_); (exact rfl))))
local macro_rules | `(tactic| walk_at "dG") => `(tactic| first
  | ((with_reducible refine vG (by assumption) (by assumption) ?_ ?_); (exact rfl))
  | ((with_reducible refine dg_tup (n := _) (by assumption) rfl ?_ ?_); (exact rfl); (refine ⟨_, rfl, rfl, ?_⟩)))
local macro_rules | `(tactic| walk_at "dC") => `(tactic| first
  | ((with_reducible refine vIsi (by assumption) (by assumption) (by walk_at "dty") (by assumption) (by assumption) ?_ ?_); (exact rfl))
  | ((with_reducible refine vIsi2 (by assumption) (by assumption) (by walk_at "dty") (by walk_at "dty") (by assumption) (by assumption) (by assumption) ?_ ?_); (exact rfl))
  | ((with_reducible refine vCall (by assumption) (by assumption) (by assumption) ?_ ?_ ?_ ?_); (exact rfl); (exact rfl); (exact rfl))
  | ((with_reducible refine de_append ?_ ?_ ?_ ?_ ?_); (exact rfl); (exact rfl); (exact rfl); (exact rfl))
  | ((with_reducible refine de_extend ?_ ?_ ?_ ?_ ?_); (exact rfl); (exact rfl); (exact rfl); (exact rfl))
  | ((with_reducible refine de_join ?_ ?_ ?_ ?_); (exact rfl); (exact rfl); (exact rfl))
  | ((with_reducible refine de_sindex ?_ ?_ ?_ ?_); (exact rfl); (exact rfl); (exact rfl))
  | ((with_reducible refine de_len (by assumption) (by assumption) (Glo.g (by assumption)) ?_ ?_); (exact rfl))
  | ((with_reducible refine de_abs (by assumption) (by assumption) (Glo.g (by assumption)) ?_ ?_); (exact rfl))
  | ((with_reducible refine de_intI (by assumption) (by assumption) (Glo.g (by assumption)) ?_ ?_); (exact rfl))
  | ((with_reducible refine de_sum (by assumption) (by assumption) (Glo.g (by assumption)) ?_ ?_); (exact rfl))
  | ((with_reducible refine de_min2 (by assumption) (by assumption) (Glo.g (by assumption)) ?_ ?_ ?_ ?_); (exact rfl); (exact rfl); (exact rfl))
  | ((with_reducible refine de_tupleOf (by assumption) (by assumption) (Glo.g (by assumption)) ?_ ?_); (exact rfl))
  | ((with_reducible refine de_all (by assumption) (by assumption) (Glo.g (by assumption)) ?_ ?_); (exact rfl))
  | ((with_reducible refine de_any (by assumption) (by assumption) (Glo.g (by assumption)) ?_ ?_); (exact rfl)))
local macro_rules | `(tactic| walk_at "dE") => `(tactic| first
  | ((with_reducible refine vName (by assumption) (by assumption) ?_); (refine ⟨_, rfl, ?_⟩))
  | ((with_reducible refine de_glob (by assumption) (by assumption) (Glo.g (by assumption)) ?_))
  | (with_reducible refine de_int ?_)
  | ((with_reducible refine de_callId ?_); walk_at "dC")
  | (with_reducible refine de_bin ?_)
  | ((with_reducible refine de_cmp ?_ ?_); (exact rfl))
  | ((with_reducible refine de_chain ?_ ?_); (exact rfl))
  | (with_reducible refine de_revT ?_)
  | (with_reducible refine de_slLo ?_)
  | (with_reducible refine de_slHi ?_)
  | (with_reducible refine de_slLH ?_)
  | ((with_reducible refine de_kd (by assumption) (by assumption) (Glo.g (by assumption)) ?_ ?_); (exact fun _ _ => rfl))
  | ((with_reducible refine vDctIx (by assumption) (by assumption) ?_ ?_); (exact fun _ _ => rfl); (refine ⟨_, _, rfl, ?_⟩))
  | ((with_reducible refine de_ix ?_ ?_); (exact fun _ _ => rfl))
  | ((with_reducible refine de_tup ?_ ?_); (exact rfl))
  | (with_reducible refine de_neg ?_)
  | (with_reducible refine de_if ?_)
  | (with_reducible refine de_bl ?_)
  | (with_reducible refine de_str ?_)
  | (with_reducible refine de_non ?_)
  | (with_reducible refine de_not ?_)
  | (with_reducible refine de_and ?_)
  | (with_reducible refine de_or ?_)
  | (with_reducible refine de_bool1 ?_)
  | ((with_reducible refine de_lst ?_ ?_); (exact rfl)))
local macro_rules | `(tactic| walk_at "dT") => `(tactic| first
  | (with_reducible refine dt_bool ?_)
  | (with_reducible refine dt_not ?_)
  | ((with_reducible refine dt_cmp ?_ ?_); (exact rfl))
  | ((with_reducible refine dt_truth ?_ ?_); (exact fun _ => rfl)))
local macro_rules | `(tactic| walk_at "dW") => `(tactic| first
  | (with_reducible refine dw_and ?_)
  | (with_reducible refine dw_or ?_)
  | (with_reducible refine dw_and1 ?_)
  | (with_reducible refine dw_or1 ?_))
local macro_rules | `(tactic| walk_at "dO") => `(tactic| first
  | with_reducible refine do_add ?_
  | with_reducible refine do_sub ?_
  | ((with_reducible refine do_cat ?_ ?_); (exact sz rfl))
  | ((with_reducible refine do_mulX ?_ ?_); (walk_at "dm"))
  | ((with_reducible refine do_fdiv ?_ ?_); (exact Bd.div (by decide) (Bd.lit (n := 9000) rfl) rfl))
  | ((with_reducible refine do_fdiv ?_ ?_); (exact Bd.div (by assumption) (by assumption) rfl))
  | ((with_reducible refine do_mod ?_ ?_); (first | (exact (by decide)) | assumption | omega))
  | ((with_reducible refine do_mulS ?_ ?_); (assumption))
  | ((with_reducible refine do_catT ?_ ?_); (walk_at "dlen"))
  | (with_reducible refine do_eqC (by assumption) ?_)
  | with_reducible refine do_gt3 (by assumption) ?_
  | with_reducible refine do_lt3 (by assumption) ?_
  | with_reducible refine do_ge3 (by assumption) ?_
  | with_reducible refine do_p3 ?_
  | with_reducible refine do_p4 ?_
  | with_reducible refine do_p5 ?_
  | with_reducible refine do_eqT2 (by assumption) ?_
  | with_reducible refine do_eqSTL (by assumption) ?_
  | with_reducible refine do_inU ?_
  | with_reducible refine do_notInU ?_
  | with_reducible refine do_p8 ?_
  | with_reducible refine do_p21 ?_
  | with_reducible refine do_p18 ?_
  | with_reducible refine do_p7 ?_
  | with_reducible refine do_p20 ?_
  | with_reducible refine do_p29 ?_
  | with_reducible refine do_eqI ?_
  | with_reducible refine do_neI ?_
  | with_reducible refine do_lt ?_
  | with_reducible refine do_le ?_
  | with_reducible refine do_gt ?_
  | with_reducible refine do_ge ?_
  | with_reducible refine do_isN ?_
  | with_reducible refine do_notN ?_
  | with_reducible refine do_inS ?_
  | with_reducible refine do_eqB ?_
  | with_reducible refine do_neB ?_
  | with_reducible refine do_eqS ?_
  | with_reducible refine do_neS ?_
  | with_reducible refine do_eqT3 (by assumption) ?_
  | with_reducible refine do_neNil (by assumption) ?_
  | with_reducible refine do_iadd ?_
  | with_reducible refine do_isub ?_)
local macro_rules | `(tactic| walk_at "dw") => `(tactic| first
  | ((with_reducible refine de_id ?_); walk_at "dE")
  | ((with_reducible refine do_id ?_); walk_at "dO")
  | ((with_reducible refine da_cons ?_ ?_); rotate_left; (exact rfl))
  | ((with_reducible refine dn_lst ?_ ?_); (exact rfl))
  | (with_reducible refine da_nil ?_)
  | ((with_reducible refine ds_id ?_); walk_at "dS")
  | with_reducible refine ds_cons ?_
  | with_reducible refine ds_nil ?_
  | with_reducible refine ds_one ?_
  | ((with_reducible refine dt_id ?_); walk_at "dT")
  | ((with_reducible refine dw_id ?_); walk_at "dW")
  | ((with_reducible refine dg_id ?_); walk_at "dG")
  | ((with_reducible refine dgs_cons ?_ ?_); (exact rfl))
  | (with_reducible refine dgs_nil ?_)
  | with_reducible refine nx_mk ?_
  | with_reducible refine rt_mk ?_
  | ((with_reducible apply nx_norm); (walk_at "dnorm"))
  | ((with_reducible apply nxG_norm); (walk_at "dnorm"))
  | with_reducible refine RetP.same ?_
  | ((with_reducible refine RetP.here ?_ ?_); (exact rfl))
  | ((with_reducible refine vRange1 (by assumption) (by assumption) (by assumption) ?_ ?_); (exact rfl))
  | ((with_reducible refine rng_and ?_ ?_); (exact ⟨by omega, by omega⟩))
  | ((with_reducible refine len_and ?_ ?_); (walk_at "dlen"))
  | ((with_reducible refine le_and ?_ ?_); (walk_at "dlen"))
  | ((with_reducible refine okc_and ?_ ?_); (walk_at "dok"))
  | ((with_reducible refine ite_t ?_ ?_); (exact rfl))
  | ((with_reducible refine ite_f ?_ ?_); (exact rfl))
  | ((with_reducible refine ite_t ?_ ?_); (with_reducible assumption))
  | ((with_reducible refine ite_f ?_ ?_); (with_reducible assumption))
  | walk_at "dk"
  | refine ⟨_, rfl, ?_⟩
  | refine ⟨_, _, rfl, rfl, ?_⟩
  | refine ⟨_, _, rfl, ⟨by with_reducible assumption, rfl⟩, ?_⟩
  | refine ⟨_, _, rfl, ?_⟩
  | refine ⟨_, _, _, rfl, ?_⟩
  | refine ⟨_, ⟨sz rfl, _, rfl, rfl⟩, ?_⟩
  | refine ⟨_, ⟨sz rfl, rfl⟩, ?_⟩
  | refine .inl ⟨_, rfl, ?_⟩
  | refine .inr ⟨_, rfl, ?_⟩
  | refine ⟨_, _, _, _, rfl, rfl, ?_⟩)

section
variable {P : Program} {w : World} {K : PySem.W.Frag} {mg : Str → Option Value} {base : Heap}
theorem fn_ok {tb : List (Str × Nat)} {x qual : Str} {st : Stmt} {f : Addr} {fd : FuncData} {N ps : List Str} {k : Nat} {n : Nat} {names : List (Str × NameKind)} {B : Spec} (F : Fun K x qual st f fd) (Sc : FnScope N ps (defScope st)) (hn : ps.length = n) (hnm : (defScope st).names = names) (ht : tbOk N tb = true)
    (body : ∀ X, At X P w K mg base tb names k → ∀ ds S Φ, ds.length = n → B ds S Φ → DSs X (defBody st) (ds.map some ++ List.replicate (N.length - ds.length) none) S { nx := fun _ S' => RetP S Φ .non S', rt := RetP S Φ }) : FnOk P w K mg base CX0 (k + 1) f fd ps (spOf K n B) := by
  refine F.ok Sc (fun vs H Q E h => by rw [h.1, hn]) (fun cdv A outer s H vs Q E hr h => ?_)
  obtain ⟨hl, Zh, ds, S, Φ, hS, hR, hB, hP⟩ := h
  have hat := at_def (P := P) (w := w) (K := K) (mg := mg) (base := base) (qual := qual) (f := f) (cd := cdv) (A := A) (outer := outer) (s := s) (H := H) (E := E) (tbOk_of ht) (tbOk_cov ht) Sc hr
  rw [hnm] at hat
  have b := body _ hat ds S Φ (by rw [← hR.length]; exact hl) hB
  refine ⟨_, pss_w, b.tw (ev_start hS hR) ?_⟩
  have fin : ∀ v H' d S', Step S H S' H' → Store K Zh H' S' → Rep K (keys S' ++ Zh) H' d v → RetP S Φ d S' → Q v H' := fun v H' d S' t s' r q => by
    have sub : ∀ {S2 R : Sto}, keys S2 = keys S → ∀ p, p ∈ keys S ++ Zh → p ∈ keys (S2 ++ R) ++ Zh := fun {S2 R} h p m => by
      rw [keys_append, h]
      rcases List.mem_append.mp m with z | z
      · exact List.mem_append_left _ (List.mem_append_left _ z)
      · exact List.mem_append_right _ z
    cases q with
    | mk h q =>
      rename_i S2 R
      exact hP v H' d S2 h t.1 s'.drop (r.shrink (sub h)) q
    | cell h m q =>
      rename_i p l S2 R
      obtain ⟨vs, h1, h2⟩ := s'.st p l (List.mem_append_right _ m)
      refine hP v H' (.lst l) S2 h t.1 s'.drop ?_ q
      rw [r.cell]
      unfold Rep
      refine ⟨p, vs, rfl, fun n => ?_, h1, h2.shrink (sub h)⟩
      have pk : p ∈ keys (S2 ++ R) := by
        rw [keys_append]
        exact List.mem_append_right _ (List.mem_map.mpr ⟨_, m, rfl⟩)
      rcases List.mem_append.mp n with z | z
      · have nd := s'.nd
        rw [keys_append, List.nodup_append] at nd
        exact nd.2.2 p (by rw [h]; exact z) p (List.mem_map.mpr ⟨_, m, rfl⟩) rfl
      · exact (s'.hid p z).1 pk
  exact ⟨fun σ' H' ρ' S' t ev q => fin .non H' .non S' t ev.st rep_non q, fin, fun _ _ _ _ _ _ q => q.elim, fun _ _ _ _ _ _ q => q.elim⟩
end
theorem sc_law : FnScope ["script", "tin", "top_so", "way_so", "k", "deeds_so", "one", "two", "three", "above_so", "got", "up_so", "between_so", "own", "row_so", "club_so", "flat_so", "lap", "due", "makers_so"] ["script"] (defScope (topS 73)) := ⟨rfl, rfl, rfl, by decide +kernel, rfl, by decide +kernel, by decide +kernel⟩
theorem ok_law {P : Program} {w : World} {K : PySem.W.Frag} {mg : Str → Option Value} {base : Heap} {f : Addr} {fd : FuncData} (M : Mod K w mg) (F : Fun K "law" "law" (topS 73) f fd) : FnOk P w K mg base CX0 11 f fd ["script"] (spOf K 1 cLaw) := by
  have d__law_box := ok__law_box (P := P) (w := w) (base := base) M
  have d__law_cells := ok__law_cells (P := P) (w := w) (base := base) M
  have d_least_up := ok_least_up (P := P) (w := w) (base := base) M
  have d_is_level := ok_is_level (P := P) (w := w) (base := base) M
  have d__law_same := ok__law_same (P := P) (w := w) (base := base) M 3
  refine fn_ok (n := 1) (B := cLaw) (tb := tb_law) F sc_law rfl (names := nm_law) rfl (by decide +kernel) fun X A ds S Φ hl h => ?_
  have G := M.nob
  have v_script := A.var "script" 0 (by decide +kernel)
  have s_script := A.stv "script" 0 (by decide +kernel)
  have l_script := A.lcv "script" 0 (by decide +kernel)
  have v_tin := A.var "tin" 1 (by decide +kernel)
  have s_tin := A.stv "tin" 1 (by decide +kernel)
  have v_top_so := A.var "top_so" 2 (by decide +kernel)
  have s_top_so := A.stv "top_so" 2 (by decide +kernel)
  have v_way_so := A.var "way_so" 3 (by decide +kernel)
  have s_way_so := A.stv "way_so" 3 (by decide +kernel)
  have v_k := A.var "k" 4 (by decide +kernel)
  have s_k := A.stv "k" 4 (by decide +kernel)
  have l_k := A.lcv "k" 4 (by decide +kernel)
  have v_deeds_so := A.var "deeds_so" 5 (by decide +kernel)
  have s_deeds_so := A.stv "deeds_so" 5 (by decide +kernel)
  have l_deeds_so := A.lcv "deeds_so" 5 (by decide +kernel)
  have v_one := A.var "one" 6 (by decide +kernel)
  have s_one := A.stv "one" 6 (by decide +kernel)
  have l_one := A.lcv "one" 6 (by decide +kernel)
  have v_two := A.var "two" 7 (by decide +kernel)
  have s_two := A.stv "two" 7 (by decide +kernel)
  have l_two := A.lcv "two" 7 (by decide +kernel)
  have v_three := A.var "three" 8 (by decide +kernel)
  have s_three := A.stv "three" 8 (by decide +kernel)
  have l_three := A.lcv "three" 8 (by decide +kernel)
  have v_above_so := A.var "above_so" 9 (by decide +kernel)
  have s_above_so := A.stv "above_so" 9 (by decide +kernel)
  have l_above_so := A.lcv "above_so" 9 (by decide +kernel)
  have v_got := A.var "got" 10 (by decide +kernel)
  have s_got := A.stv "got" 10 (by decide +kernel)
  have l_got := A.lcv "got" 10 (by decide +kernel)
  have v_up_so := A.var "up_so" 11 (by decide +kernel)
  have s_up_so := A.stv "up_so" 11 (by decide +kernel)
  have l_up_so := A.lcv "up_so" 11 (by decide +kernel)
  have v_between_so := A.var "between_so" 12 (by decide +kernel)
  have s_between_so := A.stv "between_so" 12 (by decide +kernel)
  have l_between_so := A.lcv "between_so" 12 (by decide +kernel)
  have v_own := A.var "own" 13 (by decide +kernel)
  have s_own := A.stv "own" 13 (by decide +kernel)
  have l_own := A.lcv "own" 13 (by decide +kernel)
  have v_row_so := A.var "row_so" 14 (by decide +kernel)
  have s_row_so := A.stv "row_so" 14 (by decide +kernel)
  have l_row_so := A.lcv "row_so" 14 (by decide +kernel)
  have v_club_so := A.var "club_so" 15 (by decide +kernel)
  have s_club_so := A.stv "club_so" 15 (by decide +kernel)
  have v_flat_so := A.var "flat_so" 16 (by decide +kernel)
  have s_flat_so := A.stv "flat_so" 16 (by decide +kernel)
  have l_flat_so := A.lcv "flat_so" 16 (by decide +kernel)
  have v_lap := A.var "lap" 17 (by decide +kernel)
  have s_lap := A.stv "lap" 17 (by decide +kernel)
  have l_lap := A.lcv "lap" 17 (by decide +kernel)
  have v_due := A.var "due" 18 (by decide +kernel)
  have s_due := A.stv "due" 18 (by decide +kernel)
  have l_due := A.lcv "due" 18 (by decide +kernel)
  have v_makers_so := A.var "makers_so" 19 (by decide +kernel)
  have s_makers_so := A.stv "makers_so" 19 (by decide +kernel)
  have l_makers_so := A.lcv "makers_so" 19 (by decide +kernel)
  have g__law_box := A.glo "_law_box" (by decide +kernel)
  have g__law_cells := A.glo "_law_cells" (by decide +kernel)
  have g__law_of := A.glo "_law_of" (by decide +kernel)
  have g__law_take := A.glo "_law_take" (by decide +kernel)
  have g__law_whole := A.glo "_law_whole" (by decide +kernel)
  have g_tuple := A.glo "tuple" (by decide +kernel)
  have g_range := A.glo "range" (by decide +kernel)
  have g__law_deed := A.glo "_law_deed" (by decide +kernel)
  have g_list := A.glo "list" (by decide +kernel)
  have g__law_height := A.glo "_law_height" (by decide +kernel)
  have g_is_above := A.glo "is_above" (by decide +kernel)
  have g_is_up := A.glo "is_up" (by decide +kernel)
  have g_up_or_undone := A.glo "up_or_undone" (by decide +kernel)
  have g__law_same := A.glo "_law_same" (by decide +kernel)
  have g__law_undo := A.glo "_law_undo" (by decide +kernel)
  have g__law_join := A.glo "_law_join" (by decide +kernel)
  have g__law_lead := A.glo "_law_lead" (by decide +kernel)
  have g_lies_between := A.glo "lies_between" (by decide +kernel)
  have g_sorted := A.glo "sorted" (by decide +kernel)
  have g_in_order := A.glo "in_order" (by decide +kernel)
  have g__law_mixed := A.glo "_law_mixed" (by decide +kernel)
  have g_lowest := A.glo "lowest" (by decide +kernel)
  have g_highest := A.glo "highest" (by decide +kernel)
  have g__law_finite := A.glo "_law_finite" (by decide +kernel)
  have g_level := A.glo "level" (by decide +kernel)
  have g__law_times := A.glo "_law_times" (by decide +kernel)
  have g__law_makers := A.glo "_law_makers" (by decide +kernel)
  have g_has := A.glo "has" (by decide +kernel)
  have g_is_level := A.glo "is_level" (by decide +kernel)
  have g_len := A.glo "len" (by decide +kernel)
  have g_least_up := A.glo "least_up" (by decide +kernel)
  obtain ⟨is, rfl, hlen, rfl, h⟩ := h
  (change DSs X _ [some (.frz (is.map D.int)), none, none, none, none, none, none, none, none, none, none, none, none, none, none, none, none, none, none, none] _ _; (first | refine ds_one ?_ | refine ds_cons ?_))
  refine vCell A (by assumption) ?_ ?_
  exact rfl
  refine vNCall A d__law_box (by assumption) rfl rfl rfl ?_
  repeat walk_at "dw"
  refine ⟨by decide, by decide, hlen, fun js hj => ?_⟩
  repeat walk_at "dw"
  refine ⟨by decide, by decide, by omega, fun l0 ht0 => ?_⟩
  intro c
  rw [List.nil_append]
  (with_reducible apply nx_norm)
  walk_at "dnorm"
  with_reducible refine nx_mk ?_
  refine ds_cons ?_
  refine ds_for A (fun _ => rfl) ?_
  refine di_tup ?_
  repeat walk_at "dw"
  refine do_pow ⟨by decide, by decide, by decide⟩ ?_
  repeat walk_at "dw"
  refine for_ind (fun ds ρ S' => (∀ d, d ∈ ds → ∃ top, d = .int top ∧ 0 ≤ top ∧ Bd 1000 top) ∧ ∃ (b : Nat) (l' : List D) (w2 w3 w4 w5 w6 w7 w8 w9 w10 w11 w12 w13 w14 w15 w16 w17 w18 w19 : Option D), Tin b l' ∧ b + 150 * ds.length ≤ 400 ∧ S' = (c, l') :: [] ∧ ρ = [some (.frz (is.map D.int)), some (.cell c), w2, w3, w4, w5, w6, w7, w8, w9, w10, w11, w12, w13, w14, w15, w16, w17, w18, w19]) ?_ ?_ ?_
  · rintro d ds ρ S' ⟨hd, b, l1, w2, w3, w4, w5, w6, w7, w8, w9, w10, w11, w12, w13, w14, w15, w16, w17, w18, w19, ht, hb, rfl, rfl⟩
    obtain ⟨top, rfl, h0, htb⟩ := hd _ List.mem_cons_self
    rw [List.length_cons] at hb
    refine vG A (by assumption) rfl ?_
    (with_reducible apply nxG_norm)
    walk_at "dnorm"
    refine seg_A M A h0 htb ht (by omega) (fun p q lt hw ht1 => ?_)
    refine seg_B M A h0 htb hw ht1 (by omega) (fun l u4 lt2 hl0 hl hlb ht2 => ?_)
    refine seg_C M A h0 htb hw hl0 hl hlb ht2 (by omega) (fun x1 y1 z1 x2 y2 z2 x3 y3 z3 lt3 k1 k2 k3 ht3 => ?_)
    refine seg_D (b := 0) M A hw k1 k2 k3 (fun u10 u11 => ?_)
    refine seg_E (b := 0) M A hw k1 k2 k3 (fun u10 u12 => ?_)
    refine seg_F M A hw hl0 hl hlb ht3 (by omega) (fun u13 u14 lt4 ht4 => ?_)
    refine ds_nil ?_
    exact .mk ⟨fun d hd3 => hd d (List.mem_cons_of_mem _ hd3), _, lt4, _, _, _, _, _, _, _, _, _, _, _, _, _, _, _, _, _, _, ht4, by omega, rfl, rfl⟩
  · rintro ρ S' ⟨_, b, l1, w2, w3, w4, w5, w6, w7, w8, w9, w10, w11, w12, w13, w14, w15, w16, w17, w18, w19, ht, hb, rfl, rfl⟩
    rw [List.length_nil] at hb
    refine seg_T M A ht (by omega) (fun a bb u e v c0 p q x0 y0 z0 lt hF hw hq hL ht1 => ?_)
    refine ds_cons ?_
    refine ds_for A (fun _ => rfl) ?_
    repeat walk_at "dw"
    refine for_ind (fun ds ρ S' => ∃ (b : Nat) (l' : List D) (w2 w4 w5 w6 w7 w8 w9 w10 w11 w12 w13 w14 w17 w18 w19 : Option D), Tin b l' ∧ b + 9 * ds.length ≤ 1000 ∧ S' = (c, l') :: [] ∧ ρ = [some (.frz (is.map D.int)), some (.cell c), w2, some (p2 p q), w4, w5, w6, w7, w8, w9, w10, w11, w12, w13, w14, some (fullD a bb u e v c0), some (lineD x0 y0 z0 c0), w17, w18, w19]) ?_ ?_ ?_
    · rintro d ds ρ S' ⟨b2, l2, w2, w4, w5, w6, w7, w8, w9, w10, w11, w12, w13, w14, w17, w18, w19, ht2, hb2, rfl, rfl⟩
      rw [List.length_cons] at hb2
      refine vG A (by assumption) rfl ?_
      (with_reducible apply nxG_norm)
      walk_at "dnorm"
      refine seg_V M A hF hq hw hL ht2 (by omega) (fun u4 u13 u18 lt3 ht3 => ?_)
      exact .mk ⟨_, lt3, _, _, _, _, _, _, _, _, _, _, _, _, _, _, _, ht3, by omega, rfl, rfl⟩
    · rintro ρ S' ⟨b2, l2, w2, w4, w5, w6, w7, w8, w9, w10, w11, w12, w13, w14, w17, w18, w19, ht2, hb2, rfl, rfl⟩
      rw [List.length_nil] at hb2
      refine seg_W M A hF hq hw hL ht2 (by omega) (fun u13 u19 => ?_)
      have hc0 := hF.c0
      have hw1 : WayB 1 0 := ⟨rfl, Bd.lit rfl, Bd.lit rfl⟩
      have z2 : Bd 2000 (0 : Int) := Bd.lit rfl
      have c2 : Bd 2000 c0 := hF.cb.mono (by decide)
      obtain ⟨i2, j2, o2, hp2, hi2⟩ := full_part hF (mem_cen (a := a) (b := bb) (u := u) (e := e) (v := v) (c := c0))
      refine ds_cons ?_
      repeat walk_at "dw"
      refine ⟨p, q, _, c0, rfl, hw, .inl ⟨_, _, _, _, _, rfl, hF⟩, hc0, ?_⟩
      repeat walk_at "dw"
      refine ⟨p, q, _, 7, rfl, hw, .inr ⟨rfl, ⟨by decide, Bd.lit rfl⟩⟩, by decide, ?_⟩
      repeat walk_at "dw"
      refine ⟨rfl, rfl, ?_⟩
      exact RetP.mk (S2 := []) (R := _) rfl (h _)
    · exact ⟨_, lt, _, _, _, _, _, _, _, _, _, _, _, _, _, _, _, ht1, by rw [rangeD_len]; omega, rfl, rfl⟩
  · refine ⟨fun d hd => ?_, 0, l0, _, _, _, _, _, _, _, _, _, _, _, _, _, _, _, _, _, _, ht0, by decide, rfl, rfl⟩
    simp only [List.mem_cons, List.not_mem_nil, or_false] at hd
    rcases hd with rfl | rfl
    · exact ⟨2, rfl, by decide, Bd.lit (n := 1000) rfl⟩
    · exact ⟨_, rfl, by decide, Bd.lit (n := 1000) rfl⟩

end Ar
namespace Ar
open PySem PySem.Spec PyProof.Rows L2


theorem has_mk {K : PySem.W.Frag} {h : Heap} {mg : Str → Option Value} {x : Str} {st : Stmt} {f : Addr} {ps : List Str} {od an : Option Addr} {sl : Array (Option Value)} {oc kV dc pm cd ct : Value} (X : K.In h) (G : h.Ns mainGlobals mg)
    (a : PySem.W.nsIn K mainGlobals x = some (some (.ref f))) (l : K.lookup f = some ⟨oc, od, .func (PySem.W.fnOf x x (defArgs st) (defBody st) (defScope st) .none kV dc pm an cd ct), sl⟩) (c : PySem.W.codeIn K cd x = true) (k : PySem.W.keepIn K (.ref f) = true)
    (b : ∀ (kV doc pm : Value) (an : Option Addr) (cdv ct : Value) (us : List Value), us.length = ps.length → bindArgs (PySem.W.fnOf x x (defArgs st) (defBody st) (defScope st) .none kV doc pm an cdv ct) ⟨us, []⟩ = pure (ps.zip us)) : Has K mg x st ps := by
  have F := fun_mk (st := st) l c k
  exact ⟨f, _, F, PySem.W.mg_of X G a, F.binds b⟩
theorem law_mk {K : PySem.W.Frag} {h : Heap} {mg : Str → Option Value} {x : Str} {st : Stmt} {f fa : Addr} {od an : Option Addr} {sl : Array (Option Value)} {oc kV dc pm cd ct : Value} (X : K.In h) (G : h.Ns mainGlobals mg) (hmg : mg x = some (.ref fa))
    (a : PySem.W.nsIn K mainGlobals x = some (some (.ref f))) (l : K.lookup f = some ⟨oc, od, .func (PySem.W.fnOf x x (defArgs st) (defBody st) (defScope st) .none kV dc pm an cd ct), sl⟩) (c : PySem.W.codeIn K cd x = true) (k : PySem.W.keepIn K (.ref f) = true)
    (b : ∀ (kV doc pm : Value) (an : Option Addr) (cdv ct : Value) (us : List Value), us.length = 1 → bindArgs (PySem.W.fnOf x x (defArgs st) (defBody st) (defScope st) .none kV doc pm an cdv ct) ⟨us, []⟩ = pure ((["script"] : List Str).zip us)) : ∃ fd, Fun K x x st fa fd ∧ ∀ (s : Shared) (u : Value), BindsTo s fd ⟨[u], []⟩ [("script", u)] := by
  have e := (PySem.W.mg_of X G a).symm.trans hmg
  cases e
  exact ⟨_, fun_mk (st := st) l c k, fun s u => .of_eq (b kV dc pm an cd ct [u] rfl)⟩
theorem Fun_has {K : PySem.W.Frag} {mg : Str → Option Value} {x : Str} {st : Stmt} {fa : Addr} {fd : FuncData} (F : Fun K x x st fa fd) (hmg : mg x = some (.ref fa)) (b : ∀ (s : Shared) (u : Value), BindsTo s fd ⟨[u], []⟩ [("script", u)]) : Has K mg x st ["script"] :=
  ⟨fa, fd, F, hmg, fun s us _ hl => by
    match us, hl with
    | [u], _ => exact b s u⟩
theorem glob_t3 {K : PySem.W.Frag} {h : Heap} {mg : Str → Option Value} {x : Str} {p : Addr} {od : Option Addr} {sl : Array (Option Value)} {i j k : Int} {t1 t2 t3' : Tok} {n : Nat} (X : K.In h) (G : h.Ns mainGlobals mg) (a : PySem.W.nsIn K mainGlobals x = some (some (.ref p)))
    (l : K.lookup p = some ⟨.type "tuple", od, .seq #[.int i t1, .int j t2, .int k t3'] n, sl⟩) : GlobD K mg x (t3 i j k) := by
  refine ⟨_, .ref p, PySem.W.mg_of X G a, rfl, fun Z H => ?_⟩
  unfold Rep
  exact ⟨p, [.int i, .int j, .int k], rfl, .inr ⟨_, _, n, l, rfl, rfl, sz rfl, .cons ⟨_, rfl⟩ (.cons ⟨_, rfl⟩ (.cons ⟨_, rfl⟩ .nil))⟩, .cons rep_int (.cons rep_int (.cons rep_int .nil))⟩
theorem rep_t3 {K : PySem.W.Frag} {q : Addr} {od : Option Addr} {sl : Array (Option Value)} {i j k : Int} {t u v : Tok} {n : Nat} (l : K.lookup q = some ⟨.type "tuple", od, .seq #[.int i t, .int j u, .int k v] n, sl⟩) (Z : List Addr) (H : Hp) : Rep K Z H (t3 i j k) (.ref q) := by
  unfold Rep
  exact ⟨q, [.int i, .int j, .int k], rfl, .inr ⟨_, _, n, l, rfl, rfl, sz rfl, .cons ⟨_, rfl⟩ (.cons ⟨_, rfl⟩ (.cons ⟨_, rfl⟩ .nil))⟩, .cons rep_int (.cons rep_int (.cons rep_int .nil))⟩
theorem glob_mp {K : PySem.W.Frag} {h : Heap} {mg : Str → Option Value} {x : Str} {p q1 q2 : Addr} {od od1 od2 : Option Addr} {sl sl1 sl2 : Array (Option Value)} {i j k i' j' k' : Int} {a1 a2 a3 b1 b2 b3 : Tok} {n n1 n2 : Nat} (X : K.In h) (G : h.Ns mainGlobals mg) (a : PySem.W.nsIn K mainGlobals x = some (some (.ref p)))
    (l : K.lookup p = some ⟨.type "tuple", od, .seq #[.ref q1, .ref q2] n, sl⟩) (l1 : K.lookup q1 = some ⟨.type "tuple", od1, .seq #[.int i a1, .int j a2, .int k a3] n1, sl1⟩) (l2 : K.lookup q2 = some ⟨.type "tuple", od2, .seq #[.int i' b1, .int j' b2, .int k' b3] n2, sl2⟩) : GlobD K mg x (.tup [t3 i j k, t3 i' j' k']) := by
  refine ⟨_, .ref p, PySem.W.mg_of X G a, rfl, fun Z H => ?_⟩
  unfold Rep
  exact ⟨p, [.ref q1, .ref q2], rfl, .inr ⟨_, _, n, l, rfl, rfl, sz rfl, .cons rfl (.cons rfl .nil)⟩, .cons (rep_t3 l1 Z H) (.cons (rep_t3 l2 Z H) .nil)⟩
theorem glob_empty {K : PySem.W.Frag} {h : Heap} {mg : Str → Option Value} {x : Str} {p : Addr} {od : Option Addr} {sl : Array (Option Value)} {k : Int} {t3' : Tok} {n : Nat} (X : K.In h) (G : h.Ns mainGlobals mg) (a : PySem.W.nsIn K mainGlobals x = some (some (.ref p)))
    (l : K.lookup p = some ⟨.type "tuple", od, .seq #[.none, .none, .int k t3'] n, sl⟩) : GlobD K mg x (.tup [.non, .non, .int k]) := by
  refine ⟨_, .ref p, PySem.W.mg_of X G a, rfl, fun Z H => ?_⟩
  unfold Rep
  exact ⟨p, [.non, .non, .int k], rfl, .inr ⟨_, _, n, l, rfl, rfl, sz rfl, .cons rfl (.cons rfl (.cons ⟨_, rfl⟩ .nil))⟩, .cons rep_non (.cons rep_non (.cons rep_int .nil))⟩
theorem glob_int {K : PySem.W.Frag} {h : Heap} {mg : Str → Option Value} {x : Str} {i : Int} {t : Tok} (X : K.In h) (G : h.Ns mainGlobals mg) (a : PySem.W.nsIn K mainGlobals x = some (some (.int i t))) : GlobD K mg x (.int i) := ⟨_, .int i, PySem.W.mg_of X G a, ⟨_, rfl⟩, fun Z H => rep_int⟩
theorem glob_str {K : PySem.W.Frag} {h : Heap} {mg : Str → Option Value} {x i : Str} {t : Tok} (X : K.In h) (G : h.Ns mainGlobals mg) (a : PySem.W.nsIn K mainGlobals x = some (some (.str i t))) : GlobD K mg x (.str i) := ⟨_, .str i, PySem.W.mg_of X G a, ⟨_, rfl⟩, fun Z H => rep_str⟩
theorem nob_mk {K : PySem.W.Frag} {h : Heap} {mg : Str → Option Value} (X : K.In h) (G : h.Ns mainGlobals mg) (z : ∀ x, x ∈ (["len", "abs", "int", "isinstance", "all", "any", "sum", "tuple", "list", "range", "zip", "enumerate", "bool", "str", "min", "max", "sorted", "divmod", "set", "dict", "pow", "ord", "chr", "reversed", "type"] : List Str) → PySem.W.nsIn K mainGlobals x = some none) : NoB mg := ⟨fun x hx => PySem.W.mg_none_of X G (z x (by
  unfold bltB at hx
  simp only [Bool.or_eq_true, beq_iff_eq] at hx
  simp only [List.mem_cons, List.not_mem_nil, or_false]
  simp only [or_assoc] at hx
  exact hx))⟩


theorem rep_pair {K : PySem.W.Frag} {q : Addr} {od : Option Addr} {sl : Array (Option Value)} {i j : Int} {t u : Tok} {n : Nat} (l : K.lookup q = some ⟨.type "tuple", od, .seq #[.int i t, .int j u] n, sl⟩) (Z : List Addr) (H : Hp) : Rep K Z H (.tup [.int i, .int j]) (.ref q) := by
  unfold Rep
  exact ⟨q, [.int i, .int j], rfl, .inr ⟨_, _, n, l, rfl, rfl, sz rfl, .cons ⟨_, rfl⟩ (.cons ⟨_, rfl⟩ .nil)⟩, .cons rep_int (.cons rep_int .nil)⟩
theorem dict_steps {K : PySem.W.Frag} {w : World} {h : Heap} {mg : Str → Option Value} {p : Addr} {es : Array DictEntry} {q1 q2 q3 q4 : Nat} {od1 od2 od3 od4 : Option Addr} {sl1 sl2 sl3 sl4 : Array (Option Value)} {t1 t2 t3 t4 u1 u2 u3 u4 : Tok} {n1 n2 n3 n4 m : Nat} (X : K.In h) (G : h.Ns mainGlobals mg) (a : PySem.W.nsIn K mainGlobals "STEPS" = some (some (.ref p)))
    (l : K.lookup p = some ⟨.type "dict", none, .dict es m, #[]⟩) (hk : PySem.W.KeysLit w.params es.toList)
    (r1 : PySem.W.nsIn K p "r" = some (some (.ref q1))) (l1 : K.lookup q1 = some ⟨.type "tuple", od1, .seq #[.int 1 t1, .int 0 u1] n1, sl1⟩) (r2 : PySem.W.nsIn K p "u" = some (some (.ref q2))) (l2 : K.lookup q2 = some ⟨.type "tuple", od2, .seq #[.int 0 t2, .int 1 u2] n2, sl2⟩) (r3 : PySem.W.nsIn K p "l" = some (some (.ref q3))) (l3 : K.lookup q3 = some ⟨.type "tuple", od3, .seq #[.int (-1) t3, .int 0 u3] n3, sl3⟩) (r4 : PySem.W.nsIn K p "d" = some (some (.ref q4))) (l4 : K.lookup q4 = some ⟨.type "tuple", od4, .seq #[.int 0 t4, .int (-1) u4] n4, sl4⟩) : DictG K w mg "STEPS" stepF := by
  refine ⟨p, PySem.W.mg_of X G a, fun z d hz => ?_⟩
  obtain ⟨⟨zs⟩⟩ := z
  unfold stepF at hz
  dsimp only at hz
  split at hz
  · cases hz
    exact ⟨.ref q1, ⟨es, m, _, l, hk, r1, rfl⟩, rep_pair l1⟩
  · cases hz
    exact ⟨.ref q2, ⟨es, m, _, l, hk, r2, rfl⟩, rep_pair l2⟩
  · cases hz
    exact ⟨.ref q3, ⟨es, m, _, l, hk, r3, rfl⟩, rep_pair l3⟩
  · cases hz
    exact ⟨.ref q4, ⟨es, m, _, l, hk, r4, rfl⟩, rep_pair l4⟩
  · cases hz


end Ar
namespace Ar
open PySem PySem.Spec PyProof.Rows L2


theorem law_spec {K : PySem.W.Frag} {H : Hp} {a : Addr} {ns : List Int} (hl : ns.length ≤ 63) (hS : SqL K H a (ns.map V.int)) : spOf K 1 cLaw [.ref a] H (fun v _ => v = .bl true) fun _ _ _ => False := by
  refine ⟨rfl, [], [.frz (ns.map D.int)], [], fun d _ => d = .bl true, ⟨List.nodup_nil, (by intro p l h; cases h), (by intro p h; cases h)⟩, .one ?_, ⟨ns, rfl, hl, rfl, fun _ => rfl⟩, fun v H' d S' _ _ _ r q => by subst q; exact r.bl⟩
  unfold Rep
  exact ⟨a, ns.map V.int, rfl, hS.imp (fun h => ⟨(by intro m; cases m), h⟩) id, RepL.of_ints ns⟩
end Ar
open PySem PySem.W PyProof.Rows in
set_option maxRecDepth 100000 in
set_option maxHeartbeats 0 in
theorem PySem.Challenge.cw_arearoutes_k28_whole_deeds_in_order_holds : PySem.Challenge.rw_arearoutes_k28_whole_deeds_in_order.Holds := by
  w_on; o_law; k_head; (case hw => w_witness2)
  k_fill
  refine L2.walk_of (l := PySem.Challenge.rw_arearoutes_k28_whole_deeds_in_order) (n := 63) (k := 11) (x := "script") (CX := fun _ => L2.CX0) (sp := fun w => Ar.spOf _ 1 Ar.cLaw) rfl (by decide) rfl ⟨rfl, by decide, by decide⟩ (fun w h Y => PySem.W.kIn_of Y) ?F (fun _ _ a ns hl _ hS => Ar.law_spec hl hS) (fun _ _ _ _ _ z => z)
  case F =>
    intro w mg fa h KX G hmg
    change mg "law" = some (.ref fa) at hmg
    have z_len : PySem.W.nsIn (L2.KOf KX) PySem.mainGlobals "len" = some none := by delta L2.KOf; k_is
    have z_abs : PySem.W.nsIn (L2.KOf KX) PySem.mainGlobals "abs" = some none := by delta L2.KOf; k_is
    have z_int : PySem.W.nsIn (L2.KOf KX) PySem.mainGlobals "int" = some none := by delta L2.KOf; k_is
    have z_isinstance : PySem.W.nsIn (L2.KOf KX) PySem.mainGlobals "isinstance" = some none := by delta L2.KOf; k_is
    have z_all : PySem.W.nsIn (L2.KOf KX) PySem.mainGlobals "all" = some none := by delta L2.KOf; k_is
    have z_any : PySem.W.nsIn (L2.KOf KX) PySem.mainGlobals "any" = some none := by delta L2.KOf; k_is
    have z_sum : PySem.W.nsIn (L2.KOf KX) PySem.mainGlobals "sum" = some none := by delta L2.KOf; k_is
    have z_tuple : PySem.W.nsIn (L2.KOf KX) PySem.mainGlobals "tuple" = some none := by delta L2.KOf; k_is
    have z_list : PySem.W.nsIn (L2.KOf KX) PySem.mainGlobals "list" = some none := by delta L2.KOf; k_is
    have z_range : PySem.W.nsIn (L2.KOf KX) PySem.mainGlobals "range" = some none := by delta L2.KOf; k_is
    have z_zip : PySem.W.nsIn (L2.KOf KX) PySem.mainGlobals "zip" = some none := by delta L2.KOf; k_is
    have z_enumerate : PySem.W.nsIn (L2.KOf KX) PySem.mainGlobals "enumerate" = some none := by delta L2.KOf; k_is
    have z_bool : PySem.W.nsIn (L2.KOf KX) PySem.mainGlobals "bool" = some none := by delta L2.KOf; k_is
    have z_str : PySem.W.nsIn (L2.KOf KX) PySem.mainGlobals "str" = some none := by delta L2.KOf; k_is
    have z_min : PySem.W.nsIn (L2.KOf KX) PySem.mainGlobals "min" = some none := by delta L2.KOf; k_is
    have z_max : PySem.W.nsIn (L2.KOf KX) PySem.mainGlobals "max" = some none := by delta L2.KOf; k_is
    have z_sorted : PySem.W.nsIn (L2.KOf KX) PySem.mainGlobals "sorted" = some none := by delta L2.KOf; k_is
    have z_divmod : PySem.W.nsIn (L2.KOf KX) PySem.mainGlobals "divmod" = some none := by delta L2.KOf; k_is
    have z_set : PySem.W.nsIn (L2.KOf KX) PySem.mainGlobals "set" = some none := by delta L2.KOf; k_is
    have z_dict : PySem.W.nsIn (L2.KOf KX) PySem.mainGlobals "dict" = some none := by delta L2.KOf; k_is
    have z_pow : PySem.W.nsIn (L2.KOf KX) PySem.mainGlobals "pow" = some none := by delta L2.KOf; k_is
    have z_ord : PySem.W.nsIn (L2.KOf KX) PySem.mainGlobals "ord" = some none := by delta L2.KOf; k_is
    have z_chr : PySem.W.nsIn (L2.KOf KX) PySem.mainGlobals "chr" = some none := by delta L2.KOf; k_is
    have z_reversed : PySem.W.nsIn (L2.KOf KX) PySem.mainGlobals "reversed" = some none := by delta L2.KOf; k_is
    have z_type : PySem.W.nsIn (L2.KOf KX) PySem.mainGlobals "type" = some none := by delta L2.KOf; k_is
    have h_is_number : Ar.Has (L2.KOf KX) mg "is_number" (Ar.topS 4) ["thing"] := by
      delta L2.KOf
      refine' Ar.has_mk KX G ?a ?l ?c ?k ?b
      (case a => k_is)
      (case l => k_is)
      (case c => k_is)
      (case k => k_is)
      (case b => exact fun _ _ _ _ _ _ us hl => match us, hl with | [_], _ => rfl)
    have h_is_from : Ar.Has (L2.KOf KX) mg "is_from" (Ar.topS 5) ["thing", "least"] := by
      delta L2.KOf
      refine' Ar.has_mk KX G ?a ?l ?c ?k ?b
      (case a => k_is)
      (case l => k_is)
      (case c => k_is)
      (case k => k_is)
      (case b => exact fun _ _ _ _ _ _ us hl => match us, hl with | [_, _], _ => rfl)
    have h_is_long : Ar.Has (L2.KOf KX) mg "is_long" (Ar.topS 6) ["thing", "length"] := by
      delta L2.KOf
      refine' Ar.has_mk KX G ?a ?l ?c ?k ?b
      (case a => k_is)
      (case l => k_is)
      (case c => k_is)
      (case k => k_is)
      (case b => exact fun _ _ _ _ _ _ us hl => match us, hl with | [_, _], _ => rfl)
    have h_tupled : Ar.Has (L2.KOf KX) mg "tupled" (Ar.topS 7) ["value"] := by
      delta L2.KOf
      refine' Ar.has_mk KX G ?a ?l ?c ?k ?b
      (case a => k_is)
      (case l => k_is)
      (case c => k_is)
      (case k => k_is)
      (case b => exact fun _ _ _ _ _ _ us hl => match us, hl with | [_], _ => rfl)
    have h_are_numbers : Ar.Has (L2.KOf KX) mg "are_numbers" (Ar.topS 8) ["thing"] := by
      delta L2.KOf
      refine' Ar.has_mk KX G ?a ?l ?c ?k ?b
      (case a => k_is)
      (case l => k_is)
      (case c => k_is)
      (case k => k_is)
      (case b => exact fun _ _ _ _ _ _ us hl => match us, hl with | [_], _ => rfl)
    have h_are_from : Ar.Has (L2.KOf KX) mg "are_from" (Ar.topS 9) ["thing", "least"] := by
      delta L2.KOf
      refine' Ar.has_mk KX G ?a ?l ?c ?k ?b
      (case a => k_is)
      (case l => k_is)
      (case c => k_is)
      (case k => k_is)
      (case b => exact fun _ _ _ _ _ _ us hl => match us, hl with | [_, _], _ => rfl)
    have h_is_row_of : Ar.Has (L2.KOf KX) mg "is_row_of" (Ar.topS 10) ["thing", "many", "least"] := by
      delta L2.KOf
      refine' Ar.has_mk KX G ?a ?l ?c ?k ?b
      (case a => k_is)
      (case l => k_is)
      (case c => k_is)
      (case k => k_is)
      (case b => exact fun _ _ _ _ _ _ us hl => match us, hl with | [_, _, _], _ => rfl)
    have h_is_pair : Ar.Has (L2.KOf KX) mg "is_pair" (Ar.topS 11) ["thing"] := by
      delta L2.KOf
      refine' Ar.has_mk KX G ?a ?l ?c ?k ?b
      (case a => k_is)
      (case l => k_is)
      (case c => k_is)
      (case k => k_is)
      (case b => exact fun _ _ _ _ _ _ us hl => match us, hl with | [_], _ => rfl)
    have h_common : Ar.Has (L2.KOf KX) mg "common" (Ar.topS 12) ["one", "other"] := by
      delta L2.KOf
      refine' Ar.has_mk KX G ?a ?l ?c ?k ?b
      (case a => k_is)
      (case l => k_is)
      (case c => k_is)
      (case k => k_is)
      (case b => exact fun _ _ _ _ _ _ us hl => match us, hl with | [_, _], _ => rfl)
    have h_pairs_of : Ar.Has (L2.KOf KX) mg "pairs_of" (Ar.topS 13) ["number"] := by
      delta L2.KOf
      refine' Ar.has_mk KX G ?a ?l ?c ?k ?b
      (case a => k_is)
      (case l => k_is)
      (case c => k_is)
      (case k => k_is)
      (case b => exact fun _ _ _ _ _ _ us hl => match us, hl with | [_], _ => rfl)
    have h_is_triple : Ar.Has (L2.KOf KX) mg "is_triple" (Ar.topS 14) ["thing"] := by
      delta L2.KOf
      refine' Ar.has_mk KX G ?a ?l ?c ?k ?b
      (case a => k_is)
      (case l => k_is)
      (case c => k_is)
      (case k => k_is)
      (case b => exact fun _ _ _ _ _ _ us hl => match us, hl with | [_], _ => rfl)
    have h_rest : Ar.Has (L2.KOf KX) mg "rest" (Ar.topS 15) ["number", "many"] := by
      delta L2.KOf
      refine' Ar.has_mk KX G ?a ?l ?c ?k ?b
      (case a => k_is)
      (case l => k_is)
      (case c => k_is)
      (case k => k_is)
      (case b => exact fun _ _ _ _ _ _ us hl => match us, hl with | [_, _], _ => rfl)
    have h_divides : Ar.Has (L2.KOf KX) mg "divides" (Ar.topS 16) ["many", "number"] := by
      delta L2.KOf
      refine' Ar.has_mk KX G ?a ?l ?c ?k ?b
      (case a => k_is)
      (case l => k_is)
      (case c => k_is)
      (case k => k_is)
      (case b => exact fun _ _ _ _ _ _ us hl => match us, hl with | [_, _], _ => rfl)
    have h_is_deed : Ar.Has (L2.KOf KX) mg "is_deed" (Ar.topS 19) ["thing"] := by
      delta L2.KOf
      refine' Ar.has_mk KX G ?a ?l ?c ?k ?b
      (case a => k_is)
      (case l => k_is)
      (case c => k_is)
      (case k => k_is)
      (case b => exact fun _ _ _ _ _ _ us hl => match us, hl with | [_], _ => rfl)
    have h_sure_deed : Ar.Has (L2.KOf KX) mg "sure_deed" (Ar.topS 20) ["value"] := by
      delta L2.KOf
      refine' Ar.has_mk KX G ?a ?l ?c ?k ?b
      (case a => k_is)
      (case l => k_is)
      (case c => k_is)
      (case k => k_is)
      (case b => exact fun _ _ _ _ _ _ us hl => match us, hl with | [_], _ => rfl)
    have h_sure_deeds : Ar.Has (L2.KOf KX) mg "sure_deeds" (Ar.topS 21) ["value"] := by
      delta L2.KOf
      refine' Ar.has_mk KX G ?a ?l ?c ?k ?b
      (case a => k_is)
      (case l => k_is)
      (case c => k_is)
      (case k => k_is)
      (case b => exact fun _ _ _ _ _ _ us hl => match us, hl with | [_], _ => rfl)
    have h_joined : Ar.Has (L2.KOf KX) mg "joined" (Ar.topS 22) ["one", "other"] := by
      delta L2.KOf
      refine' Ar.has_mk KX G ?a ?l ?c ?k ?b
      (case a => k_is)
      (case l => k_is)
      (case c => k_is)
      (case k => k_is)
      (case b => exact fun _ _ _ _ _ _ us hl => match us, hl with | [_, _], _ => rfl)
    have h_undone_in : Ar.Has (L2.KOf KX) mg "undone_in" (Ar.topS 23) ["deed"] := by
      delta L2.KOf
      refine' Ar.has_mk KX G ?a ?l ?c ?k ?b
      (case a => k_is)
      (case l => k_is)
      (case c => k_is)
      (case k => k_is)
      (case b => exact fun _ _ _ _ _ _ us hl => match us, hl with | [_], _ => rfl)
    have h_times_in : Ar.Has (L2.KOf KX) mg "times_in" (Ar.topS 24) ["deed", "many"] := by
      delta L2.KOf
      refine' Ar.has_mk KX G ?a ?l ?c ?k ?b
      (case a => k_is)
      (case l => k_is)
      (case c => k_is)
      (case k => k_is)
      (case b => exact fun _ _ _ _ _ _ us hl => match us, hl with | [_, _], _ => rfl)
    have h_crossed : Ar.Has (L2.KOf KX) mg "crossed" (Ar.topS 25) ["one", "other"] := by
      delta L2.KOf
      refine' Ar.has_mk KX G ?a ?l ?c ?k ?b
      (case a => k_is)
      (case l => k_is)
      (case c => k_is)
      (case k => k_is)
      (case b => exact fun _ _ _ _ _ _ us hl => match us, hl with | [_, _], _ => rfl)
    have h_is_first : Ar.Has (L2.KOf KX) mg "is_first" (Ar.topS 28) ["own", "centre"] := by
      delta L2.KOf
      refine' Ar.has_mk KX G ?a ?l ?c ?k ?b
      (case a => k_is)
      (case l => k_is)
      (case c => k_is)
      (case k => k_is)
      (case b => exact fun _ _ _ _ _ _ us hl => match us, hl with | [_, _], _ => rfl)
    have h_is_second : Ar.Has (L2.KOf KX) mg "is_second" (Ar.topS 29) ["own", "centre"] := by
      delta L2.KOf
      refine' Ar.has_mk KX G ?a ?l ?c ?k ?b
      (case a => k_is)
      (case l => k_is)
      (case c => k_is)
      (case k => k_is)
      (case b => exact fun _ _ _ _ _ _ us hl => match us, hl with | [_, _], _ => rfl)
    have h_is_club : Ar.Has (L2.KOf KX) mg "is_club" (Ar.topS 30) ["thing"] := by
      delta L2.KOf
      refine' Ar.has_mk KX G ?a ?l ?c ?k ?b
      (case a => k_is)
      (case l => k_is)
      (case c => k_is)
      (case k => k_is)
      (case b => exact fun _ _ _ _ _ _ us hl => match us, hl with | [_], _ => rfl)
    have h_sure_club : Ar.Has (L2.KOf KX) mg "sure_club" (Ar.topS 31) ["value"] := by
      delta L2.KOf
      refine' Ar.has_mk KX G ?a ?l ?c ?k ?b
      (case a => k_is)
      (case l => k_is)
      (case c => k_is)
      (case k => k_is)
      (case b => exact fun _ _ _ _ _ _ us hl => match us, hl with | [_], _ => rfl)
    have h_exchanged : Ar.Has (L2.KOf KX) mg "exchanged" (Ar.topS 32) ["known", "own", "place"] := by
      delta L2.KOf
      refine' Ar.has_mk KX G ?a ?l ?c ?k ?b
      (case a => k_is)
      (case l => k_is)
      (case c => k_is)
      (case k => k_is)
      (case b => exact fun _ _ _ _ _ _ us hl => match us, hl with | [_, _, _], _ => rfl)
    have h_plain_form : Ar.Has (L2.KOf KX) mg "plain_form" (Ar.topS 33) ["first", "second", "centre"] := by
      delta L2.KOf
      refine' Ar.has_mk KX G ?a ?l ?c ?k ?b
      (case a => k_is)
      (case l => k_is)
      (case c => k_is)
      (case k => k_is)
      (case b => exact fun _ _ _ _ _ _ us hl => match us, hl with | [_, _, _], _ => rfl)
    have h_with_deed : Ar.Has (L2.KOf KX) mg "with_deed" (Ar.topS 34) ["club", "deed"] := by
      delta L2.KOf
      refine' Ar.has_mk KX G ?a ?l ?c ?k ?b
      (case a => k_is)
      (case l => k_is)
      (case c => k_is)
      (case k => k_is)
      (case b => exact fun _ _ _ _ _ _ us hl => match us, hl with | [_, _], _ => rfl)
    have h_made_by : Ar.Has (L2.KOf KX) mg "made_by" (Ar.topS 35) ["deeds"] := by
      delta L2.KOf
      refine' Ar.has_mk KX G ?a ?l ?c ?k ?b
      (case a => k_is)
      (case l => k_is)
      (case c => k_is)
      (case k => k_is)
      (case b => exact fun _ _ _ _ _ _ us hl => match us, hl with | [_], _ => rfl)
    have h_parts_in : Ar.Has (L2.KOf KX) mg "parts_in" (Ar.topS 36) ["club", "deed"] := by
      delta L2.KOf
      refine' Ar.has_mk KX G ?a ?l ?c ?k ?b
      (case a => k_is)
      (case l => k_is)
      (case c => k_is)
      (case k => k_is)
      (case b => exact fun _ _ _ _ _ _ us hl => match us, hl with | [_, _], _ => rfl)
    have h_has_in : Ar.Has (L2.KOf KX) mg "has_in" (Ar.topS 37) ["club", "deed"] := by
      delta L2.KOf
      refine' Ar.has_mk KX G ?a ?l ?c ?k ?b
      (case a => k_is)
      (case l => k_is)
      (case c => k_is)
      (case k => k_is)
      (case b => exact fun _ _ _ _ _ _ us hl => match us, hl with | [_, _], _ => rfl)
    have h_has : Ar.Has (L2.KOf KX) mg "has" (Ar.topS 38) ["club", "deed"] := by
      delta L2.KOf
      refine' Ar.has_mk KX G ?a ?l ?c ?k ?b
      (case a => k_is)
      (case l => k_is)
      (case c => k_is)
      (case k => k_is)
      (case b => exact fun _ _ _ _ _ _ us hl => match us, hl with | [_, _], _ => rfl)
    have h_index_in : Ar.Has (L2.KOf KX) mg "index_in" (Ar.topS 39) ["club"] := by
      delta L2.KOf
      refine' Ar.has_mk KX G ?a ?l ?c ?k ?b
      (case a => k_is)
      (case l => k_is)
      (case c => k_is)
      (case k => k_is)
      (case b => exact fun _ _ _ _ _ _ us hl => match us, hl with | [_], _ => rfl)
    have h_sure_way : Ar.Has (L2.KOf KX) mg "sure_way" (Ar.topS 41) ["value"] := by
      delta L2.KOf
      refine' Ar.has_mk KX G ?a ?l ?c ?k ?b
      (case a => k_is)
      (case l => k_is)
      (case c => k_is)
      (case k => k_is)
      (case b => exact fun _ _ _ _ _ _ us hl => match us, hl with | [_], _ => rfl)
    have h_height : Ar.Has (L2.KOf KX) mg "height" (Ar.topS 42) ["way", "deed"] := by
      delta L2.KOf
      refine' Ar.has_mk KX G ?a ?l ?c ?k ?b
      (case a => k_is)
      (case l => k_is)
      (case c => k_is)
      (case k => k_is)
      (case b => exact fun _ _ _ _ _ _ us hl => match us, hl with | [_, _], _ => rfl)
    have h_is_above : Ar.Has (L2.KOf KX) mg "is_above" (Ar.topS 43) ["way", "deed", "other"] := by
      delta L2.KOf
      refine' Ar.has_mk KX G ?a ?l ?c ?k ?b
      (case a => k_is)
      (case l => k_is)
      (case c => k_is)
      (case k => k_is)
      (case b => exact fun _ _ _ _ _ _ us hl => match us, hl with | [_, _, _], _ => rfl)
    have h_is_up : Ar.Has (L2.KOf KX) mg "is_up" (Ar.topS 44) ["way", "deed"] := by
      delta L2.KOf
      refine' Ar.has_mk KX G ?a ?l ?c ?k ?b
      (case a => k_is)
      (case l => k_is)
      (case c => k_is)
      (case k => k_is)
      (case b => exact fun _ _ _ _ _ _ us hl => match us, hl with | [_, _], _ => rfl)
    have h_in_order : Ar.Has (L2.KOf KX) mg "in_order" (Ar.topS 45) ["way", "deeds"] := by
      delta L2.KOf
      refine' Ar.has_mk KX G ?a ?l ?c ?k ?b
      (case a => k_is)
      (case l => k_is)
      (case c => k_is)
      (case k => k_is)
      (case b => exact fun _ _ _ _ _ _ us hl => match us, hl with | [_, _], _ => rfl)
    have h_lowest : Ar.Has (L2.KOf KX) mg "lowest" (Ar.topS 46) ["way", "deeds"] := by
      delta L2.KOf
      refine' Ar.has_mk KX G ?a ?l ?c ?k ?b
      (case a => k_is)
      (case l => k_is)
      (case c => k_is)
      (case k => k_is)
      (case b => exact fun _ _ _ _ _ _ us hl => match us, hl with | [_, _], _ => rfl)
    have h_highest : Ar.Has (L2.KOf KX) mg "highest" (Ar.topS 47) ["way", "deeds"] := by
      delta L2.KOf
      refine' Ar.has_mk KX G ?a ?l ?c ?k ?b
      (case a => k_is)
      (case l => k_is)
      (case c => k_is)
      (case k => k_is)
      (case b => exact fun _ _ _ _ _ _ us hl => match us, hl with | [_, _], _ => rfl)
    have h_up_or_undone : Ar.Has (L2.KOf KX) mg "up_or_undone" (Ar.topS 48) ["way", "deed"] := by
      delta L2.KOf
      refine' Ar.has_mk KX G ?a ?l ?c ?k ?b
      (case a => k_is)
      (case l => k_is)
      (case c => k_is)
      (case k => k_is)
      (case b => exact fun _ _ _ _ _ _ us hl => match us, hl with | [_, _], _ => rfl)
    have h_lies_between : Ar.Has (L2.KOf KX) mg "lies_between" (Ar.topS 49) ["way", "deed", "low", "high"] := by
      delta L2.KOf
      refine' Ar.has_mk KX G ?a ?l ?c ?k ?b
      (case a => k_is)
      (case l => k_is)
      (case c => k_is)
      (case k => k_is)
      (case b => exact fun _ _ _ _ _ _ us hl => match us, hl with | [_, _, _, _], _ => rfl)
    have h_least_up : Ar.Has (L2.KOf KX) mg "least_up" (Ar.topS 50) ["way", "club"] := by
      delta L2.KOf
      refine' Ar.has_mk KX G ?a ?l ?c ?k ?b
      (case a => k_is)
      (case l => k_is)
      (case c => k_is)
      (case k => k_is)
      (case b => exact fun _ _ _ _ _ _ us hl => match us, hl with | [_, _], _ => rfl)
    have h_level : Ar.Has (L2.KOf KX) mg "level" (Ar.topS 51) ["way", "club"] := by
      delta L2.KOf
      refine' Ar.has_mk KX G ?a ?l ?c ?k ?b
      (case a => k_is)
      (case l => k_is)
      (case c => k_is)
      (case k => k_is)
      (case b => exact fun _ _ _ _ _ _ us hl => match us, hl with | [_, _], _ => rfl)
    have h_across : Ar.Has (L2.KOf KX) mg "across" (Ar.topS 52) ["first", "second", "one", "two"] := by
      delta L2.KOf
      refine' Ar.has_mk KX G ?a ?l ?c ?k ?b
      (case a => k_is)
      (case l => k_is)
      (case c => k_is)
      (case k => k_is)
      (case b => exact fun _ _ _ _ _ _ us hl => match us, hl with | [_, _, _, _], _ => rfl)
    have h_row_times : Ar.Has (L2.KOf KX) mg "row_times" (Ar.topS 53) ["deed", "many"] := by
      delta L2.KOf
      refine' Ar.has_mk KX G ?a ?l ?c ?k ?b
      (case a => k_is)
      (case l => k_is)
      (case c => k_is)
      (case k => k_is)
      (case b => exact fun _ _ _ _ _ _ us hl => match us, hl with | [_, _], _ => rfl)
    have h_is_level : Ar.Has (L2.KOf KX) mg "is_level" (Ar.topS 54) ["way", "club", "deed"] := by
      delta L2.KOf
      refine' Ar.has_mk KX G ?a ?l ?c ?k ?b
      (case a => k_is)
      (case l => k_is)
      (case c => k_is)
      (case k => k_is)
      (case b => exact fun _ _ _ _ _ _ us hl => match us, hl with | [_, _, _], _ => rfl)
    have h__law_box : Ar.Has (L2.KOf KX) mg "_law_box" (Ar.topS 56) ["script", "k"] := by
      delta L2.KOf
      refine' Ar.has_mk KX G ?a ?l ?c ?k ?b
      (case a => k_is)
      (case l => k_is)
      (case c => k_is)
      (case k => k_is)
      (case b => exact fun _ _ _ _ _ _ us hl => match us, hl with | [_, _], _ => rfl)
    have h__law_take : Ar.Has (L2.KOf KX) mg "_law_take" (Ar.topS 57) ["tin", "below_so"] := by
      delta L2.KOf
      refine' Ar.has_mk KX G ?a ?l ?c ?k ?b
      (case a => k_is)
      (case l => k_is)
      (case c => k_is)
      (case k => k_is)
      (case b => exact fun _ _ _ _ _ _ us hl => match us, hl with | [_, _], _ => rfl)
    have h__law_cells : Ar.Has (L2.KOf KX) mg "_law_cells" (Ar.topS 58) ["script", "most_so"] := by
      delta L2.KOf
      refine' Ar.has_mk KX G ?a ?l ?c ?k ?b
      (case a => k_is)
      (case l => k_is)
      (case c => k_is)
      (case k => k_is)
      (case b => exact fun _ _ _ _ _ _ us hl => match us, hl with | [_, _], _ => rfl)
    have h__law_of : Ar.Has (L2.KOf KX) mg "_law_of" (Ar.topS 59) ["tin", "goods_so"] := by
      delta L2.KOf
      refine' Ar.has_mk KX G ?a ?l ?c ?k ?b
      (case a => k_is)
      (case l => k_is)
      (case c => k_is)
      (case k => k_is)
      (case b => exact fun _ _ _ _ _ _ us hl => match us, hl with | [_, _], _ => rfl)
    have h__law_mixed : Ar.Has (L2.KOf KX) mg "_law_mixed" (Ar.topS 60) ["tin", "matter"] := by
      delta L2.KOf
      refine' Ar.has_mk KX G ?a ?l ?c ?k ?b
      (case a => k_is)
      (case l => k_is)
      (case c => k_is)
      (case k => k_is)
      (case b => exact fun _ _ _ _ _ _ us hl => match us, hl with | [_, _], _ => rfl)
    have h__law_same : Ar.Has (L2.KOf KX) mg "_law_same" (Ar.topS 61) ["got", "due"] := by
      delta L2.KOf
      refine' Ar.has_mk KX G ?a ?l ?c ?k ?b
      (case a => k_is)
      (case l => k_is)
      (case c => k_is)
      (case k => k_is)
      (case b => exact fun _ _ _ _ _ _ us hl => match us, hl with | [_, _], _ => rfl)
    have h__law_join : Ar.Has (L2.KOf KX) mg "_law_join" (Ar.topS 62) ["one", "two"] := by
      delta L2.KOf
      refine' Ar.has_mk KX G ?a ?l ?c ?k ?b
      (case a => k_is)
      (case l => k_is)
      (case c => k_is)
      (case k => k_is)
      (case b => exact fun _ _ _ _ _ _ us hl => match us, hl with | [_, _], _ => rfl)
    have h__law_undo : Ar.Has (L2.KOf KX) mg "_law_undo" (Ar.topS 63) ["one"] := by
      delta L2.KOf
      refine' Ar.has_mk KX G ?a ?l ?c ?k ?b
      (case a => k_is)
      (case l => k_is)
      (case c => k_is)
      (case k => k_is)
      (case b => exact fun _ _ _ _ _ _ us hl => match us, hl with | [_], _ => rfl)
    have h__law_times : Ar.Has (L2.KOf KX) mg "_law_times" (Ar.topS 64) ["one", "k"] := by
      delta L2.KOf
      refine' Ar.has_mk KX G ?a ?l ?c ?k ?b
      (case a => k_is)
      (case l => k_is)
      (case c => k_is)
      (case k => k_is)
      (case b => exact fun _ _ _ _ _ _ us hl => match us, hl with | [_, _], _ => rfl)
    have h__law_lead : Ar.Has (L2.KOf KX) mg "_law_lead" (Ar.topS 65) ["one", "two"] := by
      delta L2.KOf
      refine' Ar.has_mk KX G ?a ?l ?c ?k ?b
      (case a => k_is)
      (case l => k_is)
      (case c => k_is)
      (case k => k_is)
      (case b => exact fun _ _ _ _ _ _ us hl => match us, hl with | [_, _], _ => rfl)
    have h__law_whole : Ar.Has (L2.KOf KX) mg "_law_whole" (Ar.topS 66) ["tin", "top_so"] := by
      delta L2.KOf
      refine' Ar.has_mk KX G ?a ?l ?c ?k ?b
      (case a => k_is)
      (case l => k_is)
      (case c => k_is)
      (case k => k_is)
      (case b => exact fun _ _ _ _ _ _ us hl => match us, hl with | [_, _], _ => rfl)
    have h__law_deed : Ar.Has (L2.KOf KX) mg "_law_deed" (Ar.topS 67) ["tin", "top_so"] := by
      delta L2.KOf
      refine' Ar.has_mk KX G ?a ?l ?c ?k ?b
      (case a => k_is)
      (case l => k_is)
      (case c => k_is)
      (case k => k_is)
      (case b => exact fun _ _ _ _ _ _ us hl => match us, hl with | [_, _], _ => rfl)
    have h__law_parts : Ar.Has (L2.KOf KX) mg "_law_parts" (Ar.topS 68) ["club_so", "deed_so"] := by
      delta L2.KOf
      refine' Ar.has_mk KX G ?a ?l ?c ?k ?b
      (case a => k_is)
      (case l => k_is)
      (case c => k_is)
      (case k => k_is)
      (case b => exact fun _ _ _ _ _ _ us hl => match us, hl with | [_, _], _ => rfl)
    have h__law_has : Ar.Has (L2.KOf KX) mg "_law_has" (Ar.topS 69) ["club_so", "deed_so"] := by
      delta L2.KOf
      refine' Ar.has_mk KX G ?a ?l ?c ?k ?b
      (case a => k_is)
      (case l => k_is)
      (case c => k_is)
      (case k => k_is)
      (case b => exact fun _ _ _ _ _ _ us hl => match us, hl with | [_, _], _ => rfl)
    have h__law_makers : Ar.Has (L2.KOf KX) mg "_law_makers" (Ar.topS 70) ["club_so"] := by
      delta L2.KOf
      refine' Ar.has_mk KX G ?a ?l ?c ?k ?b
      (case a => k_is)
      (case l => k_is)
      (case c => k_is)
      (case k => k_is)
      (case b => exact fun _ _ _ _ _ _ us hl => match us, hl with | [_], _ => rfl)
    have h__law_finite : Ar.Has (L2.KOf KX) mg "_law_finite" (Ar.topS 71) ["tin", "top_so"] := by
      delta L2.KOf
      refine' Ar.has_mk KX G ?a ?l ?c ?k ?b
      (case a => k_is)
      (case l => k_is)
      (case c => k_is)
      (case k => k_is)
      (case b => exact fun _ _ _ _ _ _ us hl => match us, hl with | [_, _], _ => rfl)
    have h__law_height : Ar.Has (L2.KOf KX) mg "_law_height" (Ar.topS 72) ["way_so", "deed_so"] := by
      delta L2.KOf
      refine' Ar.has_mk KX G ?a ?l ?c ?k ?b
      (case a => k_is)
      (case l => k_is)
      (case c => k_is)
      (case k => k_is)
      (case b => exact fun _ _ _ _ _ _ us hl => match us, hl with | [_, _], _ => rfl)
    have h_law : ∃ fd, L2.Fun (L2.KOf KX) "law" "law" (Ar.topS 73) fa fd ∧ ∀ (s : Shared) (u : Value), BindsTo s fd ⟨[u], []⟩ [("script", u)] := by
      delta L2.KOf
      refine' Ar.law_mk KX G hmg ?a ?l ?c ?k ?b
      (case a => k_is)
      (case l => k_is)
      (case c => k_is)
      (case k => k_is)
      (case b => exact fun _ _ _ _ _ _ us hl => match us, hl with | [_], _ => rfl)
    have gl_NOTHING : Ar.GlobD (L2.KOf KX) mg "NOTHING" (Ar.t3 0 0 0) := by
      delta L2.KOf
      refine' Ar.glob_t3 KX G ?a ?l
      (case a => k_is)
      (case l => k_is)
    have gl_EMPTY : Ar.GlobD (L2.KOf KX) mg "EMPTY" (Ar.cenD 0) := by
      delta L2.KOf
      refine' Ar.glob_empty KX G ?a ?l
      (case a => k_is)
      (case l => k_is)
    have nob := Ar.nob_mk KX G (by
      intro x hx
      simp only [List.mem_cons, List.not_mem_nil, or_false] at hx
      rcases hx with rfl | rfl | rfl | rfl | rfl | rfl | rfl | rfl | rfl | rfl | rfl | rfl | rfl | rfl | rfl | rfl | rfl | rfl | rfl | rfl | rfl | rfl | rfl | rfl | rfl <;> assumption)
    have h_law2 := h_law.elim fun _ F => Ar.Fun_has F.1 hmg F.2
    have M : Ar.Mod (L2.KOf KX) w mg := { nob := nob, h_law := h_law2, h_is_number := h_is_number, h_is_from := h_is_from, h_is_long := h_is_long, h_tupled := h_tupled, h_are_numbers := h_are_numbers, h_are_from := h_are_from, h_is_row_of := h_is_row_of, h_is_pair := h_is_pair, h_common := h_common, h_pairs_of := h_pairs_of, h_is_triple := h_is_triple, h_rest := h_rest, h_divides := h_divides, h_is_deed := h_is_deed, h_sure_deed := h_sure_deed, h_sure_deeds := h_sure_deeds, h_joined := h_joined, h_undone_in := h_undone_in, h_times_in := h_times_in, h_crossed := h_crossed, h_is_first := h_is_first, h_is_second := h_is_second, h_is_club := h_is_club, h_sure_club := h_sure_club, h_exchanged := h_exchanged, h_plain_form := h_plain_form, h_with_deed := h_with_deed, h_made_by := h_made_by, h_parts_in := h_parts_in, h_has_in := h_has_in, h_has := h_has, h_index_in := h_index_in, h_sure_way := h_sure_way, h_height := h_height, h_is_above := h_is_above, h_is_up := h_is_up, h_in_order := h_in_order, h_lowest := h_lowest, h_highest := h_highest, h_up_or_undone := h_up_or_undone, h_lies_between := h_lies_between, h_least_up := h_least_up, h_level := h_level, h_across := h_across, h_row_times := h_row_times, h_is_level := h_is_level, h__law_box := h__law_box, h__law_take := h__law_take, h__law_cells := h__law_cells, h__law_of := h__law_of, h__law_mixed := h__law_mixed, h__law_same := h__law_same, h__law_join := h__law_join, h__law_undo := h__law_undo, h__law_times := h__law_times, h__law_lead := h__law_lead, h__law_whole := h__law_whole, h__law_deed := h__law_deed, h__law_parts := h__law_parts, h__law_has := h__law_has, h__law_makers := h__law_makers, h__law_finite := h__law_finite, h__law_height := h__law_height, gl_NOTHING := gl_NOTHING, gl_EMPTY := gl_EMPTY }
    exact h_law.elim fun fd F => ⟨fd, F.2, fun base _ _ => Ar.ok_law M F.1⟩

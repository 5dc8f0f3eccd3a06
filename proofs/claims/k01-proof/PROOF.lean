import PyProof.Rows.All
import Wide.All
import OpenK.AllK
import Wide.FinOn
import HandS.ForMost
import HandS.Flow
import HandS.IsInst
import HandS.Wide
import HandS.Style
import HandS.Zip
import HandS.TupAny
import HandS.Replace
import HandS.More
import PyProof.Rows.StrRev
import PyProof.ToksMono
import PySem.Challenge.RW_arearoutes_k01_whole_routes_and_what_the
set_option Elab.async false
set_option linter.all false
set_option maxRecDepth 100000
set_option maxHeartbeats 0
/-! Ar: data in the place of values; a walk over the text by data. -/
namespace Ar
open PySem PySem.Spec PyProof.Rows L2

/-! ### data -/
inductive D where
  | non | bl (b : Bool) | int (i : Int) | str (x : Str) | tup (l : List D) | lst (l : List D) | frz (l : List D) | cell (p : Addr) | dct (ks : List Str) (l : List D)
abbrev Sto := List (Addr × List D)
abbrev Ro := List (Option D)
def keys (S : Sto) : List Addr := S.map (·.1)
/-- a list of the written part -/
def KL (K : PySem.W.Frag) (a : Addr) (xs : List V) : Prop := ∃ (o : Obj) (its : Array Value) (n : Nat), K.lookup a = some o ∧ o.cls = .type "list" ∧ o.dict = none ∧ o.data = .seq its n ∧ its.size ≤ sizeLine ∧ Vals xs its.toList
mutual
def Rep (K : PySem.W.Frag) (Z : List Addr) (H : Hp) : D → V → Prop
  | .non, v => v = .non
  | .bl b, v => v = .bl b
  | .int i, v => v = .int i
  | .str x, v => v = .str x
  | .tup l, v => ∃ p vs, v = .ref p ∧ SqT K H p vs ∧ RepL K Z H l vs
  | .lst l, v => ∃ p vs, v = .ref p ∧ p ∉ Z ∧ H p = some (.lst vs) ∧ RepL K Z H l vs
  | .frz l, v => ∃ p vs, v = .ref p ∧ ((p ∉ Z ∧ Rd H p (.lst vs)) ∨ KL K p vs) ∧ RepL K Z H l vs
  | .cell p, v => v = .ref p
  | .dct ks l, v => ∃ p vs, v = .ref p ∧ p ∉ Z ∧ H p = some (.dK ((ks.map Sum.inr).zip vs)) ∧ RepL K Z H l vs
def RepL (K : PySem.W.Frag) (Z : List Addr) (H : Hp) : List D → List V → Prop
  | [], vs => vs = []
  | d :: l, vs => ∃ v r, vs = v :: r ∧ Rep K Z H d v ∧ RepL K Z H l r
end
def Grow (Z : List Addr) (H H' : Hp) : Prop := ∀ b x, b ∉ Z → H b = some x → H' b = some x
def Zl (Z : List Addr) (H : Hp) : Prop := ∀ p, p ∈ Z → ∃ vs, H p = some (.lst vs)
theorem Grow.refl {Z : List Addr} {H : Hp} : Grow Z H H := fun _ _ _ h => h
theorem Grow.trans {Z : List Addr} {H H1 H2 : Hp} (a : Grow Z H H1) (b : Grow Z H1 H2) : Grow Z H H2 := fun c x n h => b c x n (a c x n h)
theorem Grow.new {Z : List Addr} {H : Hp} {p : Addr} {o : HO} (h : H p = none) : Grow Z H (upd H p o) := fun b x _ e => by
  rw [upd_ne (ne_of_none e h)]
  exact e
theorem Zl.notup {Z : List Addr} {H : Hp} {p : Addr} {vs : List V} (z : Zl Z H) (r : Rd H p (.tup vs)) : p ∉ Z := fun m => by
  obtain ⟨us, e⟩ := z p m
  rcases r with r | ⟨o, r⟩
  · rw [e] at r
    cases r
  · rw [e] at r
    cases r
theorem SqT.grow {K : PySem.W.Frag} {Z : List Addr} {H H' : Hp} {p : Addr} {vs : List V} (z : Zl Z H) (g : Grow Z H H') (h : SqT K H p vs) : SqT K H' p vs := by
  rcases h with h | h
  · have n := z.notup h
    rcases h with h | ⟨o, h⟩
    · exact .inl (.inl (g _ _ n h))
    · exact .inl (.inr ⟨o, g _ _ n h⟩)
  · exact .inr h
theorem frz_sq {K : PySem.W.Frag} {Z : List Addr} {H : Hp} {p : Addr} {vs : List V} (h : (p ∉ Z ∧ Rd H p (.lst vs)) ∨ KL K p vs) : SqL K H p vs := by
  rcases h with ⟨_, h⟩ | h
  · exact .inl h
  · exact .inr h
theorem frz_grow {K : PySem.W.Frag} {Zg Z : List Addr} {H H' : Hp} {p : Addr} {vs : List V} (g : Grow Zg H H') (hs : ∀ p, p ∈ Zg → p ∈ Z) (h : (p ∉ Z ∧ Rd H p (.lst vs)) ∨ KL K p vs) : (p ∉ Z ∧ Rd H' p (.lst vs)) ∨ KL K p vs := by
  rcases h with ⟨n, h⟩ | h
  · refine .inl ⟨n, ?_⟩
    rcases h with h | ⟨o, h⟩
    · exact .inl (g _ _ (fun m => n (hs _ m)) h)
    · exact .inr ⟨o, g _ _ (fun m => n (hs _ m)) h⟩
  · exact .inr h
mutual
theorem Rep.grow {K : PySem.W.Frag} {Zg Z : List Addr} {H H' : Hp} (z : Zl Zg H) (g : Grow Zg H H') (hs : ∀ p, p ∈ Zg → p ∈ Z) : ∀ {d : D} {v : V}, Rep K Z H d v → Rep K Z H' d v
  | .non, _, h => by unfold Rep at h ⊢; exact h
  | .bl _, _, h => by unfold Rep at h ⊢; exact h
  | .int _, _, h => by unfold Rep at h ⊢; exact h
  | .str _, _, h => by unfold Rep at h ⊢; exact h
  | .cell _, _, h => by unfold Rep at h ⊢; exact h
  | .dct ks l, v, h => by
    unfold Rep at h ⊢
    obtain ⟨p, vs, e, n, s, r⟩ := h
    exact ⟨p, vs, e, n, g _ _ (fun m => n (hs _ m)) s, RepL.grow z g hs r⟩
  | .tup l, v, h => by
    unfold Rep at h ⊢
    obtain ⟨p, vs, e, s, r⟩ := h
    exact ⟨p, vs, e, SqT.grow z g s, RepL.grow z g hs r⟩
  | .lst l, v, h => by
    unfold Rep at h ⊢
    obtain ⟨p, vs, e, n, s, r⟩ := h
    exact ⟨p, vs, e, n, g _ _ (fun m => n (hs _ m)) s, RepL.grow z g hs r⟩
  | .frz l, v, h => by
    unfold Rep at h ⊢
    obtain ⟨p, vs, e, s, r⟩ := h
    exact ⟨p, vs, e, frz_grow g hs s, RepL.grow z g hs r⟩
theorem RepL.grow {K : PySem.W.Frag} {Zg Z : List Addr} {H H' : Hp} (z : Zl Zg H) (g : Grow Zg H H') (hs : ∀ p, p ∈ Zg → p ∈ Z) : ∀ {l : List D} {vs : List V}, RepL K Z H l vs → RepL K Z H' l vs
  | [], _, h => by unfold RepL at h ⊢; exact h
  | d :: l, vs, h => by
    unfold RepL at h ⊢
    obtain ⟨v, r, e, h1, h2⟩ := h
    exact ⟨v, r, e, Rep.grow z g hs h1, RepL.grow z g hs h2⟩
end
theorem RepL.length {K : PySem.W.Frag} {Z : List Addr} {H : Hp} : ∀ {l : List D} {vs : List V}, RepL K Z H l vs → vs.length = l.length
  | [], vs, h => by
    unfold RepL at h
    rw [h] <;> rfl
  | d :: l, vs, h => by
    unfold RepL at h
    obtain ⟨v, r, e, _, h2⟩ := h
    rw [e, List.length_cons, List.length_cons, RepL.length h2]
theorem RepL.get {K : PySem.W.Frag} {Z : List Addr} {H : Hp} : ∀ {l : List D} {vs : List V} {i : Nat} {d : D}, RepL K Z H l vs → l[i]? = some d → ∃ v, vs[i]? = some v ∧ Rep K Z H d v
  | [], _, _, _, _, e => by simp at e
  | c :: l, vs, 0, d, h, e => by
    unfold RepL at h
    obtain ⟨v, r, e1, h1, _⟩ := h
    have e2 : c = d := Option.some.inj e
    subst e2
    exact ⟨v, by rw [e1] <;> rfl, h1⟩
  | c :: l, vs, i + 1, d, h, e => by
    unfold RepL at h
    obtain ⟨v, r, e1, _, h2⟩ := h
    obtain ⟨u, e3, h3⟩ := RepL.get (i := i) (d := d) h2 e
    exact ⟨u, by rw [e1] <;> exact e3, h3⟩
theorem RepL.get2 {K : PySem.W.Frag} {Z : List Addr} {H : Hp} : ∀ {l : List D} {vs : List V} {i : Nat} {v : V}, RepL K Z H l vs → vs[i]? = some v → ∃ d, l[i]? = some d ∧ Rep K Z H d v := fun {l vs i v} h e => by
  have hl := h.length
  have hi : i < vs.length := (List.getElem?_eq_some_iff.mp e).1
  have hi2 : i < l.length := by omega
  obtain ⟨u, e3, h3⟩ := h.get (List.getElem?_eq_getElem hi2)
  rw [e] at e3
  cases e3
  exact ⟨_, List.getElem?_eq_getElem hi2, h3⟩
theorem RepL.append {K : PySem.W.Frag} {Z : List Addr} {H : Hp} : ∀ {l l2 : List D} {vs ws : List V}, RepL K Z H l vs → RepL K Z H l2 ws → RepL K Z H (l ++ l2) (vs ++ ws)
  | [], _, vs, _, h, h2 => by
    unfold RepL at h
    rw [h]
    exact h2
  | d :: l, l2, vs, ws, h, h2 => by
    unfold RepL at h
    obtain ⟨v, r, e, h1, h3⟩ := h
    rw [e]
    show RepL K Z H (d :: (l ++ l2)) (v :: (r ++ ws))
    unfold RepL
    exact ⟨v, _, rfl, h1, RepL.append h3 h2⟩
theorem RepL.nil {K : PySem.W.Frag} {Z : List Addr} {H : Hp} : RepL K Z H [] [] := by
  unfold RepL
  rfl
theorem RepL.cons {K : PySem.W.Frag} {Z : List Addr} {H : Hp} {d : D} {v : V} {l : List D} {vs : List V} (h : Rep K Z H d v) (r : RepL K Z H l vs) : RepL K Z H (d :: l) (v :: vs) := by
  unfold RepL
  exact ⟨v, vs, rfl, h, r⟩
theorem RepL.one {K : PySem.W.Frag} {Z : List Addr} {H : Hp} {d : D} {v : V} (h : Rep K Z H d v) : RepL K Z H [d] [v] := .cons h .nil
theorem RepL.uncons {K : PySem.W.Frag} {Z : List Addr} {H : Hp} {d : D} {l : List D} {vs : List V} (h : RepL K Z H (d :: l) vs) : ∃ v r, vs = v :: r ∧ Rep K Z H d v ∧ RepL K Z H l r := by
  unfold RepL at h
  exact h
theorem RepL.un0 {K : PySem.W.Frag} {Z : List Addr} {H : Hp} {vs : List V} (h : RepL K Z H [] vs) : vs = [] := by
  unfold RepL at h
  exact h
theorem RepL.ints {K : PySem.W.Frag} {Z : List Addr} {H : Hp} : ∀ {ns : List Int} {vs : List V}, RepL K Z H (ns.map D.int) vs → vs = ns.map V.int
  | [], _, h => h.un0
  | n :: ns, vs, h => by
    obtain ⟨v, r, e, h1, h2⟩ := RepL.uncons h
    have e2 : v = .int n := h1
    rw [e, e2, RepL.ints h2] <;> rfl
theorem RepL.of_ints {K : PySem.W.Frag} {Z : List Addr} {H : Hp} : ∀ (ns : List Int), RepL K Z H (ns.map D.int) (ns.map V.int)
  | [] => .nil
  | n :: ns => .cons (show Rep K Z H (.int n) (.int n) by unfold Rep; rfl) (RepL.of_ints ns)
/-! ### the store, the names -/
structure Store (K : PySem.W.Frag) (Zh : List Addr) (H : Hp) (S : Sto) : Prop where
  nd : (keys S).Nodup
  st : ∀ p l, (p, l) ∈ S → ∃ vs, H p = some (.lst vs) ∧ RepL K (keys S ++ Zh) H l vs
  hid : ∀ p, p ∈ Zh → p ∉ keys S ∧ ∃ vs, H p = some (.lst vs)
theorem Store.zl {K : PySem.W.Frag} {Zh : List Addr} {H : Hp} {S : Sto} (s : Store K Zh H S) : Zl (keys S) H := fun p m => by
  obtain ⟨⟨q, l⟩, h, e⟩ := List.mem_map.mp m
  cases e
  obtain ⟨vs, h1, _⟩ := s.st _ _ h
  exact ⟨vs, h1⟩
theorem sub_l {A B : List Addr} : ∀ p, p ∈ A → p ∈ A ++ B := fun _ h => List.mem_append_left _ h
theorem Store.gr {K : PySem.W.Frag} {Zh : List Addr} {H H' : Hp} {S : Sto} (s : Store K Zh H S) (g : Grow (keys S) H H') {d : D} {v : V} (r : Rep K (keys S ++ Zh) H d v) : Rep K (keys S ++ Zh) H' d v := Rep.grow s.zl g sub_l r
theorem Store.grL {K : PySem.W.Frag} {Zh : List Addr} {H H' : Hp} {S : Sto} (s : Store K Zh H S) (g : Grow (keys S) H H') {d : List D} {v : List V} (r : RepL K (keys S ++ Zh) H d v) : RepL K (keys S ++ Zh) H' d v := RepL.grow s.zl g sub_l r
theorem Store.free {K : PySem.W.Frag} {Zh : List Addr} {H : Hp} {S : Sto} {p : Addr} (s : Store K Zh H S) (hp : H p = none) : p ∉ keys S ++ Zh := fun m => by
  rcases List.mem_append.mp m with m | m
  · obtain ⟨vs, e⟩ := s.zl p m
    rw [hp] at e
    cases e
  · obtain ⟨_, vs, e⟩ := s.hid p m
    rw [hp] at e
    cases e
/-- where all that was tracked is kept -/
theorem Store.keep {K : PySem.W.Frag} {Zh : List Addr} {H H' : Hp} {S : Sto} (s : Store K Zh H S) (g : ∀ b x, H b = some x → H' b = some x) : Store K Zh H' S := ⟨s.nd, fun q l m => by
  obtain ⟨vs, h1, h2⟩ := s.st q l m
  exact ⟨vs, g _ _ h1, s.grL (fun b x _ h => g b x h) h2⟩, fun p m => by
  obtain ⟨n, vs, e⟩ := s.hid p m
  exact ⟨n, vs, g _ _ e⟩⟩
theorem Store.new {K : PySem.W.Frag} {Zh : List Addr} {H : Hp} {S : Sto} {p : Addr} {o : HO} (s : Store K Zh H S) (hp : H p = none) : Store K Zh (upd H p o) S := s.keep fun b x e => by
  rw [upd_ne (ne_of_none e hp)]
  exact e
structure Ev (K : PySem.W.Frag) (Zh : List Addr) (H : Hp) (σ : L2.St) (ρ : Ro) (S : Sto) : Prop where
  st : Store K Zh H S
  len : σ.length = ρ.length
  var : ∀ (i : Nat) (d : D), ρ[i]? = some (some d) → ∃ v, σ[i]? = some (some v) ∧ Rep K (keys S ++ Zh) H d v
theorem Ev.next {K : PySem.W.Frag} {Zh : List Addr} {H H' : Hp} {σ : L2.St} {ρ : Ro} {S S' : Sto} (E : Ev K Zh H σ ρ S) (k : keys S' = keys S) (g : Grow (keys S) H H') (s : Store K Zh H' S') : Ev K Zh H' σ ρ S' :=
  ⟨s, E.len, fun i d h => by
    obtain ⟨v, e, r⟩ := E.var i d h
    exact ⟨v, e, by rw [k]; exact E.st.gr g r⟩⟩
theorem Ev.put {K : PySem.W.Frag} {Zh : List Addr} {H : Hp} {σ : L2.St} {ρ : Ro} {S : Sto} {i : Nat} {d : D} {v : V} (E : Ev K Zh H σ ρ S) (r : Rep K (keys S ++ Zh) H d v) : Ev K Zh H (σ.set i (some v)) (ρ.set i (some d)) S :=
  ⟨E.st, by rw [List.length_set, List.length_set]; exact E.len, fun j c h => by
    by_cases hj : i = j
    · subst hj
      by_cases hl : i < ρ.length
      · rw [List.getElem?_set_self hl] at h
        cases h
        exact ⟨v, by rw [List.getElem?_set_self (by rw [E.len]; exact hl)], r⟩
      · rw [List.getElem?_eq_none (by rw [List.length_set]; omega)] at h
        cases h
    · rw [List.getElem?_set_ne hj] at h
      rw [List.getElem?_set_ne hj]
      exact E.var j c h⟩
/-! ### what is wanted behind a piece -/
def Post (K : PySem.W.Frag) (Zh : List Addr) (H : Hp) (S : Sto) (Φ : D → Sto → Prop) (Q : VK) : Prop :=
  ∀ v H' d S', keys S' = keys S → Grow (keys S) H H' → Store K Zh H' S' → Rep K (keys S ++ Zh) H' d v → Φ d S' → Q v H'
def PostL (K : PySem.W.Frag) (Zh : List Addr) (H : Hp) (S : Sto) (n : Nat) (Φ : List D → Sto → Prop) (Q : List V → Hp → Prop) : Prop :=
  ∀ vs H' ds S', keys S' = keys S → Grow (keys S) H H' → Store K Zh H' S' → RepL K (keys S ++ Zh) H' ds vs → ds.length = n → Φ ds S' → Q vs H'
def PostT (K : PySem.W.Frag) (Zh : List Addr) (H : Hp) (S : Sto) (Φ : Bool → Sto → Prop) (Q : Bool → Hp → Prop) : Prop :=
  ∀ b H' S', keys S' = keys S → Grow (keys S) H H' → Store K Zh H' S' → Φ b S' → Q b H'
/-- go on from the state behind a part -/
theorem Post.next {K : PySem.W.Frag} {Zh : List Addr} {H H1 : Hp} {S S1 : Sto} {Φ : D → Sto → Prop} {Q : VK} (P : Post K Zh H S Φ Q) (k : keys S1 = keys S) (g : Grow (keys S) H H1) : Post K Zh H1 S1 Φ Q := fun v H' d S' k' g' s' r q =>
  P v H' d S' (k'.trans k) (g.trans (by rw [← k]; exact g')) s' (by rw [← k]; exact r) q
theorem PostL.next {K : PySem.W.Frag} {Zh : List Addr} {H H1 : Hp} {S S1 : Sto} {n : Nat} {Φ : List D → Sto → Prop} {Q : List V → Hp → Prop} (P : PostL K Zh H S n Φ Q) (k : keys S1 = keys S) (g : Grow (keys S) H H1) : PostL K Zh H1 S1 n Φ Q := fun v H' d S' k' g' s' r l q =>
  P v H' d S' (k'.trans k) (g.trans (by rw [← k]; exact g')) s' (by rw [← k]; exact r) l q
theorem PostT.next {K : PySem.W.Frag} {Zh : List Addr} {H H1 : Hp} {S S1 : Sto} {Φ : Bool → Sto → Prop} {Q : Bool → Hp → Prop} (P : PostT K Zh H S Φ Q) (k : keys S1 = keys S) (g : Grow (keys S) H H1) : PostT K Zh H1 S1 Φ Q := fun v H' S' k' g' s' q =>
  P v H' S' (k'.trans k) (g.trans (by rw [← k]; exact g')) s' q
theorem Post.here {K : PySem.W.Frag} {Zh : List Addr} {H : Hp} {S : Sto} {Φ : D → Sto → Prop} {Q : VK} {d : D} {v : V} (P : Post K Zh H S Φ Q) (s : Store K Zh H S) (r : Rep K (keys S ++ Zh) H d v) (q : Φ d S) : Q v H := P v H d S rfl Grow.refl s r q
theorem Post.tup {K : PySem.W.Frag} {Zh : List Addr} {H : Hp} {S : Sto} {Φ : D → Sto → Prop} {Q : VK} {l : List D} {vs : List V} {p : Addr} (P : Post K Zh H S Φ Q) (s : Store K Zh H S) (r : RepL K (keys S ++ Zh) H l vs) (q : Φ (.tup l) S) (hp : H p = none) : Q (.ref p) (upd H p (.tup vs)) :=
  P _ _ _ S rfl (Grow.new hp) (s.new hp) (show Rep K (keys S ++ Zh) (upd H p (.tup vs)) (.tup l) (.ref p) by
    unfold Rep
    exact ⟨p, vs, rfl, .inl (.inl upd_same), s.grL (Grow.new hp) r⟩) q
theorem Post.lst {K : PySem.W.Frag} {Zh : List Addr} {H : Hp} {S : Sto} {Φ : D → Sto → Prop} {Q : VK} {l : List D} {vs : List V} {p : Addr} (P : Post K Zh H S Φ Q) (s : Store K Zh H S) (r : RepL K (keys S ++ Zh) H l vs) (q : Φ (.lst l) S) (hp : H p = none) : Q (.ref p) (upd H p (.lst vs)) :=
  P _ _ _ S rfl (Grow.new hp) (s.new hp) (show Rep K (keys S ++ Zh) (upd H p (.lst vs)) (.lst l) (.ref p) by
    unfold Rep
    exact ⟨p, vs, rfl, s.free hp, upd_same, s.grL (Grow.new hp) r⟩) q

/-! ### the judgements -/
def DE (X : Cx) (e : Expr) (ρ : Ro) (S : Sto) (Φ : D → Sto → Prop) : Prop :=
  ∀ (Zh : List Addr) (pins : List (Addr × Obj)) (s : Shared) (σ : L2.St) (H : Hp) (Q : VK), Inv X pins σ H s → Ev X.K Zh H σ ρ S → Post X.K Zh H S Φ Q → wpAny (model X.prog X.w) X.A (eval e X.env) (EP X pins σ Q) X.xe s
def DT (X : Cx) (e : Expr) (ρ : Ro) (S : Sto) (Φ : Bool → Sto → Prop) : Prop :=
  ∀ (Zh : List Addr) (pins : List (Addr × Obj)) (s : Shared) (σ : L2.St) (H : Hp) (Q : Bool → Hp → Prop), Inv X pins σ H s → Ev X.K Zh H σ ρ S → PostT X.K Zh H S Φ Q → wpAny (model X.prog X.w) X.A (isTrue e X.env (eval e X.env)) (TP X pins σ Q) X.xe s
def DA (X : Cx) (es : List Expr) (ρ : Ro) (S : Sto) (Φ : List D → Sto → Prop) : Prop :=
  ∀ (Zh : List Addr) (pos : Pos) (pins : List (Addr × Obj)) (s : Shared) (σ : L2.St) (H : Hp) (Q : List V → Hp → Prop), Inv X pins σ H s → Ev X.K Zh H σ ρ S → PostL X.K Zh H S es.length Φ Q → wpAny (model X.prog X.w) X.A (spliced (backTo pos (starEach es X.env))) (AP X pins σ Q) X.xe s
/-- the widest readings -/
def tW (X : Cx) (e : Expr) : TE := fun σ H Q => ∀ (pins : List (Addr × Obj)) (s : Shared), Inv X pins σ H s → wpAny (model X.prog X.w) X.A (eval e X.env) (EP X pins σ Q) X.xe s
def ttW (X : Cx) (e : Expr) : TT := fun σ H Q => ∀ (pins : List (Addr × Obj)) (s : Shared), Inv X pins σ H s → wpAny (model X.prog X.w) X.A (isTrue e X.env (eval e X.env)) (TP X pins σ Q) X.xe s
def taW (X : Cx) (es : List Expr) : TA := fun σ H Q => ∀ (pos : Pos) (pins : List (Addr × Obj)) (s : Shared), Inv X pins σ H s → wpAny (model X.prog X.w) X.A (spliced (backTo pos (starEach es X.env))) (AP X pins σ Q) X.xe s
section
variable {X : Cx} {ρ : Ro} {S : Sto}
theorem pe_w {e : Expr} : PE X e (tW X e) := ⟨fun pins s _ _ _ I h => h pins s I⟩
theorem pt_w {e : Expr} : PT X e (ttW X e) := ⟨fun pins s _ _ _ I h => h pins s I⟩
theorem pa_w {es : List Expr} : PA X es (taW X es) := ⟨fun pos pins s _ _ _ I h => h pos pins s I⟩
theorem DE.tw {e : Expr} {Φ : D → Sto → Prop} {Zh : List Addr} {σ : L2.St} {H : Hp} {Q : VK} (h : DE X e ρ S Φ) (E : Ev X.K Zh H σ ρ S) (q : Post X.K Zh H S Φ Q) : tW X e σ H Q := fun pins s I => h Zh pins s σ H Q I E q
theorem DT.tw {e : Expr} {Φ : Bool → Sto → Prop} {Zh : List Addr} {σ : L2.St} {H : Hp} {Q : Bool → Hp → Prop} (h : DT X e ρ S Φ) (E : Ev X.K Zh H σ ρ S) (q : PostT X.K Zh H S Φ Q) : ttW X e σ H Q := fun pins s I => h Zh pins s σ H Q I E q
theorem DA.tw {es : List Expr} {Φ : List D → Sto → Prop} {Zh : List Addr} {σ : L2.St} {H : Hp} {Q : List V → Hp → Prop} (h : DA X es ρ S Φ) (E : Ev X.K Zh H σ ρ S) (q : PostL X.K Zh H S es.length Φ Q) : taW X es σ H Q := fun pos pins s I => h Zh pos pins s σ H Q I E q
theorem DE.of {e : Expr} {t : TE} {Φ : D → Sto → Prop} (p : PE X e t) (h : ∀ Zh σ H Q, Ev X.K Zh H σ ρ S → Post X.K Zh H S Φ Q → t σ H Q) : DE X e ρ S Φ := fun Zh pins s σ H Q I E q => p.run pins s σ H Q I (h Zh σ H Q E q)
theorem DT.of {e : Expr} {t : TT} {Φ : Bool → Sto → Prop} (p : PT X e t) (h : ∀ Zh σ H Q, Ev X.K Zh H σ ρ S → PostT X.K Zh H S Φ Q → t σ H Q) : DT X e ρ S Φ := fun Zh pins s σ H Q I E q => p.run pins s σ H Q I (h Zh σ H Q E q)
theorem DA.of {es : List Expr} {t : TA} {Φ : List D → Sto → Prop} (p : PA X es t) (h : ∀ Zh σ H Q, Ev X.K Zh H σ ρ S → PostL X.K Zh H S es.length Φ Q → t σ H Q) : DA X es ρ S Φ := fun Zh pos pins s σ H Q I E q => p.run pos pins s σ H Q I (h Zh σ H Q E q)
/-- a part, then the rest from its state -/
theorem DE.bind {e : Expr} {Ψ : D → Sto → Prop} {Zh : List Addr} {σ : L2.St} {H : Hp} {Q : VK} (h : DE X e ρ S Ψ) (E : Ev X.K Zh H σ ρ S)
    (k : ∀ v H1 d S1, keys S1 = keys S → Grow (keys S) H H1 → Ev X.K Zh H1 σ ρ S1 → Rep X.K (keys S1 ++ Zh) H1 d v → Ψ d S1 → Q v H1) : tW X e σ H Q :=
  h.tw E fun v H1 d S1 k1 g1 s1 r1 q1 => k v H1 d S1 k1 g1 (E.next k1 g1 s1) (by rw [k1]; exact r1) q1
end

/-! ### operations by values -/
def DO (X : Cx) (f : Value → Value → Sem Value) (a b : D) (S : Sto) (Φ : D → Sto → Prop) : Prop :=
  ∀ (Zh : List Addr) (pins : List (Addr × Obj)) (s : Shared) (σ : L2.St) (H : Hp) (x y : V) (v u : Value) (Q : VK), Inv X pins σ H s → Store X.K Zh H S → Rep X.K (keys S ++ Zh) H a x → Rep X.K (keys S ++ Zh) H b y → RelV x v → RelV y u → Post X.K Zh H S Φ Q →
    wpAny (model X.prog X.w) X.A (f v u) (EP X pins σ Q) X.xe s
def rW (X : Cx) (f : Value → Value → Sem Value) : R2 := fun x y H Q => ∀ (pins : List (Addr × Obj)) (s : Shared) (σ : L2.St) (v u : Value), Inv X pins σ H s → RelV x v → RelV y u → wpAny (model X.prog X.w) X.A (f v u) (EP X pins σ Q) X.xe s
section
variable {X : Cx} {ρ : Ro} {S : Sto} {f : Value → Value → Sem Value} {a b : D} {Φ : D → Sto → Prop}
theorem op_w : OpR X f (rW X f) := fun pins s σ _ _ _ v u _ I rx ry h => h pins s σ v u I rx ry
theorem DO.of {r : R2} (o : OpR X f r) (h : ∀ Zh H x y Q, Store X.K Zh H S → Rep X.K (keys S ++ Zh) H a x → Rep X.K (keys S ++ Zh) H b y → Post X.K Zh H S Φ Q → r x y H Q) : DO X f a b S Φ :=
  fun Zh pins s σ H x y v u Q I st ra rb rx ry q => o pins s σ H x y v u Q I rx ry (h Zh H x y Q st ra rb q)
theorem DO.rw {Zh : List Addr} {H : Hp} {x y : V} {Q : VK} (h : DO X f a b S Φ) (st : Store X.K Zh H S) (ra : Rep X.K (keys S ++ Zh) H a x) (rb : Rep X.K (keys S ++ Zh) H b y) (q : Post X.K Zh H S Φ Q) : rW X f x y H Q :=
  fun pins s σ v u I rx ry => h Zh pins s σ H x y v u Q I st ra rb rx ry q
theorem two {e1 e2 : Expr} {Zh : List Addr} {σ : L2.St} {H : Hp} {Q : VK} (h : DE X e1 ρ S fun da S1 => DE X e2 ρ S1 fun db S2 => DO X f da db S2 Φ) (E : Ev X.K Zh H σ ρ S) (P : Post X.K Zh H S Φ Q) : tOp (rW X f) (tW X e1) (tW X e2) σ H Q :=
  h.bind E fun x H1 da S1 k1 g1 E1 ra h1 => h1.bind E1 fun y H2 db S2 k2 g2 E2 rb h2 =>
    h2.rw E2.st (by rw [k2]; exact E1.st.gr g2 ra) rb ((P.next k1 g1).next k2 g2)
theorem de_bin {op : Operator} {e1 e2 : Expr} {pos : Pos} (h : DE X e1 ρ S fun da S1 => DE X e2 ρ S1 fun db S2 => DO X (binaryOp op) da db S2 Φ) : DE X (.BinOp e1 op e2 pos) ρ S Φ :=
  DE.of (pe_op op_w pe_w pe_w) fun _ _ _ _ E P => two h E P
theorem de_cmp {op : CmpOp} {e1 e2 : Expr} {pos : Pos} (hm : behindInMarks op e2 = false) (h : DE X e1 ρ S fun da S1 => DE X e2 ρ S1 fun db S2 => DO X (compareOp op) da db S2 Φ) : DE X (.Compare e1 [op] [e2] pos) ρ S Φ :=
  DE.of (pe_cmpR op_w pe_w pe_w hm) fun _ _ _ _ E P => two h E P
theorem dt_cmp {op : CmpOp} {e1 e2 : Expr} {pos : Pos} {Φ : Bool → Sto → Prop} (hm : behindInMarks op e2 = false) (h : DE X e1 ρ S fun da S1 => DE X e2 ρ S1 fun db S2 => DO X (compareOp op) da db S2 fun d S3 => ∃ k, d = .bl k ∧ Φ k S3) : DT X (.Compare e1 [op] [e2] pos) ρ S Φ :=
  DT.of (pt_cmpR op_w pe_w pe_w hm) fun Zh σ H Q E P => two h E fun v H' d S' k g s r q => by
    obtain ⟨c, rfl, q⟩ := q
    exact ⟨c, by unfold Rep at r; exact r, P c H' S' k g s q⟩
/-- ints -/
theorem rep_int {K : PySem.W.Frag} {Z : List Addr} {H : Hp} {i : Int} : Rep K Z H (.int i) (.int i) := by
  unfold Rep
  rfl
theorem rep_bl {K : PySem.W.Frag} {Z : List Addr} {H : Hp} {i : Bool} : Rep K Z H (.bl i) (.bl i) := by
  unfold Rep
  rfl
theorem rep_str {K : PySem.W.Frag} {Z : List Addr} {H : Hp} {i : Str} : Rep K Z H (.str i) (.str i) := by
  unfold Rep
  rfl
theorem rep_non {K : PySem.W.Frag} {Z : List Addr} {H : Hp} : Rep K Z H .non .non := by
  unfold Rep
  rfl
theorem Rep.int {K : PySem.W.Frag} {Z : List Addr} {H : Hp} {i : Int} {v : V} (h : Rep K Z H (.int i) v) : v = .int i := by
  unfold Rep at h
  exact h
theorem Rep.bl {K : PySem.W.Frag} {Z : List Addr} {H : Hp} {i : Bool} {v : V} (h : Rep K Z H (.bl i) v) : v = .bl i := by
  unfold Rep at h
  exact h
theorem Rep.str {K : PySem.W.Frag} {Z : List Addr} {H : Hp} {i : Str} {v : V} (h : Rep K Z H (.str i) v) : v = .str i := by
  unfold Rep at h
  exact h
theorem Rep.non {K : PySem.W.Frag} {Z : List Addr} {H : Hp} {v : V} (h : Rep K Z H .non v) : v = .non := by
  unfold Rep at h
  exact h
theorem Rep.tup {K : PySem.W.Frag} {Z : List Addr} {H : Hp} {l : List D} {v : V} (h : Rep K Z H (.tup l) v) : ∃ p vs, v = .ref p ∧ SqT K H p vs ∧ RepL K Z H l vs := by
  unfold Rep at h
  exact h
theorem Rep.lst {K : PySem.W.Frag} {Z : List Addr} {H : Hp} {l : List D} {v : V} (h : Rep K Z H (.lst l) v) : ∃ p vs, v = .ref p ∧ p ∉ Z ∧ H p = some (.lst vs) ∧ RepL K Z H l vs := by
  unfold Rep at h
  exact h
theorem Rep.frz {K : PySem.W.Frag} {Z : List Addr} {H : Hp} {l : List D} {v : V} (h : Rep K Z H (.frz l) v) : ∃ p vs, v = .ref p ∧ ((p ∉ Z ∧ Rd H p (.lst vs)) ∨ KL K p vs) ∧ RepL K Z H l vs := by
  unfold Rep at h
  exact h
theorem Rep.cell {K : PySem.W.Frag} {Z : List Addr} {H : Hp} {p : Addr} {v : V} (h : Rep K Z H (.cell p) v) : v = .ref p := by
  unfold Rep at h
  exact h
theorem Rep.dct {K : PySem.W.Frag} {Z : List Addr} {H : Hp} {ks : List Str} {l : List D} {v : V} (h : Rep K Z H (.dct ks l) v) : ∃ p vs, v = .ref p ∧ p ∉ Z ∧ H p = some (.dK ((ks.map Sum.inr).zip vs)) ∧ RepL K Z H l vs := by
  unfold Rep at h
  exact h
variable {i j : Int}
theorem do_i0 {g : Int → Int → Int} (o : OpR X f (rI0 fun i j => .int (g i j))) (q : Φ (.int (g i j)) S) : DO X f (.int i) (.int j) S Φ := DO.of o fun Zh H x y Q st ra rb P => ⟨i, j, ra.int, rb.int, P.here st rep_int q⟩
theorem do_b0 {g : Int → Int → Bool} (o : OpR X f (rI0 fun i j => .bl (g i j))) (q : Φ (.bl (g i j)) S) : DO X f (.int i) (.int j) S Φ := DO.of o fun Zh H x y Q st ra rb P => ⟨i, j, ra.int, rb.int, P.here st rep_bl q⟩
theorem do_iC {C : Int → Int → Prop} {g : Int → Int → Int} (o : OpR X f (rI C fun i j => .int (g i j))) (c : C i j) (q : Φ (.int (g i j)) S) : DO X f (.int i) (.int j) S Φ := DO.of o fun Zh H x y Q st ra rb P => ⟨i, j, ra.int, rb.int, c, P.here st rep_int q⟩
theorem do_add (q : Φ (.int (i + j)) S) : DO X (binaryOp .Add) (.int i) (.int j) S Φ := do_i0 op_add q
theorem do_sub (q : Φ (.int (i - j)) S) : DO X (binaryOp .Sub) (.int i) (.int j) S Φ := do_i0 op_sub q
theorem do_mul (c : CMulW i j) (q : Φ (.int (i * j)) S) : DO X (binaryOp .Mult) (.int i) (.int j) S Φ := do_iC op_mulW c q
theorem do_fdiv (c : CDivW i j) (q : Φ (.int (i / j)) S) : DO X (binaryOp .FloorDiv) (.int i) (.int j) S Φ := do_iC op_fdivW c q
theorem do_mod (c : 0 < j) (q : Φ (.int (i % j)) S) : DO X (binaryOp .Mod) (.int i) (.int j) S Φ := do_iC (C := fun _ j => 0 < j) op_mod c q
theorem do_pow (c : CPow i j) (q : Φ (.int (i ^ j.toNat)) S) : DO X (binaryOp .Pow) (.int i) (.int j) S Φ := do_iC op_pow c q
theorem do_lt (q : Φ (.bl (decide (i < j))) S) : DO X (compareOp .Lt) (.int i) (.int j) S Φ := do_b0 op_lt q
theorem do_le (q : Φ (.bl (decide (i ≤ j))) S) : DO X (compareOp .LtE) (.int i) (.int j) S Φ := do_b0 op_le q
theorem do_gt (q : Φ (.bl (decide (j < i))) S) : DO X (compareOp .Gt) (.int i) (.int j) S Φ := do_b0 op_gt q
theorem do_ge (q : Φ (.bl (decide (j ≤ i))) S) : DO X (compareOp .GtE) (.int i) (.int j) S Φ := do_b0 op_ge q
theorem do_eqI (q : Φ (.bl (decide (i = j))) S) : DO X (compareOp .Eq) (.int i) (.int j) S Φ := DO.of op_eq fun Zh H x y Q st ra rb P => by
  rw [ra.int, rb.int]
  refine ⟨rfl, P.here st rep_bl ?_⟩
  rw [show decide (V.int i = V.int j) = decide (i = j) by simp]
  exact q
theorem do_neI (q : Φ (.bl (!decide (i = j))) S) : DO X (compareOp .NotEq) (.int i) (.int j) S Φ := DO.of op_ne fun Zh H x y Q st ra rb P => by
  rw [ra.int, rb.int]
  refine ⟨rfl, P.here st rep_bl ?_⟩
  rw [show decide (V.int i = V.int j) = decide (i = j) by simp]
  exact q
theorem do_eqB {i j : Bool} (q : Φ (.bl (decide (i = j))) S) : DO X (compareOp .Eq) (.bl i) (.bl j) S Φ := DO.of op_eq fun Zh H x y Q st ra rb P => by
  rw [ra.bl, rb.bl]
  refine ⟨rfl, P.here st rep_bl ?_⟩
  rw [show decide (V.bl i = V.bl j) = decide (i = j) by simp]
  exact q
theorem do_neB {i j : Bool} (q : Φ (.bl (!decide (i = j))) S) : DO X (compareOp .NotEq) (.bl i) (.bl j) S Φ := DO.of op_ne fun Zh H x y Q st ra rb P => by
  rw [ra.bl, rb.bl]
  refine ⟨rfl, P.here st rep_bl ?_⟩
  rw [show decide (V.bl i = V.bl j) = decide (i = j) by simp]
  exact q
theorem do_eqS {i j : Str} (q : Φ (.bl (decide (i = j))) S) : DO X (compareOp .Eq) (.str i) (.str j) S Φ := DO.of op_eq fun Zh H x y Q st ra rb P => by
  rw [ra.str, rb.str]
  refine ⟨rfl, P.here st rep_bl ?_⟩
  rw [show decide (V.str i = V.str j) = decide (i = j) by simp]
  exact q
theorem do_neS {i j : Str} (q : Φ (.bl (!decide (i = j))) S) : DO X (compareOp .NotEq) (.str i) (.str j) S Φ := DO.of op_ne fun Zh H x y Q st ra rb P => by
  rw [ra.str, rb.str]
  refine ⟨rfl, P.here st rep_bl ?_⟩
  rw [show decide (V.str i = V.str j) = decide (i = j) by simp]
  exact q
/-- is None -/
def isNon : D → Bool
  | .non => true
  | _ => false
theorem rep_non_iff {K : PySem.W.Frag} {Z : List Addr} {H : Hp} : ∀ {d : D} {v : V}, Rep K Z H d v → decide (v = .non) = isNon d
  | .non, v, h => by rw [h.non]; rfl
  | .bl _, v, h => by rw [h.bl]; rfl
  | .int _, v, h => by rw [h.int]; rfl
  | .str _, v, h => by rw [h.str]; rfl
  | .cell _, v, h => by rw [h.cell]; rfl
  | .dct _ _, v, h => by
    obtain ⟨p, vs, e, _⟩ := h.dct
    rw [e]
    rfl
  | .tup _, v, h => by
    obtain ⟨p, vs, e, _⟩ := h.tup
    rw [e]
    rfl
  | .lst _, v, h => by
    obtain ⟨p, vs, e, _⟩ := h.lst
    rw [e]
    rfl
  | .frz _, v, h => by
    obtain ⟨p, vs, e, _⟩ := h.frz
    rw [e]
    rfl
theorem do_isN (q : Φ (.bl (isNon a)) S) : DO X (compareOp .Is) a .non S Φ := DO.of op_isN fun Zh H x y Q st ra rb P => ⟨rb.non, P.here st (by rw [rep_non_iff ra]; exact rep_bl) q⟩
theorem do_notN (q : Φ (.bl (!isNon a)) S) : DO X (compareOp .IsNot) a .non S Φ := DO.of op_notN fun Zh H x y Q st ra rb P => ⟨rb.non, P.here st (by rw [rep_non_iff ra]; exact rep_bl) q⟩
theorem do_addS {i j : Str} (c : i.length + j.length ≤ sizeLine) (q : Φ (.str (i ++ j)) S) : DO X (binaryOp .Add) (.str i) (.str j) S Φ := DO.of op_add_str fun Zh H x y Q st ra rb P => ⟨i, j, ra.str, rb.str, c, P.here st rep_str q⟩
theorem do_cat {l m : List D} (c : l.length + m.length ≤ sizeLine) (q : Φ (.lst (l ++ m)) S) : DO X (binaryOp .Add) (.lst l) (.lst m) S Φ := DO.of op_cat fun Zh H x y Q st ra rb P => by
  obtain ⟨p, vs, rfl, n1, h1, r1⟩ := ra.lst
  obtain ⟨p2, vs2, rfl, n2, h2, r2⟩ := rb.lst
  exact ⟨p, p2, vs, vs2, rfl, rfl, h1, h2, by rw [r1.length, r2.length]; exact c, fun z hz => P.lst st (r1.append r2) q hz⟩
end

/-! ### names, constants, displays, calls -/
def visB : Option NameKind → Bool
  | some .local => true
  | some .cell => true
  | some .free => true
  | _ => false
def stB : Option NameKind → Bool
  | some .local => true
  | some .cell => true
  | _ => false
def cfB : Option NameKind → Bool
  | some .cell => true
  | some .free => true
  | _ => false
structure At (X : Cx) (P : Program) (w : World) (K : PySem.W.Frag) (mg : Str → Option Value) (base : Heap) (tb : List (Str × Nat)) (names : List (Str × NameKind)) (k : Nat) : Prop where
  prog : X.prog = P
  w : X.w = w
  K : X.K = K
  mg : X.mg = mg
  base : X.base = base
  slot : ∀ x i, tb.lookup x = some i → X.N[i]? = some x
  cov : ∀ x, x ∈ X.N → (tb.lookup x).isSome = true
  vis : ∀ x, visB (names.lookup x) = true → Vis X.env.scope x
  gl : ∀ x, names.lookup x = some .globalImplicit → Gl X x
  sto : ∀ x, stB (names.lookup x) = true → Loc X.env.scope x ∧ (X.fn x = true ∨ X.env.scope.names.lookup x = some .local)
  loc : ∀ x, names.lookup x = some .local → X.env.scope.names.lookup x = some .local
  cf : ∀ x, cfB (names.lookup x) = true → X.env.scope.names.lookup x = some .cell ∨ X.env.scope.names.lookup x = some .free
  kind : X.env.scope.kind = .function
  room : Room k X.A
  calm : X.calm = true
  nd : X.N.Nodup
  nox : X.xe = fun _ _ => False
def plainName (x : Str) : Bool := !(x == ("__debug__" : Str)) && !(x == ("__classdict__" : Str)) && !(x == ("__name__" : Str))
theorem plain1 {x : Str} (h : plainName x = true) : (x == ("__debug__" : Str)) = false ∧ (x == ("__classdict__" : Str)) = false ∧ x ≠ "__name__" := by
  unfold plainName at h
  simp only [Bool.and_eq_true, Bool.not_eq_true'] at h
  exact ⟨h.1.1, h.1.2, by simpa using h.2⟩
section
variable {X : Cx} {ρ : Ro} {S : Sto} {Φ : D → Sto → Prop} {P : Program} {w : World} {K : PySem.W.Frag} {mg : Str → Option Value} {base : Heap} {tb : List (Str × Nat)} {names : List (Str × NameKind)} {k : Nat} {pos : Pos}
theorem de_name {x : Str} (A : At X P w K mg base tb names k) (h : ∃ i d, tb.lookup x = some i ∧ (plainName x && visB (names.lookup x)) = true ∧ ρ[i]? = some (some d) ∧ Φ d S) : DE X (.Name x pos) ρ S Φ := by
  obtain ⟨i, d, hi, hv, h, q⟩ := h
  rw [Bool.and_eq_true] at hv
  exact DE.of (pe_var (A.slot _ _ hi) (A.vis _ hv.2) (plain1 hv.1).1 (plain1 hv.1).2.1) fun Zh σ H Q E P => by
    obtain ⟨v, e, r⟩ := E.var i d h
    exact ⟨v, e, P.here E.st r q⟩
theorem de_int {i : Int} {j} (q : Φ (.int i) S) : DE X (.Constant (.int i) j pos) ρ S Φ := DE.of pe_int fun Zh σ H Q E P => P.here E.st rep_int q
theorem de_bl {i : Bool} {j} (q : Φ (.bl i) S) : DE X (.Constant (.bool i) j pos) ρ S Φ := DE.of pe_bl fun Zh σ H Q E P => P.here E.st rep_bl q
theorem de_str {i : Str} {j} (q : Φ (.str i) S) : DE X (.Constant (.str i) j pos) ρ S Φ := DE.of pe_str fun Zh σ H Q E P => P.here E.st rep_str q
theorem de_non {j} (q : Φ .non S) : DE X (.Constant .none j pos) ρ S Φ := DE.of pe_non fun Zh σ H Q E P => P.here E.st rep_non q
theorem da_nil {Φ : List D → Sto → Prop} (q : Φ [] S) : DA X [] ρ S Φ := DA.of pa_nil fun Zh σ H Q E P => P [] H [] S rfl Grow.refl E.st .nil rfl q
theorem da_cons {e : Expr} {es : List Expr} {Φ : List D → Sto → Prop} (h : DE X e ρ S fun d S1 => DA X es ρ S1 fun ds S2 => Φ (d :: ds) S2) (hs : starEach (e :: es) X.env = (false, eval e X.env) :: starEach es X.env) : DA X (e :: es) ρ S Φ :=
  DA.of (pa_cons pe_w pa_w hs) fun Zh σ H Q E P => h.bind E fun v H1 d S1 k1 g1 E1 r1 h1 => h1.tw E1 fun vs H2 ds S2 k2 g2 s2 r2 l2 q2 =>
    (P.next k1 g1) (v :: vs) H2 (d :: ds) S2 k2 g2 s2 (.cons (E1.st.gr g2 r1) r2) (by rw [List.length_cons, l2]; rfl) q2
theorem sz {n : Nat} (h : Nat.ble n 1000 = true) : n ≤ sizeLine := Nat.le_of_lt (small1000 (Nat.le_of_ble_eq_true h))
theorem de_tup {es : List Expr} {x1} (hl : Nat.ble es.length 1000 = true) (h : DA X es ρ S fun ds S1 => Φ (.tup ds) S1) : DE X (.Tuple es x1 pos) ρ S Φ :=
  DE.of (pe_tup pa_w) fun Zh σ H Q E P => h.tw E fun vs H1 ds S1 k1 g1 s1 r1 l1 q1 => ⟨by rw [r1.length, l1]; exact sz hl, fun p hp => (P.next k1 g1).tup s1 (by rw [k1]; exact r1) q1 hp⟩
theorem de_lst {es : List Expr} (hl : Nat.ble es.length 1000 = true) (h : DA X es ρ S fun ds S1 => Φ (.lst ds) S1) : DE X (.List es pos) ρ S Φ :=
  DE.of (pe_lst pa_w) fun Zh σ H Q E P => h.tw E fun vs H1 ds S1 k1 g1 s1 r1 l1 q1 => ⟨by rw [r1.length, l1]; exact sz hl, fun p hp => (P.next k1 g1).lst s1 (by rw [k1]; exact r1) q1 hp⟩
/-! a def's contract by data -/
abbrev Spec := List D → Sto → (D → Sto → Prop) → Prop
def spOf (K : PySem.W.Frag) (n : Nat) (B : Spec) : Sp := fun vs H Q _ => vs.length = n ∧ ∃ Zh ds S Φ, Store K Zh H S ∧ RepL K (keys S ++ Zh) H ds vs ∧ B ds S Φ ∧ Post K Zh H S Φ Q
structure Fn (P : Program) (w : World) (K : PySem.W.Frag) (mg : Str → Option Value) (base : Heap) (x : Str) (n k : Nat) (B : Spec) : Prop where
  ex : ∃ f fd ps, FnOk P w K mg base CX0 k f fd ps (spOf K n B) ∧ mg x = some (.ref f) ∧ PySem.W.keepIn K (.ref f) = true ∧ Binds K fd ps [] ∧ ps.length = n
/-- names that are used as globals: a def's, a built-in's -/
def glB (names : List (Str × NameKind)) (x : Str) : Bool := plainName x && (match names.lookup x with | some .globalImplicit => true | _ => false)
theorem glB_of {x : Str} (h : glB names x = true) : plainName x = true ∧ names.lookup x = some .globalImplicit := by
  unfold glB at h
  rw [Bool.and_eq_true] at h
  refine ⟨h.1, ?_⟩
  have h2 := h.2
  split at h2
  · assumption
  · cases h2
theorem de_call {x : Str} {p : Pos} {e : Expr} {es : List Expr} {n j : Nat} {B : Spec} (A : At X P w K mg base tb names k) (F : Fn P w K mg base x n j B) (hc : (Nat.ble j k && Nat.beq (e :: es).length n && glB names x) = true)
    (he : starEach (e :: es) X.env = (false, eval e X.env) :: starEach es X.env) (hpl : (backTo pos (starEach es X.env)).any (·.1) = false)
    (h : DA X (e :: es) ρ S fun ds S1 => B ds S1 Φ) : DE X (.Call (.Name x p) (e :: es) [] pos) ρ S Φ := by
  rw [Bool.and_eq_true, Bool.and_eq_true] at hc
  obtain ⟨⟨hj, hn⟩, hg⟩ := hc
  obtain ⟨f, fd, ps, F, m, kp, b, _⟩ := F.ex
  cases A.prog
  cases A.w
  cases A.K
  cases A.mg
  cases A.base
  exact DE.of (pe_call F (A.room.mono (Nat.le_of_ble_eq_true hj)) (A.gl _ (glB_of hg).2) m kp b .nil pass0 pa_w (plain1 (glB_of hg).1).1 he hpl) fun Zh σ H Q E P => h.tw E fun vs H1 ds S1 k1 g1 s1 r1 l1 q1 => by
    refine ⟨?_, Zh, ds, S1, Φ, s1, by rw [k1, List.append_nil]; exact r1, q1, P.next k1 g1⟩
    rw [List.append_nil, r1.length, l1]
    exact Nat.eq_of_beq_eq_true hn
end
end Ar
namespace Ar
open PySem PySem.Spec PyProof.Rows L2

/-! ### steps of a body -/
def Step (S : Sto) (H : Hp) (S' : Sto) (H' : Hp) : Prop := Grow (keys S) H H' ∧ ∀ p, p ∈ keys S' → p ∈ keys S ∨ H p = none
theorem Step.refl {S : Sto} {H : Hp} : Step S H S H := ⟨Grow.refl, fun _ h => .inl h⟩
theorem Step.of {S S' : Sto} {H H' : Hp} (k : keys S' = keys S) (g : Grow (keys S) H H') : Step S H S' H' := ⟨g, fun _ h => .inl (by rw [← k]; exact h)⟩
theorem Step.trans {S S1 S2 : Sto} {H H1 H2 : Hp} (a : Step S H S1 H1) (b : Step S1 H1 S2 H2) : Step S H S2 H2 := by
  refine ⟨fun c x n h => b.1 c x (fun m => ?_) (a.1 c x n h), fun p m => ?_⟩
  · rcases a.2 c m with q | q
    · exact n q
    · rw [h] at q
      cases q
  · rcases b.2 p m with q | q
    · exact a.2 p q
    · by_cases hp : p ∈ keys S
      · exact .inl hp
      · cases e : H p with
        | none => exact .inr rfl
        | some x =>
          rw [a.1 p x hp e] at q
          cases q
mutual
theorem Rep.step {K : PySem.W.Frag} {Zh : List Addr} {S S' : Sto} {H H' : Hp} (z : Zl (keys S) H) (g : Step S H S' H') : ∀ {d : D} {v : V}, Rep K (keys S ++ Zh) H d v → Rep K (keys S' ++ Zh) H' d v
  | .non, _, h => by unfold Rep at h ⊢; exact h
  | .bl _, _, h => by unfold Rep at h ⊢; exact h
  | .int _, _, h => by unfold Rep at h ⊢; exact h
  | .str _, _, h => by unfold Rep at h ⊢; exact h
  | .cell _, _, h => by unfold Rep at h ⊢; exact h
  | .tup l, v, h => by
    unfold Rep at h ⊢
    obtain ⟨p, vs, e, s, r⟩ := h
    exact ⟨p, vs, e, SqT.grow z g.1 s, RepL.step z g r⟩
  | .lst l, v, h => by
    unfold Rep at h ⊢
    obtain ⟨p, vs, e, n, s, r⟩ := h
    refine ⟨p, vs, e, fun m => ?_, g.1 _ _ (fun m => n (sub_l _ m)) s, RepL.step z g r⟩
    rcases List.mem_append.mp m with m | m
    · rcases g.2 p m with q | q
      · exact n (sub_l _ q)
      · rw [s] at q
        cases q
    · exact n (List.mem_append_right _ m)
  | .dct ks l, v, h => by
    unfold Rep at h ⊢
    obtain ⟨p, vs, e, n, s, r⟩ := h
    refine ⟨p, vs, e, fun m => ?_, g.1 _ _ (fun m => n (sub_l _ m)) s, RepL.step z g r⟩
    rcases List.mem_append.mp m with m | m
    · rcases g.2 p m with q | q
      · exact n (sub_l _ q)
      · rw [s] at q
        cases q
    · exact n (List.mem_append_right _ m)
  | .frz l, v, h => by
    unfold Rep at h ⊢
    obtain ⟨p, vs, e, s, r⟩ := h
    refine ⟨p, vs, e, ?_, RepL.step z g r⟩
    rcases s with ⟨n, s⟩ | s
    · refine .inl ⟨fun m => ?_, ?_⟩
      · rcases List.mem_append.mp m with m | m
        · rcases g.2 p m with q | q
          · exact n (sub_l _ q)
          · rcases s with s | ⟨o, s⟩
            · rw [s] at q
              cases q
            · rw [s] at q
              cases q
        · exact n (List.mem_append_right _ m)
      · rcases s with s | ⟨o, s⟩
        · exact .inl (g.1 _ _ (fun m => n (sub_l _ m)) s)
        · exact .inr ⟨o, g.1 _ _ (fun m => n (sub_l _ m)) s⟩
    · exact .inr s
theorem RepL.step {K : PySem.W.Frag} {Zh : List Addr} {S S' : Sto} {H H' : Hp} (z : Zl (keys S) H) (g : Step S H S' H') : ∀ {l : List D} {vs : List V}, RepL K (keys S ++ Zh) H l vs → RepL K (keys S' ++ Zh) H' l vs
  | [], _, h => by unfold RepL at h ⊢; exact h
  | d :: l, vs, h => by
    unfold RepL at h ⊢
    obtain ⟨v, r, e, h1, h2⟩ := h
    exact ⟨v, r, e, Rep.step z g h1, RepL.step z g h2⟩
end
/-! ### statements -/
structure DEnds where
  nx : Ro → Sto → Prop
  rt : D → Sto → Prop
  bk : Ro → Sto → Prop := fun _ _ => False
  ct : Ro → Sto → Prop := fun _ _ => False
def Nx (E : DEnds) (ρ : Ro) (S : Sto) : Prop := E.nx ρ S
theorem nx_norm {E : DEnds} {ρ ρ' : Ro} {S : Sto} (e : ρ = ρ') (h : E.nx ρ' S) : Nx E ρ S := by
  rw [e]
  exact h
theorem nx_mk {f : Ro → Sto → Prop} {r b c ρ S} (h : f ρ S) : DEnds.nx ⟨f, r, b, c⟩ ρ S := h
theorem rt_mk {f : D → Sto → Prop} {n b c d S} (h : f d S) : DEnds.rt ⟨n, f, b, c⟩ d S := h
theorem bk_mk {f : Ro → Sto → Prop} {n r c ρ S} (h : f ρ S) : DEnds.bk ⟨n, r, f, c⟩ ρ S := h
theorem ct_mk {f : Ro → Sto → Prop} {n r b ρ S} (h : f ρ S) : DEnds.ct ⟨n, r, b, f⟩ ρ S := h
structure EndsOk (K : PySem.W.Frag) (Zh : List Addr) (H : Hp) (S : Sto) (E : DEnds) (Dn : Ends) : Prop where
  nx : ∀ σ' H' ρ' S', Step S H S' H' → Ev K Zh H' σ' ρ' S' → E.nx ρ' S' → Dn.nx σ' H'
  rt : ∀ v H' d S', Step S H S' H' → Store K Zh H' S' → Rep K (keys S' ++ Zh) H' d v → E.rt d S' → Dn.rt v H'
  bk : ∀ σ' H' ρ' S', Step S H S' H' → Ev K Zh H' σ' ρ' S' → E.bk ρ' S' → Dn.bk σ' H'
  ct : ∀ σ' H' ρ' S', Step S H S' H' → Ev K Zh H' σ' ρ' S' → E.ct ρ' S' → Dn.ct σ' H'
theorem EndsOk.next {K : PySem.W.Frag} {Zh : List Addr} {H H1 : Hp} {S S1 : Sto} {E : DEnds} {Dn : Ends} (k : EndsOk K Zh H S E Dn) (s : Step S H S1 H1) : EndsOk K Zh H1 S1 E Dn :=
  ⟨fun _ _ _ _ t => k.nx _ _ _ _ (s.trans t), fun _ _ _ _ t => k.rt _ _ _ _ (s.trans t), fun _ _ _ _ t => k.bk _ _ _ _ (s.trans t), fun _ _ _ _ t => k.ct _ _ _ _ (s.trans t)⟩
def DS (X : Cx) (st : Stmt) (ρ : Ro) (S : Sto) (E : DEnds) : Prop :=
  ∀ (Zh : List Addr) (pins : List (Addr × Obj)) (s : Shared) (σ : L2.St) (H : Hp) (Dn : Ends), Inv X pins σ H s → Ev X.K Zh H σ ρ S → EndsOk X.K Zh H S E Dn → wpAny (model X.prog X.w) X.A (exec st X.env) (SP X pins Dn) X.xe s
def DSs (X : Cx) (st : List Stmt) (ρ : Ro) (S : Sto) (E : DEnds) : Prop :=
  ∀ (Zh : List Addr) (pins : List (Addr × Obj)) (s : Shared) (σ : L2.St) (H : Hp) (Dn : Ends), Inv X pins σ H s → Ev X.K Zh H σ ρ S → EndsOk X.K Zh H S E Dn → wpAny (model X.prog X.w) X.A (execs st X.env) (SP X pins Dn) X.xe s
def tsW (X : Cx) (st : Stmt) : TS := fun Dn σ H => ∀ (pins : List (Addr × Obj)) (s : Shared), Inv X pins σ H s → wpAny (model X.prog X.w) X.A (exec st X.env) (SP X pins Dn) X.xe s
def tssW (X : Cx) (st : List Stmt) : TS := fun Dn σ H => ∀ (pins : List (Addr × Obj)) (s : Shared), Inv X pins σ H s → wpAny (model X.prog X.w) X.A (execs st X.env) (SP X pins Dn) X.xe s
section
variable {X : Cx} {ρ : Ro} {S : Sto} {E : DEnds} {st : Stmt} {sts : List Stmt}
theorem ps_w : PS X st (tsW X st) := ⟨fun pins s _ _ _ I h => h pins s I⟩
theorem pss_w : PSs X sts (tssW X sts) := ⟨fun pins s _ _ _ I h => h pins s I⟩
theorem DS.of {t : TS} (p : PS X st t) (h : ∀ Zh σ H Dn, Ev X.K Zh H σ ρ S → EndsOk X.K Zh H S E Dn → t Dn σ H) : DS X st ρ S E := fun Zh pins s σ H Dn I e k => p.run pins s σ H Dn I (h Zh σ H Dn e k)
theorem DSs.of {t : TS} (p : PSs X sts t) (h : ∀ Zh σ H Dn, Ev X.K Zh H σ ρ S → EndsOk X.K Zh H S E Dn → t Dn σ H) : DSs X sts ρ S E := fun Zh pins s σ H Dn I e k => p.run pins s σ H Dn I (h Zh σ H Dn e k)
theorem DS.tw {Zh : List Addr} {σ : L2.St} {H : Hp} {Dn : Ends} (h : DS X st ρ S E) (e : Ev X.K Zh H σ ρ S) (k : EndsOk X.K Zh H S E Dn) : tsW X st Dn σ H := fun pins s I => h Zh pins s σ H Dn I e k
theorem DSs.tw {Zh : List Addr} {σ : L2.St} {H : Hp} {Dn : Ends} (h : DSs X sts ρ S E) (e : Ev X.K Zh H σ ρ S) (k : EndsOk X.K Zh H S E Dn) : tssW X sts Dn σ H := fun pins s I => h Zh pins s σ H Dn I e k
theorem ds_nil (h : E.nx ρ S) : DSs X [] ρ S E := DSs.of pss_nil fun Zh σ H Dn e k => k.nx σ H ρ S Step.refl e h
theorem ds_cons (h : DS X st ρ S { E with nx := fun r s => DSs X sts r s E }) : DSs X (st :: sts) ρ S E := DSs.of (pss_cons ps_w pss_w) fun Zh σ H Dn e k =>
  h.tw e ⟨fun σ' H' ρ' S' t e' q => q.tw e' (k.next t), k.rt, k.bk, k.ct⟩
theorem ds_one (h : DS X st ρ S E) : DSs X [st] ρ S E := DSs.of (pss_one ps_w) fun Zh σ H Dn e k => h.tw e k
variable {pos : Pos} {e : Expr}
theorem ds_ret (h : DE X e ρ S E.rt) : DS X (.Return (some e) pos) ρ S E := DS.of (ps_ret pe_w) fun Zh σ H Dn ev k => h.tw ev fun v H' d S' k' g s r q => k.rt v H' d S' (.of k' g) s (by rw [k']; exact r) q
theorem ds_retN (h : E.rt .non S) : DS X (.Return none pos) ρ S E := DS.of ps_retN fun Zh σ H Dn ev k => k.rt .non H .non S Step.refl ev.st rep_non h
theorem ds_pass (h : E.nx ρ S) : DS X (.Pass pos) ρ S E := DS.of ps_pass fun Zh σ H Dn ev k => k.nx σ H ρ S Step.refl ev h
theorem ds_break (h : E.bk ρ S) : DS X (.Break pos) ρ S E := DS.of ps_break fun Zh σ H Dn ev k => k.bk σ H ρ S Step.refl ev h
theorem ds_continue (h : E.ct ρ S) : DS X (.Continue pos) ρ S E := DS.of ps_continue fun Zh σ H Dn ev k => k.ct σ H ρ S Step.refl ev h
theorem ds_never (h : False) : DS X st ρ S E := h.elim
theorem ds_if {c : Expr} {a b : List Stmt} (h : DT X c ρ S fun k S1 => if k = true then DSs X a ρ S1 E else DSs X b ρ S1 E) : DS X (.If c a b pos) ρ S E := DS.of (ps_if pt_w pss_w pss_w) fun Zh σ H Dn ev k =>
  h.tw ev fun c H1 S1 k1 g1 s1 q => by
    have ev1 := ev.next k1 g1 s1
    have k2 := k.next (Step.of k1 g1)
    cases c with
    | true => exact q.tw ev1 k2
    | false => exact q.tw ev1 k2
variable {P : Program} {w : World} {K : PySem.W.Frag} {mg : Str → Option Value} {base : Heap} {tb : List (Str × Nat)} {names : List (Str × NameKind)} {k : Nat}
theorem ds_set {x : Str} {pos' : Pos} (A : At X P w K mg base tb names k) (hs : swapsWith e (some (.Name x pos')) pos.line X.env = pure false) 
    (h : ∃ i, tb.lookup x = some i ∧ stB (names.lookup x) = true ∧ DE X e ρ S fun d S1 => Nx E (ρ.set i (some d)) S1) : DS X (.Assign [.Name x pos'] e pos) ρ S E := by
  obtain ⟨i, hi, hv, h⟩ := h
  exact DS.of (ps_set A.nd (A.slot _ _ hi) (A.sto _ hv).1 pe_w hs (A.sto _ hv).2) fun Zh σ H Dn ev k => h.tw ev fun v H' d S' k' g s r q => by
    have ev1 := ev.next k' g s
    exact k.nx _ _ _ _ (.of k' g) (ev1.put (by rw [k']; exact r)) q
theorem ds_expr (hs : swapsWith e none pos.line X.env = pure false) (h : DE X e ρ S fun _ S1 => E.nx ρ S1) : DS X (.Expr e pos) ρ S E :=
  DS.of (ps_expr pe_w hs) fun Zh σ H Dn ev k => h.tw ev fun v H' d S' k' g s r q => k.nx _ _ _ _ (.of k' g) (ev.next k' g s) q
def locB (names : List (Str × NameKind)) (x : Str) : Bool := match names.lookup x with | some .local => true | _ => false
theorem locB_of {x : Str} (h : locB names x = true) : names.lookup x = some .local := by
  unfold locB at h
  split at h
  · assumption
  · cases h
theorem ne_of_beq {i j : Nat} (h : Nat.beq i j = false) : i ≠ j := fun e => by
  subst e
  rw [Nat.beq_refl] at h
  cases h
theorem ds_par {x y : Str} {a b : Expr} {px py pt : Pos} {kt k2 pt2} (A : At X P w K mg base tb names k) 
    (hw : swappedStores [.Tuple [.Name x px, .Name y py] kt pt] (.Tuple [a, b] k2 pt2) X.env = pure (some [x, y]))
    (hs : swapsWithSole [.Tuple [.Name x px, .Name y py] kt pt] (.Tuple [a, b] k2 pt2) pos.line X.env = pure false)
    (h : ∃ i j, tb.lookup x = some i ∧ tb.lookup y = some j ∧ Nat.beq i j = false ∧ (locB names x && locB names y) = true ∧
      DA X [a, b] ρ S fun ds S1 => ∃ c d, ds = [c, d] ∧ Nx E ((ρ.set i (some c)).set j (some d)) S1) : DS X (.Assign [.Tuple [.Name x px, .Name y py] kt pt] (.Tuple [a, b] k2 pt2) pos) ρ S E := by
  obtain ⟨i, j, hi, hj, hij, hv, h⟩ := h
  rw [Bool.and_eq_true] at hv
  exact DS.of (ps_par A.calm A.nd (A.slot _ _ hi) (A.slot _ _ hj) (ne_of_beq hij) (A.loc _ (locB_of hv.1)) (A.loc _ (locB_of hv.2)) pa_w hw hs) fun Zh σ H Dn ev k => h.tw ev fun vs H' ds S' k' g s r l q => by
    obtain ⟨c, d, rfl, q⟩ := q
    obtain ⟨v, r1, rfl, rv, r⟩ := r.uncons
    obtain ⟨u, r2, rfl, ru, r⟩ := r.uncons
    cases r.un0
    have ev1 := ev.next k' g s
    exact ⟨v, u, rfl, k.nx _ _ _ _ (.of k' g) ((ev1.put (by rw [k']; exact rv)).put (by rw [k']; exact ru)) q⟩
theorem ds_par3 {x y z : Str} {a b c : Expr} {px py pz pt : Pos} {kt k2 pt2} (A : At X P w K mg base tb names k) 
    (hw : swappedStores [.Tuple [.Name x px, .Name y py, .Name z pz] kt pt] (.Tuple [a, b, c] k2 pt2) X.env = pure (some [x, y, z]))
    (hs : swapsWithSole [.Tuple [.Name x px, .Name y py, .Name z pz] kt pt] (.Tuple [a, b, c] k2 pt2) pos.line X.env = pure false)
    (h : ∃ i j l, tb.lookup x = some i ∧ tb.lookup y = some j ∧ tb.lookup z = some l ∧ (Nat.beq i j = false ∧ Nat.beq i l = false ∧ Nat.beq j l = false) ∧ (locB names x && locB names y && locB names z) = true ∧
      DA X [a, b, c] ρ S fun ds S1 => ∃ a b c, ds = [a, b, c] ∧ Nx E (((ρ.set i (some a)).set j (some b)).set l (some c)) S1) : DS X (.Assign [.Tuple [.Name x px, .Name y py, .Name z pz] kt pt] (.Tuple [a, b, c] k2 pt2) pos) ρ S E := by
  obtain ⟨i, j, l, hi, hj, hl, ⟨hij, hil, hjl⟩, hv, h⟩ := h
  rw [Bool.and_eq_true, Bool.and_eq_true] at hv
  exact DS.of (ps_par3 A.calm A.nd (A.slot _ _ hi) (A.slot _ _ hj) (A.slot _ _ hl) (ne_of_beq hij) (ne_of_beq hil) (ne_of_beq hjl) (A.loc _ (locB_of hv.1.1)) (A.loc _ (locB_of hv.1.2)) (A.loc _ (locB_of hv.2)) pa_w hw hs) fun Zh σ H Dn ev k => h.tw ev fun vs H' ds S' k' g s r l q => by
    obtain ⟨a, b, c, rfl, q⟩ := q
    obtain ⟨v, r1, rfl, rv, r⟩ := r.uncons
    obtain ⟨u, r2, rfl, ru, r⟩ := r.uncons
    obtain ⟨u3, r3, rfl, ru3, r⟩ := r.uncons
    cases r.un0
    have ev1 := ev.next k' g s
    exact ⟨v, u, u3, rfl, k.nx _ _ _ _ (.of k' g) (((ev1.put (by rw [k']; exact rv)).put (by rw [k']; exact ru)).put (by rw [k']; exact ru3)) q⟩
end
/-! ### a def -/
inductive RetP (S0 : Sto) (Φ : D → Sto → Prop) : D → Sto → Prop where
  | mk {d : D} {S2 R : Sto} (h : keys S2 = keys S0) (q : Φ d S2) : RetP S0 Φ d (S2 ++ R)
  | cell {p : Addr} {l : List D} {S2 R : Sto} (h : keys S2 = keys S0) (m : (p, l) ∈ R) (q : Φ (.lst l) S2) : RetP S0 Φ (.cell p) (S2 ++ R)
theorem RetP.here {S0 S : Sto} {Φ : D → Sto → Prop} {d : D} (h : keys S = keys S0) (q : Φ d S) : RetP S0 Φ d S := by
  have z := RetP.mk (R := []) h q
  rw [List.append_nil] at z
  exact z
theorem RetP.same {S : Sto} {Φ : D → Sto → Prop} {d : D} (q : Φ d S) : RetP S Φ d S := .here rfl q
mutual
theorem Rep.shrink {K : PySem.W.Frag} {Z Z' : List Addr} {H : Hp} (z : ∀ p, p ∈ Z' → p ∈ Z) : ∀ {d : D} {v : V}, Rep K Z H d v → Rep K Z' H d v
  | .non, _, h => by unfold Rep at h ⊢; exact h
  | .bl _, _, h => by unfold Rep at h ⊢; exact h
  | .int _, _, h => by unfold Rep at h ⊢; exact h
  | .str _, _, h => by unfold Rep at h ⊢; exact h
  | .cell _, _, h => by unfold Rep at h ⊢; exact h
  | .tup l, v, h => by
    unfold Rep at h ⊢
    obtain ⟨p, vs, e, s, r⟩ := h
    exact ⟨p, vs, e, s, RepL.shrink z r⟩
  | .lst l, v, h => by
    unfold Rep at h ⊢
    obtain ⟨p, vs, e, n, s, r⟩ := h
    exact ⟨p, vs, e, fun m => n (z _ m), s, RepL.shrink z r⟩
  | .dct ks l, v, h => by
    unfold Rep at h ⊢
    obtain ⟨p, vs, e, n, s, r⟩ := h
    exact ⟨p, vs, e, fun m => n (z _ m), s, RepL.shrink z r⟩
  | .frz l, v, h => by
    unfold Rep at h ⊢
    obtain ⟨p, vs, e, s, r⟩ := h
    exact ⟨p, vs, e, s.imp (fun t => ⟨fun m => t.1 (z _ m), t.2⟩) id, RepL.shrink z r⟩
theorem RepL.shrink {K : PySem.W.Frag} {Z Z' : List Addr} {H : Hp} (z : ∀ p, p ∈ Z' → p ∈ Z) : ∀ {l : List D} {vs : List V}, RepL K Z H l vs → RepL K Z' H l vs
  | [], _, h => by unfold RepL at h ⊢; exact h
  | d :: l, vs, h => by
    unfold RepL at h ⊢
    obtain ⟨v, r, e, h1, h2⟩ := h
    exact ⟨v, r, e, Rep.shrink z h1, RepL.shrink z h2⟩
end
theorem keys_append (S R : Sto) : keys (S ++ R) = keys S ++ keys R := by
  unfold keys
  rw [List.map_append]
theorem Store.drop {K : PySem.W.Frag} {Zh : List Addr} {H : Hp} {S R : Sto} (s : Store K Zh H (S ++ R)) : Store K Zh H S := ⟨by
  have z := s.nd
  rw [keys_append] at z
  exact (List.nodup_append.mp z).1, fun p l m => by
  obtain ⟨vs, h1, h2⟩ := s.st p l (List.mem_append_left _ m)
  refine ⟨vs, h1, h2.shrink fun q hq => ?_⟩
  rw [keys_append]
  rcases List.mem_append.mp hq with z | z
  · exact List.mem_append_left _ (List.mem_append_left _ z)
  · exact List.mem_append_right _ z, fun p m => by
  obtain ⟨n, e⟩ := s.hid p m
  exact ⟨fun z => n (by rw [keys_append]; exact List.mem_append_left _ z), e⟩⟩
theorem lookup_map_get {α : Type} {l : List (Option α)} {n : Nat} : True := trivial
section
variable {P : Program} {w : World} {K : PySem.W.Frag} {mg : Str → Option Value} {base : Heap}
theorem ev_start {N : List Str} {H : Hp} {S : Sto} {ds : List D} {vs : List V} (s : Store K Zh H S) (r : RepL K (keys S ++ Zh) H ds vs) : Ev K Zh H (L2.start N vs) (ds.map some ++ List.replicate (N.length - ds.length) none) S := by
  refine ⟨s, ?_, fun i d h => ?_⟩
  · unfold L2.start
    rw [List.length_append, List.length_append, List.length_map, List.length_map, List.length_replicate, List.length_replicate, r.length]
  · by_cases hi : i < ds.length
    · rw [List.getElem?_append_left (by rw [List.length_map]; exact hi), List.getElem?_map] at h
      cases e : ds[i]? with
      | none => rw [e] at h; cases h
      | some c =>
        rw [e] at h
        have e2 : c = d := Option.some.inj (Option.some.inj h)
        subst e2
        obtain ⟨v, e3, r3⟩ := r.get e
        refine ⟨v, ?_, r3⟩
        unfold L2.start
        rw [List.getElem?_append_left (by rw [List.length_map, r.length]; exact hi), List.getElem?_map, e3]
        rfl
    · rw [List.getElem?_append_right (by rw [List.length_map]; omega), List.getElem?_replicate] at h
      split at h <;> cases h
theorem at_def {N ps : List Str} {tb : List (Str × Nat)} (ht : ∀ x i, tb.lookup x = some i → N[i]? = some x) (hc : ∀ x, x ∈ N → (tb.lookup x).isSome = true) {qual : Str} {sc : Scope} {f : Addr} {cd : Value} {A : Around} {outer : List Env} {s : Shared} {H : Hp} {E : XK} {k : Nat} (F : FnScope N ps sc) (hr : Room k (A.deeper (envOfC qual sc s.heap.objs.size f cd))) :
    At (cxOf CX0 P w K mg base N qual sc f cd A outer s H E).nox P w K mg base tb sc.names k where
  prog := rfl
  w := rfl
  K := rfl
  mg := rfl
  base := rfl
  slot := ht
  cov := hc
  vis := fun x h => by
    show Vis sc x
    unfold Vis
    revert h
    cases sc.names.lookup x with
    | none => intro h; cases h
    | some k => cases k <;> intro h <;> first | exact .inl rfl | exact .inr (.inl rfl) | exact .inr (.inr rfl) | cases h
  gl := fun x h => h
  sto := fun x h => by
    refine ⟨?_, .inl rfl⟩
    show L2.Loc sc x
    unfold L2.Loc
    revert h
    cases sc.names.lookup x with
    | none => intro h; cases h
    | some k => cases k <;> intro h <;> first | exact .inl rfl | exact .inr rfl | cases h
  loc := fun x h => h
  cf := fun x h => by
    show sc.names.lookup x = some .cell ∨ sc.names.lookup x = some .free
    revert h
    cases sc.names.lookup x with
    | none => intro h; cases h
    | some k => cases k <;> intro h <;> first | exact .inl rfl | exact .inr rfl | cases h
  kind := F.kind
  room := hr
  calm := rfl
  nd := F.nd
  nox := rfl
/-- the slots of names, by a table -/
def tbOk (N : List Str) (tb : List (Str × Nat)) : Bool := (tb.all fun p => decide (N[p.2]? = some p.1)) && N.all fun x => (tb.lookup x).isSome
theorem tbOk_of {N : List Str} {tb : List (Str × Nat)} (h : tbOk N tb = true) : ∀ x i, tb.lookup x = some i → N[i]? = some x := fun x i e => by
  unfold tbOk at h
  rw [Bool.and_eq_true, List.all_eq_true] at h
  exact of_decide_eq_true (h.1 (x, i) (PySem.mem_of_lookup e))
theorem tbOk_cov {N : List Str} {tb : List (Str × Nat)} (h : tbOk N tb = true) : ∀ x, x ∈ N → (tb.lookup x).isSome = true := fun x hx => by
  unfold tbOk at h
  rw [Bool.and_eq_true, List.all_eq_true, List.all_eq_true] at h
  exact h.2 x hx
/-- a def keeps its contract by data -/
theorem fn_data {tb : List (Str × Nat)} {x qual : Str} {st : Stmt} {f : Addr} {fd : FuncData} {N ps : List Str} {k : Nat} {n : Nat} {names : List (Str × NameKind)} {B : Spec} (F : Fun K x qual st f fd) (Sc : FnScope N ps (defScope st)) (hn : ps.length = n) (hnm : (defScope st).names = names) (ht : tbOk N tb = true)
    (hm : mg x = some (.ref f)) (hb : Binds K fd ps [])
    (body : ∀ X, At X P w K mg base tb names k → ∀ ds S Φ, ds.length = n → B ds S Φ → DSs X (defBody st) (ds.map some ++ List.replicate (N.length - ds.length) none) S { nx := fun _ S' => RetP S Φ .non S', rt := RetP S Φ }) : Fn P w K mg base x n (k + 1) B := by
  refine ⟨f, fd, ps, F.ok Sc (fun vs H Q E h => by rw [h.1, hn]) (fun cdv A outer s H vs Q E hr h => ?_), hm, F.kp, hb, hn⟩
  obtain ⟨hl, Zh, ds, S, Φ, hS, hR, hB, hP⟩ := h
  have hat := at_def (P := P) (w := w) (K := K) (mg := mg) (base := base) (qual := qual) (f := f) (cd := cdv) (A := A) (outer := outer) (s := s) (H := H) (E := E) (tbOk_of ht) (tbOk_cov ht) Sc hr
  rw [hnm] at hat
  have b := body _ hat ds S Φ (by rw [← hR.length]; exact hl) hB
  refine ⟨_, pss_w, b.tw (ev_start hS hR) ?_⟩
  have fin : ∀ v H' d S', Step S H S' H' → Store K Zh H' S' → Rep K (keys S' ++ Zh) H' d v → RetP S Φ d S' → Q v H' := fun v H' d S' t s' r q => by
    have sub : ∀ {S2 R : Sto}, keys S2 = keys S → ∀ p, p ∈ keys S ++ Zh → p ∈ keys (S2 ++ R) ++ Zh := fun {S2 R} h p m => by
      rw [keys_append, h]
      rcases List.mem_append.mp m with z | z
      · exact List.mem_append_left _ (List.mem_append_left _ z)
      · exact List.mem_append_right _ z
    cases q with
    | mk h q =>
      rename_i S2 R
      exact hP v H' d S2 h t.1 s'.drop (r.shrink (sub h)) q
    | cell h m q =>
      rename_i p l S2 R
      obtain ⟨vs, h1, h2⟩ := s'.st p l (List.mem_append_right _ m)
      refine hP v H' (.lst l) S2 h t.1 s'.drop ?_ q
      rw [r.cell]
      unfold Rep
      refine ⟨p, vs, rfl, fun n => ?_, h1, h2.shrink (sub h)⟩
      have pk : p ∈ keys (S2 ++ R) := by
        rw [keys_append]
        exact List.mem_append_right _ (List.mem_map.mpr ⟨_, m, rfl⟩)
      rcases List.mem_append.mp n with z | z
      · have nd := s'.nd
        rw [keys_append, List.nodup_append] at nd
        exact nd.2.2 p (by rw [h]; exact z) p (List.mem_map.mpr ⟨_, m, rfl⟩) rfl
      · exact (s'.hid p z).1 pk
  exact ⟨fun σ' H' ρ' S' t ev q => fin .non H' .non S' t ev.st rep_non q, fin, fun _ _ _ _ _ _ q => q.elim, fun _ _ _ _ _ _ q => q.elim⟩
end
end Ar
namespace Ar
open PySem PySem.Spec PyProof.Rows L2

/-! ### targets -/
def PostG (K : PySem.W.Frag) (Zh : List Addr) (H : Hp) (S : Sto) (σ : L2.St) (ok : Nat → Bool) (Φ : Ro → Sto → Prop) (Q : L2.St → Hp → Prop) : Prop :=
  ∀ σ' H' ρ' S', keys S' = keys S → Grow (keys S) H H' → Ev K Zh H' σ' ρ' S' → σ'.length = σ.length → (∀ j, ok j = false → σ'[j]? = σ[j]?) → Φ ρ' S' → Q σ' H'
def DG (X : Cx) (ok : Nat → Bool) (tg : Expr) (d : D) (ρ : Ro) (S : Sto) (Φ : Ro → Sto → Prop) : Prop :=
  ∀ (Zh : List Addr) (pins : List (Addr × Obj)) (s : Shared) (σ : L2.St) (H : Hp) (v : V) (u : Value) (Q : L2.St → Hp → Prop), Inv X pins σ H s → Ev X.K Zh H σ ρ S → Rep X.K (keys S ++ Zh) H d v → RelV v u → PostG X.K Zh H S σ ok Φ Q →
    wpAny (model X.prog X.w) X.A (assign tg X.env u) (fun _ s' => ∃ σ' H', Inv X pins σ' H' s' ∧ Q σ' H') X.xe s
def DGs (X : Cx) (ok : Nat → Bool) (ts : List Expr) (ds : List D) (ρ : Ro) (S : Sto) (Φ : Ro → Sto → Prop) : Prop :=
  ∀ (Zh : List Addr) (pins : List (Addr × Obj)) (s : Shared) (σ : L2.St) (H : Hp) (vs : List V) (us : List Value) (Q : L2.St → Hp → Prop), Inv X pins σ H s → Ev X.K Zh H σ ρ S → RepL X.K (keys S ++ Zh) H ds vs → Vals vs us → PostG X.K Zh H S σ ok Φ Q →
    wpAny (model X.prog X.w) X.A (assignInOrder ((assignEach ts X.env).map (·.2)) us) (fun _ s' => ∃ σ' H', Inv X pins σ' H' s' ∧ Q σ' H') X.xe s
def gW (X : Cx) (tg : Expr) : TG := fun v σ H Q => ∀ (pins : List (Addr × Obj)) (s : Shared) (u : Value), Inv X pins σ H s → RelV v u → wpAny (model X.prog X.w) X.A (assign tg X.env u) (fun _ s' => ∃ σ' H', Inv X pins σ' H' s' ∧ Q σ' H') X.xe s
def gsW (X : Cx) (ts : List Expr) : TGs := fun vs σ H Q => ∀ (pins : List (Addr × Obj)) (s : Shared) (us : List Value), Inv X pins σ H s → Vals vs us →
  wpAny (model X.prog X.w) X.A (assignInOrder ((assignEach ts X.env).map (·.2)) us) (fun _ s' => ∃ σ' H', Inv X pins σ' H' s' ∧ Q σ' H') X.xe s
section
variable {X : Cx} {ρ : Ro} {S : Sto} {ok : Nat → Bool} {tg : Expr} {ts : List Expr} {d : D} {ds : List D} {Φ : Ro → Sto → Prop}
theorem pg_w : PG X tg (gW X tg) := ⟨fun pins s _ _ _ u _ I r h => h pins s u I r⟩
theorem pgs_w : PGs X ts (gsW X ts) := ⟨fun pins s _ _ _ u _ I r h => h pins s u I r⟩
theorem DG.of {t : TG} (p : PG X tg t) (h : ∀ Zh σ H v Q, Ev X.K Zh H σ ρ S → Rep X.K (keys S ++ Zh) H d v → PostG X.K Zh H S σ ok Φ Q → t v σ H Q) : DG X ok tg d ρ S Φ := fun Zh pins s σ H v u Q I E r rv k => p.run pins s σ H v u Q I rv (h Zh σ H v Q E r k)
theorem DGs.of {t : TGs} (p : PGs X ts t) (h : ∀ Zh σ H vs Q, Ev X.K Zh H σ ρ S → RepL X.K (keys S ++ Zh) H ds vs → PostG X.K Zh H S σ ok Φ Q → t vs σ H Q) : DGs X ok ts ds ρ S Φ := fun Zh pins s σ H v u Q I E r rv k => p.run pins s σ H v u Q I rv (h Zh σ H v Q E r k)
theorem DG.tw {Zh : List Addr} {σ : L2.St} {H : Hp} {v : V} {Q : L2.St → Hp → Prop} (h : DG X ok tg d ρ S Φ) (E : Ev X.K Zh H σ ρ S) (r : Rep X.K (keys S ++ Zh) H d v) (k : PostG X.K Zh H S σ ok Φ Q) : gW X tg v σ H Q := fun pins s u I rv => h Zh pins s σ H v u Q I E r rv k
theorem DGs.tw {Zh : List Addr} {σ : L2.St} {H : Hp} {v : List V} {Q : L2.St → Hp → Prop} (h : DGs X ok ts ds ρ S Φ) (E : Ev X.K Zh H σ ρ S) (r : RepL X.K (keys S ++ Zh) H ds v) (k : PostG X.K Zh H S σ ok Φ Q) : gsW X ts v σ H Q := fun pins s u I rv => h Zh pins s σ H v u Q I E r rv k
variable {P : Program} {w : World} {K : PySem.W.Frag} {mg : Str → Option Value} {base : Heap} {tb : List (Str × Nat)} {names : List (Str × NameKind)} {k : Nat} {pos : Pos}
def NxG (Φ : Ro → Sto → Prop) (ρ : Ro) (S : Sto) : Prop := Φ ρ S
theorem nxG_norm {Φ : Ro → Sto → Prop} {ρ ρ' : Ro} {S : Sto} (e : ρ = ρ') (h : Φ ρ' S) : NxG Φ ρ S := by
  rw [e]
  exact h
theorem dg_name {x : Str} (A : At X P w K mg base tb names k) (h : ∃ i, tb.lookup x = some i ∧ (stB (names.lookup x) && ok i) = true ∧ NxG Φ (ρ.set i (some d)) S) : DG X ok (.Name x pos) d ρ S Φ := by
  obtain ⟨i, hi, hv, h⟩ := h
  rw [Bool.and_eq_true] at hv
  exact DG.of (pg_name A.nd (A.slot _ _ hi) (A.sto _ hv.1).1 (A.sto _ hv.1).2) fun Zh σ H v Q E r k => k _ _ _ _ rfl Grow.refl (E.put r) List.length_set (fun j hj => by
    rw [List.getElem?_set_ne]
    intro e
    subst e
    rw [hv.2] at hj
    cases hj) h
theorem dgs_nil (h : Φ ρ S) : DGs X ok [] [] ρ S Φ := DGs.of pgs_nil fun Zh σ H vs Q E r k => ⟨r.un0, k _ _ _ _ rfl Grow.refl E rfl (fun _ _ => rfl) h⟩
theorem dgs_cons (hs : (assignEach (tg :: ts) X.env).map (·.2) = assign tg X.env :: (assignEach ts X.env).map (·.2)) (h : DG X ok tg d ρ S fun ρ1 S1 => DGs X ok ts ds ρ1 S1 Φ) : DGs X ok (tg :: ts) (d :: ds) ρ S Φ :=
  DGs.of (pgs_cons pg_w pgs_w hs) fun Zh σ H vs Q E r k => by
    obtain ⟨v, r', rfl, rv, rr⟩ := r.uncons
    refine ⟨v, r', rfl, h.tw E rv fun σ1 H1 ρ1 S1 k1 g1 E1 l1 o1 q1 => q1.tw E1 (by rw [k1]; exact E.st.grL g1 rr) fun σ2 H2 ρ2 S2 k2 g2 E2 l2 o2 q2 =>
      k σ2 H2 ρ2 S2 (k2.trans k1) (g1.trans (by rw [← k1]; exact g2)) E2 (l2.trans l1) (fun j hj => (o2 j hj).trans (o1 j hj)) q2⟩
theorem dg_tup {es : List Expr} {kk : Nat} {n : Nat} (A : At X P w K mg base tb names k) (hn : (assignEach es X.env).length = n) (hst : (assignEach es X.env).findIdx? (·.1) = none) (h : ∃ l, d = .tup l ∧ Nat.beq l.length n = true ∧ DGs X ok es l ρ S Φ) : DG X ok (.Tuple es kk pos) d ρ S Φ := by
  obtain ⟨l, rfl, hl, h⟩ := h
  exact DG.of (pg_tup A.calm pgs_w hn hst) fun Zh σ H v Q E r k => by
    obtain ⟨p, vs, rfl, sq, rl⟩ := r.tup
    exact ⟨p, vs, rfl, sq, by rw [rl.length]; exact Nat.eq_of_beq_eq_true hl, h.tw E rl k⟩
theorem ds_asg {e : Expr} {E : DEnds} (hs : swapsWithSole [tg] e pos.line X.env = pure false) (hw : swappedStores [tg] e X.env = pure none) (h1 : (assignEach [tg] X.env).map (·.2) = [assign tg X.env])
    (h : DE X e ρ S fun d S1 => DG X (fun _ => true) tg d ρ S1 E.nx) : DS X (.Assign [tg] e pos) ρ S E :=
  DS.of (ps_asg pe_w pg_w hs hw h1) fun Zh σ H Dn ev k => h.bind ev fun v H1 d S1 k1 g1 E1 r1 h1 => h1.tw E1 r1 fun σ2 H2 ρ2 S2 k2 g2 E2 l2 o2 q2 =>
    k.nx _ _ _ _ ((Step.of k1 g1).trans (Step.of k2 g2)) E2 q2
end
/-! ### what is walked -/
structure ItOk (K : PySem.W.Frag) (Zh : List Addr) (S : Sto) (H0 : Hp) (ds : List D) (J : It) : Prop where
  go : ∀ i S' H, Step S H0 S' H → i < ds.length → J.go i H
  stop : ∀ S' H, Step S H0 S' H → J.stop ds.length H
  yld : ∀ i S' H x H' Zx, (∀ p, p ∈ Zx → H0 p = none) → Step S H0 S' H → Store K (Zx ++ Zh) H S' → i < ds.length → J.yld i H x H' → ∃ d, ds[i]? = some d ∧ Same H H' ∧ Rep K (keys S' ++ (Zx ++ Zh)) H' d x
mutual
theorem Rep.fresh {K : PySem.W.Frag} {A Zh Zx : List Addr} {H : Hp} (z : ∀ p, p ∈ Zx → H p = none) : ∀ {d : D} {v : V}, Rep K (A ++ Zh) H d v → Rep K (A ++ (Zx ++ Zh)) H d v
  | .non, _, h => by unfold Rep at h ⊢; exact h
  | .bl _, _, h => by unfold Rep at h ⊢; exact h
  | .int _, _, h => by unfold Rep at h ⊢; exact h
  | .str _, _, h => by unfold Rep at h ⊢; exact h
  | .cell _, _, h => by unfold Rep at h ⊢; exact h
  | .tup l, v, h => by
    unfold Rep at h ⊢
    obtain ⟨p, vs, e, s, r⟩ := h
    exact ⟨p, vs, e, s, RepL.fresh z r⟩
  | .lst l, v, h => by
    unfold Rep at h ⊢
    obtain ⟨p, vs, e, n, s, r⟩ := h
    refine ⟨p, vs, e, fun m => ?_, s, RepL.fresh z r⟩
    rcases List.mem_append.mp m with m | m
    · exact n (List.mem_append_left _ m)
    · rcases List.mem_append.mp m with m | m
      · rw [z p m] at s
        cases s
      · exact n (List.mem_append_right _ m)
  | .dct ks l, v, h => by
    unfold Rep at h ⊢
    obtain ⟨p, vs, e, n, s, r⟩ := h
    refine ⟨p, vs, e, fun m => ?_, s, RepL.fresh z r⟩
    rcases List.mem_append.mp m with m | m
    · exact n (List.mem_append_left _ m)
    · rcases List.mem_append.mp m with m | m
      · rw [z p m] at s
        cases s
      · exact n (List.mem_append_right _ m)
  | .frz l, v, h => by
    unfold Rep at h ⊢
    obtain ⟨p, vs, e, s, r⟩ := h
    refine ⟨p, vs, e, s.imp (fun t => ⟨fun m => ?_, t.2⟩) id, RepL.fresh z r⟩
    rcases List.mem_append.mp m with m | m
    · exact t.1 (List.mem_append_left _ m)
    · rcases List.mem_append.mp m with m | m
      · rcases t.2 with s | ⟨o, s⟩
        · rw [z p m] at s
          cases s
        · rw [z p m] at s
          cases s
      · exact t.1 (List.mem_append_right _ m)
theorem RepL.fresh {K : PySem.W.Frag} {A Zh Zx : List Addr} {H : Hp} (z : ∀ p, p ∈ Zx → H p = none) : ∀ {l : List D} {vs : List V}, RepL K (A ++ Zh) H l vs → RepL K (A ++ (Zx ++ Zh)) H l vs
  | [], _, h => by unfold RepL at h ⊢; exact h
  | d :: l, vs, h => by
    unfold RepL at h ⊢
    obtain ⟨v, r, e, h1, h2⟩ := h
    exact ⟨v, r, e, Rep.fresh z h1, RepL.fresh z h2⟩
end
def DI (X : Cx) (tg iter : Expr) (ρ : Ro) (S : Sto) (Φ : List D → Sto → Prop) : Prop :=
  ∀ (Zh : List Addr) (pins : List (Addr × Obj)) (s : Shared) (σ : L2.St) (H : Hp) (R : It → Hp → Prop), Inv X pins σ H s → Ev X.K Zh H σ ρ S →
    (∀ J H' ds S', keys S' = keys S → Grow (keys S) H H' → Store X.K Zh H' S' → ItOk X.K Zh S' H' ds J → Φ ds S' → R J H') →
    wpAny (model X.prog X.w) X.A (eval iter X.env) (fun v s1 => wpAny (model X.prog X.w) X.A (pyIter v) (PIE X pins σ tg R) X.xe s1) X.xe s
def tiW (X : Cx) (tg iter : Expr) : TI := fun σ H R => ∀ (pins : List (Addr × Obj)) (s : Shared), Inv X pins σ H s → wpAny (model X.prog X.w) X.A (eval iter X.env) (fun v s1 => wpAny (model X.prog X.w) X.A (pyIter v) (PIE X pins σ tg R) X.xe s1) X.xe s
theorem Same.ev {K : PySem.W.Frag} {Zh : List Addr} {H H' : Hp} {σ : L2.St} {ρ : Ro} {S : Sto} (E : Ev K Zh H σ ρ S) (g : Same H H') : Ev K Zh H' σ ρ S :=
  E.next rfl (fun b x _ h => g b x h) (E.st.keep g)
theorem Same.step {S : Sto} {H H' : Hp} (g : Same H H') : Step S H S H' := .of rfl fun b x _ h => g b x h
section
variable {X : Cx} {ρ : Ro} {S : Sto} {tg iter e : Expr} {Φ : List D → Sto → Prop}
theorem pi_w : PI X tg iter (tiW X tg iter) := ⟨fun pins s _ _ _ I h => h pins s I⟩
theorem DI.of {t : TI} (p : PI X tg iter t) (h : ∀ Zh σ H R, Ev X.K Zh H σ ρ S → (∀ J H' ds S', keys S' = keys S → Grow (keys S) H H' → Store X.K Zh H' S' → ItOk X.K Zh S' H' ds J → Φ ds S' → R J H') → t σ H R) : DI X tg iter ρ S Φ := fun Zh pins s σ H R I E k => p.run pins s σ H R I (h Zh σ H R E k)
theorem DI.tw {Zh : List Addr} {σ : L2.St} {H : Hp} {R : It → Hp → Prop} (h : DI X tg iter ρ S Φ) (E : Ev X.K Zh H σ ρ S) (k : ∀ J H' ds S', keys S' = keys S → Grow (keys S) H H' → Store X.K Zh H' S' → ItOk X.K Zh S' H' ds J → Φ ds S' → R J H') : tiW X tg iter σ H R := fun pins s I => h Zh pins s σ H R I E k
theorem it_tup {K : PySem.W.Frag} {Zh : List Addr} {H : Hp} {l : List D} {p : Addr} {vs : List V} (st : Store K Zh H S) (sq : SqT K H p vs) (rl : RepL K (keys S ++ Zh) H l vs) : ItOk K Zh S H l (Itt K p) where
  go := fun i S' H' t hi => ⟨vs, vs[i]'(by rw [rl.length]; exact hi), SqT.grow st.zl t.1 sq, List.getElem?_eq_getElem _⟩
  stop := fun S' H' t => ⟨vs, SqT.grow st.zl t.1 sq, by rw [rl.length]; exact Nat.le_refl _⟩
  yld := fun i S' H' x H2 Zx zx t st' hi y => by
    obtain ⟨rfl, y⟩ := y
    obtain ⟨d, hd, r⟩ := rl.get2 (y vs (SqT.grow st.zl t.1 sq))
    exact ⟨d, hd, Same.refl _, Rep.step st.zl t (Rep.fresh zx r)⟩
theorem lst_step {K : PySem.W.Frag} {S S' : Sto} {H H' : Hp} {p : Addr} {vs : List V} (t : Step S H S' H') (h : (p ∉ keys S ∧ Rd H p (.lst vs)) ∨ KL K p vs) : SqL K H' p vs := by
  rcases h with ⟨n, h⟩ | h
  · rcases h with h | ⟨o, h⟩
    · exact .inl (.inl (t.1 _ _ n h))
    · exact .inl (.inr ⟨o, t.1 _ _ n h⟩)
  · exact .inr h
theorem frz_l {K : PySem.W.Frag} {Zh : List Addr} {H : Hp} {p : Addr} {vs : List V} (h : (p ∉ keys S ++ Zh ∧ Rd H p (.lst vs)) ∨ KL K p vs) : (p ∉ keys S ∧ Rd H p (.lst vs)) ∨ KL K p vs := h.imp (fun t => ⟨fun m => t.1 (sub_l _ m), t.2⟩) id
theorem it_lst {K : PySem.W.Frag} {Zh : List Addr} {H : Hp} {l : List D} {p : Addr} {vs : List V} (st : Store K Zh H S) (sq : (p ∉ keys S ∧ Rd H p (.lst vs)) ∨ KL K p vs) (rl : RepL K (keys S ++ Zh) H l vs) : ItOk K Zh S H l (Itl K p) where
  go := fun i S' H' t hi => ⟨vs, vs[i]'(by rw [rl.length]; exact hi), lst_step t sq, List.getElem?_eq_getElem _⟩
  stop := fun S' H' t => ⟨vs, lst_step t sq, by rw [rl.length]; exact Nat.le_refl _⟩
  yld := fun i S' H' x H2 Zx zx t st' hi y => by
    obtain ⟨rfl, y⟩ := y
    obtain ⟨d, hd, r⟩ := rl.get2 (y vs (lst_step t sq))
    exact ⟨d, hd, Same.refl _, Rep.step st.zl t (Rep.fresh zx r)⟩
theorem di_tup (h : DE X e ρ S fun d S1 => ∃ l, d = .tup l ∧ Φ l S1) : DI X tg e ρ S Φ := DI.of (pi_tup pe_w) fun Zh σ H R E k => h.bind E fun v H1 d S1 k1 g1 E1 r1 h1 => by
  obtain ⟨l, rfl, q⟩ := h1
  obtain ⟨p, vs, rfl, sq, rl⟩ := r1.tup
  exact ⟨p, rfl, ⟨vs, sq⟩, k _ H1 l S1 k1 g1 E1.st (it_tup E1.st sq rl) q⟩
theorem di_lst (h : DE X e ρ S fun d S1 => ∃ l, d = .lst l ∧ Φ l S1) : DI X tg e ρ S Φ := DI.of (pi_list pe_w) fun Zh σ H R E k => h.bind E fun v H1 d S1 k1 g1 E1 r1 h1 => by
  obtain ⟨l, rfl, q⟩ := h1
  obtain ⟨p, vs, rfl, n, sq, rl⟩ := r1.lst
  exact ⟨p, rfl, ⟨vs, .inl (.inl sq)⟩, k _ H1 l S1 k1 g1 E1.st (it_lst E1.st (frz_l (.inl ⟨n, .inl sq⟩)) rl) q⟩
theorem di_frz (h : DE X e ρ S fun d S1 => ∃ l, d = .frz l ∧ Φ l S1) : DI X tg e ρ S Φ := DI.of (pi_list pe_w) fun Zh σ H R E k => h.bind E fun v H1 d S1 k1 g1 E1 r1 h1 => by
  obtain ⟨l, rfl, q⟩ := h1
  obtain ⟨p, vs, rfl, sq, rl⟩ := r1.frz
  exact ⟨p, rfl, ⟨vs, frz_sq sq⟩, k _ H1 l S1 k1 g1 E1.st (it_lst E1.st (frz_l sq) rl) q⟩
/-- lo, lo + 1, .. -/
def rangeD (lo : Int) (n : Nat) : List D := (List.range n).map fun (i : Nat) => D.int (lo + (i : Int))
theorem rangeD_len {lo : Int} {n : Nat} : (rangeD lo n).length = n := by
  unfold rangeD
  rw [List.length_map, List.length_range]
theorem rangeD_get {lo : Int} {n i : Nat} (h : i < n) : (rangeD lo n)[i]? = some (.int (lo + i)) := by
  unfold rangeD
  rw [List.getElem?_map, List.getElem?_range h]
  rfl
theorem it_range {K : PySem.W.Frag} {Zh : List Addr} {H : Hp} {lo : Int} {n : Nat} : ItOk K Zh S H (rangeD lo n) (Itr lo n) where
  go := fun i S' H' t hi => by
    rw [rangeD_len] at hi
    exact hi
  stop := fun S' H' t => by
    rw [rangeD_len]
    exact Nat.le_refl n
  yld := fun i S' H' x H2 Zx zx t st' hi y => by
    obtain ⟨rfl, rfl⟩ := y
    rw [rangeD_len] at hi
    exact ⟨_, rangeD_get hi, Same.refl _, rep_int⟩
/-- the signs of a text -/
def charsD (x : Str) : List D := x.cps.toList.map fun c => D.str ⟨#[c]⟩
theorem it_str {K : PySem.W.Frag} {Zh : List Addr} {H : Hp} {x : Str} : ItOk K Zh S H (charsD x) (Its x) where
  go := fun i S' H' t hi => by
    unfold charsD at hi
    rw [List.length_map] at hi
    exact hi
  stop := fun S' H' t => by
    show x.cps.size ≤ (charsD x).length
    unfold charsD
    rw [List.length_map]
    exact Nat.le_refl _
  yld := fun i S' H' v H2 Zx zx t st' hi y => by
    obtain ⟨rfl, c, hc, rfl⟩ := y
    refine ⟨.str ⟨#[c]⟩, ?_, Same.refl _, rep_str⟩
    unfold charsD
    rw [List.getElem?_map, Array.getElem?_toList, hc]
    rfl
theorem di_str (h : DE X e ρ S fun d S1 => ∃ x, d = .str x ∧ Φ (charsD x) S1) : DI X tg e ρ S Φ := DI.of (pi_str pe_w) fun Zh σ H R E k => h.bind E fun v H1 d S1 k1 g1 E1 r1 h1 => by
  obtain ⟨x, rfl, q⟩ := h1
  exact ⟨x, r1.str, k _ H1 _ S1 k1 g1 E1.st it_str q⟩
variable {P : Program} {w : World} {K : PySem.W.Frag} {mg : Str → Option Value} {base : Heap} {tb : List (Str × Nat)} {names : List (Str × NameKind)} {k : Nat} {pos p : Pos}
theorem di_range1 (A : At X P w K mg base tb names k) (hm : mg "range" = none) (hg : glB names "range" = true) (hs : starEach [e] X.env = [(false, eval e X.env)])
    (h : DE X e ρ S fun d S1 => ∃ i, d = .int i ∧ (-(2 ^ 62) ≤ i ∧ i < 2 ^ 62) ∧ Φ (rangeD 0 i.toNat) S1) (hs2 : starEach (e :: []) X.env = (false, eval e X.env) :: starEach [] X.env) : DI X tg (.Call (.Name "range" p) [e] [] pos) ρ S Φ :=
  DI.of (pi_range1 (A.gl _ (glB_of hg).2) (by rw [A.mg]; exact hm) (pa_cons pe_w pa_nil hs2) hs) fun Zh σ H R E k => h.bind E fun v H1 d S1 k1 g1 E1 r1 h1 => by
    obtain ⟨i, rfl, ⟨h1, h2⟩, q⟩ := h1
    refine ⟨i, by rw [r1.int], h1, h2, k _ H1 _ S1 k1 g1 E1.st it_range q⟩
theorem di_range2 {e2 : Expr} (A : At X P w K mg base tb names k) (hm : mg "range" = none) (hg : glB names "range" = true) (hs : starEach [e, e2] X.env = [(false, eval e X.env), (false, eval e2 X.env)]) (hs2 : starEach [e2] X.env = [(false, eval e2 X.env)])
    (hs3 : starEach (e :: [e2]) X.env = (false, eval e X.env) :: starEach [e2] X.env) (hs4 : starEach (e2 :: []) X.env = (false, eval e2 X.env) :: starEach [] X.env)
    (h : DE X e ρ S fun d S1 => DE X e2 ρ S1 fun c S2 => ∃ i j, d = .int i ∧ c = .int j ∧ (-(2 ^ 62) ≤ i ∧ i < 2 ^ 62 ∧ -(2 ^ 62) ≤ j ∧ j < 2 ^ 62) ∧ Φ (rangeD i (j - i).toNat) S2) : DI X tg (.Call (.Name "range" p) [e, e2] [] pos) ρ S Φ :=
  DI.of (pi_range2 (A.gl _ (glB_of hg).2) (by rw [A.mg]; exact hm) (pa_cons pe_w (pa_cons pe_w pa_nil hs4) hs3) hs hs2) fun Zh σ H R E k => h.bind E fun v H1 d S1 k1 g1 E1 r1 h1 => h1.bind E1 fun v2 H2 d2 S2 k2 g2 E2 r2 h2 => by
    obtain ⟨i, j, rfl, rfl, hb, q⟩ := h2
    refine ⟨i, j, by rw [(E1.st.gr g2 r1).int, r2.int], hb, k _ H2 _ S2 (k2.trans k1) (g1.trans (by rw [← k1]; exact g2)) E2.st it_range q⟩
/-! ### for -/
def ForD (X : Cx) (tg : Expr) (body : List Stmt) : List D → Ro → Sto → DEnds → Prop
  | [], ρ, S, E => E.nx ρ S
  | d :: ds, ρ, S, E => DG X (fun _ => true) tg d ρ S fun ρ1 S1 => DSs X body ρ1 S1 { E with nx := fun r s => ForD X tg body ds r s E, ct := fun r s => ForD X tg body ds r s E, bk := E.nx }
theorem ds_for {body : List Stmt} {E : DEnds} (A : At X P w K mg base tb names k) (hs : ∀ x, foldedSetIterable iter X.env x = pure x) (h : DI X tg iter ρ S fun ds S1 => ForD X tg body ds ρ S1 E) : DS X (.For tg iter body [] pos) ρ S E :=
  DS.of (ps_for (by rw [A.nox]; exact PassesOwn.never) A.calm pi_w pg_w pss_w hs) fun Zh σ H Dn ev kk => h.tw ev fun J H1 ds S1 k1 g1 s1 it q => by
    have ev1 := ev.next k1 g1 s1
    have kk1 := kk.next (Step.of k1 g1)
    refine ⟨fun i m σ' H' => ∃ ρ' S', Step S1 H1 S' H' ∧ Ev X.K Zh H' σ' ρ' S' ∧ ForD X tg body (ds.drop i) ρ' S' E ∧ m = ds.length - i ∧ i ≤ ds.length, ⟨ds.length, ρ, S1, Step.refl, ev1, q, rfl, Nat.zero_le _⟩, ?_⟩
    rintro i m σ2 H2 ⟨ρ2, S2, t2, ev2, q2, rfl, hi⟩
    by_cases hlt : i < ds.length
    · refine .inr ⟨it.go i S2 H2 t2 hlt, fun σ' H' => ∃ ρ' S', Step S1 H1 S' H' ∧ Ev X.K Zh H' σ' ρ' S' ∧ ForD X tg body (ds.drop (i + 1)) ρ' S' E, ?_, fun x H3 y => ?_⟩
      · rintro σ' H' ⟨ρ', S', t, ev, q⟩
        exact ⟨ds.length - (i + 1), by omega, ρ', S', t, ev, q, rfl, hlt⟩
      · obtain ⟨d, hd, sm, rd⟩ := it.yld i S2 H2 x H3 [] (fun _ h => nomatch h) t2 ev2.st hlt y
        have e : ds.drop i = d :: ds.drop (i + 1) := by
          rw [List.drop_eq_getElem_cons hlt]
          congr 1
          rw [List.getElem?_eq_getElem hlt] at hd
          exact Option.some.inj hd
        rw [e] at q2
        have ev3 := Same.ev ev2 sm
        have t3 := t2.trans (Same.step sm)
        refine DG.tw q2 ev3 rd fun σ4 H4 ρ4 S4 k4 g4 ev4 _ _ q4 => ?_
        have t4 := t3.trans (Step.of k4 g4)
        refine q4.tw ev4 ⟨fun σ' H' ρ' S' t e q => ⟨ρ', S', t4.trans t, e, q⟩, fun v H' d S' t s r q => kk1.rt v H' d S' (t4.trans t) s r q, fun σ' H' ρ' S' t e q => kk1.nx σ' H' ρ' S' (t4.trans t) e q, fun σ' H' ρ' S' t e q => ⟨ρ', S', t4.trans t, e, q⟩⟩
    · refine .inl ⟨?_, ?_⟩
      · have e : i = ds.length := by omega
        subst e
        exact it.stop S2 H2 t2
      · rw [List.drop_eq_nil_of_le (by omega)] at q2
        exact kk1.nx _ _ _ _ t2 ev2 q2
end
end Ar
namespace Ar
open PySem PySem.Spec PyProof.Rows L2
open RZ (ItzT pi_zipA iZipA)
/-! ### zip, enumerate -/
def zipD : List D → List D → List D
  | a :: l, b :: m => .tup [a, b] :: zipD l m
  | _, _ => []
theorem zipD_len : ∀ {l m : List D}, (zipD l m).length = min l.length m.length
  | [], m => by simp [zipD]
  | _ :: _, [] => by simp [zipD]
  | a :: l, b :: m => by
    show (zipD l m).length + 1 = min (l.length + 1) (m.length + 1)
    rw [zipD_len (l := l) (m := m)]
    omega
theorem zipD_get : ∀ {l m : List D} {i : Nat} {a b : D}, l[i]? = some a → m[i]? = some b → (zipD l m)[i]? = some (.tup [a, b])
  | [], _, _, _, _, h, _ => by simp at h
  | _ :: _, [], _, _, _, _, h => by simp at h
  | x :: l, y :: m, 0, a, b, h, h2 => by
    have e : x = a := Option.some.inj h
    have e2 : y = b := Option.some.inj h2
    rw [← e, ← e2]
    rfl
  | x :: l, y :: m, i + 1, a, b, h, h2 => zipD_get (l := l) (m := m) (i := i) h h2
def enumD : Nat → List D → List D
  | _, [] => []
  | n, d :: l => .tup [.int (n : Int), d] :: enumD (n + 1) l
theorem enumD_len : ∀ {l : List D} {n : Nat}, (enumD n l).length = l.length
  | [], _ => rfl
  | _ :: l, n => by
    show (enumD (n + 1) l).length + 1 = l.length + 1
    rw [enumD_len]
theorem enumD_get : ∀ {l : List D} {n i : Nat} {a : D}, l[i]? = some a → (enumD n l)[i]? = some (.tup [.int ((n + i : Nat) : Int), a])
  | [], _, _, _, h => by simp at h
  | x :: l, n, 0, a, h => by
    have e : x = a := Option.some.inj h
    rw [← e]
    rfl
  | x :: l, n, i + 1, a, h => by
    have z := enumD_get (l := l) (n := n + 1) (i := i) h
    show (enumD (n + 1) l)[i]? = _
    rw [z]
    rw [show n + 1 + i = n + (i + 1) by omega]
theorem tup_new {K : PySem.W.Frag} {Zh : List Addr} {S : Sto} {H : Hp} {T : Addr} {l : List D} {vs : List V} (z : Store K Zh H S) (hT : H T = none) (r : RepL K (keys S ++ Zh) H l vs) : Rep K (keys S ++ Zh) (upd H T (.tup vs)) (.tup l) (.ref T) := by
  unfold Rep
  exact ⟨T, vs, rfl, .inl (.inl upd_same), z.grL (Grow.new hT) r⟩
theorem same_new {H : Hp} {p : Addr} {o : HO} (h : H p = none) : Same H (upd H p o) := fun b x e => by
  rw [upd_ne (ne_of_none e h)]
  exact e
section
variable {X : Cx} {ρ : Ro} {S : Sto} {tg iter e e2 : Expr} {Φ : List D → Sto → Prop}
theorem it_zip {K : PySem.W.Frag} {Zh : List Addr} {H : Hp} {l m : List D} {p q : Addr} {vs us : List V} (st : Store K Zh H S) (sq : (p ∉ keys S ∧ Rd H p (.lst vs)) ∨ KL K p vs) (sq2 : (q ∉ keys S ∧ Rd H q (.lst us)) ∨ KL K q us) (rl : RepL K (keys S ++ Zh) H l vs) (rm : RepL K (keys S ++ Zh) H m us) : ItOk K Zh S H (zipD l m) (Itz K p q) where
  go := fun i S' H' t hi => by
    rw [zipD_len] at hi
    exact ⟨vs, us, vs[i]'(by rw [rl.length]; omega), us[i]'(by rw [rm.length]; omega), lst_step t sq, lst_step t sq2, List.getElem?_eq_getElem _, List.getElem?_eq_getElem _⟩
  stop := fun S' H' t => ⟨vs, us, lst_step t sq, lst_step t sq2, by rw [zipD_len, rl.length, rm.length]; omega⟩
  yld := fun i S' H' x H2 Zx zx t st' hi y => by
    obtain ⟨T, x, y, rfl, hT, rfl, f1, f2⟩ := y
    obtain ⟨d, hd, r⟩ := rl.get2 (f1 vs (lst_step t sq))
    obtain ⟨d2, hd2, r2⟩ := rm.get2 (f2 us (lst_step t sq2))
    exact ⟨_, zipD_get hd hd2, same_new hT, tup_new st' hT (.cons (Rep.step st.zl t (Rep.fresh zx r)) (.cons (Rep.step st.zl t (Rep.fresh zx r2)) .nil))⟩
theorem it_zipT {K : PySem.W.Frag} {Zh : List Addr} {H : Hp} {l m : List D} {p q : Addr} {vs us : List V} (st : Store K Zh H S) (sq : SqT K H p vs) (sq2 : SqT K H q us) (rl : RepL K (keys S ++ Zh) H l vs) (rm : RepL K (keys S ++ Zh) H m us) : ItOk K Zh S H (zipD l m) (ItzT K p q) where
  go := fun i S' H' t hi => by
    rw [zipD_len] at hi
    exact ⟨vs, us, vs[i]'(by rw [rl.length]; omega), us[i]'(by rw [rm.length]; omega), SqT.grow st.zl t.1 sq, SqT.grow st.zl t.1 sq2, List.getElem?_eq_getElem _, List.getElem?_eq_getElem _⟩
  stop := fun S' H' t => ⟨vs, us, SqT.grow st.zl t.1 sq, SqT.grow st.zl t.1 sq2, by rw [zipD_len, rl.length, rm.length]; omega⟩
  yld := fun i S' H' x H2 Zx zx t st' hi y => by
    obtain ⟨T, x, y, rfl, hT, rfl, f1, f2⟩ := y
    obtain ⟨d, hd, r⟩ := rl.get2 (f1 vs (SqT.grow st.zl t.1 sq))
    obtain ⟨d2, hd2, r2⟩ := rm.get2 (f2 us (SqT.grow st.zl t.1 sq2))
    exact ⟨_, zipD_get hd hd2, same_new hT, tup_new st' hT (.cons (Rep.step st.zl t (Rep.fresh zx r)) (.cons (Rep.step st.zl t (Rep.fresh zx r2)) .nil))⟩
theorem it_enum {K : PySem.W.Frag} {Zh : List Addr} {H : Hp} {l : List D} {p : Addr} {vs : List V} (st : Store K Zh H S) (sq : (p ∉ keys S ∧ Rd H p (.lst vs)) ∨ KL K p vs) (rl : RepL K (keys S ++ Zh) H l vs) : ItOk K Zh S H (enumD 0 l) (Ite K p) where
  go := fun i S' H' t hi => by
    rw [enumD_len] at hi
    exact ⟨vs, vs[i]'(by rw [rl.length]; exact hi), lst_step t sq, List.getElem?_eq_getElem _⟩
  stop := fun S' H' t => ⟨vs, lst_step t sq, by rw [enumD_len, rl.length]; exact Nat.le_refl _⟩
  yld := fun i S' H' x H2 Zx zx t st' hi y => by
    obtain ⟨T, x, rfl, hT, rfl, f1⟩ := y
    obtain ⟨d, hd, r⟩ := rl.get2 (f1 vs (lst_step t sq))
    refine ⟨_, enumD_get hd, same_new hT, tup_new st' hT (.cons ?_ (.cons (Rep.step st.zl t (Rep.fresh zx r)) .nil))⟩
    rw [Nat.zero_add]
    exact rep_int
/-- a value that is read as a list: its items -/
inductive LstD : D → List D → Prop where
  | lst (l : List D) : LstD (.lst l) l
  | frz (l : List D) : LstD (.frz l) l
theorem LstD.rep {K : PySem.W.Frag} {Z : List Addr} {H : Hp} {d : D} {l : List D} {v : V} (h : LstD d l) (r : Rep K Z H d v) : ∃ p vs, v = .ref p ∧ ((p ∉ Z ∧ Rd H p (.lst vs)) ∨ KL K p vs) ∧ RepL K Z H l vs := by
  cases h with
  | lst =>
    obtain ⟨p, vs, e, n, sq, rl⟩ := r.lst
    exact ⟨p, vs, e, .inl ⟨n, .inl sq⟩, rl⟩
  | frz => exact r.frz
variable {P : Program} {w : World} {K : PySem.W.Frag} {mg : Str → Option Value} {base : Heap} {tb : List (Str × Nat)} {names : List (Str × NameKind)} {k : Nat} {pos p tpos : Pos} {elts : List Expr} {kk : Nat}
theorem di_zip (A : At X P w K mg base tb names k) (hm : mg "zip" = none) (hg : glB names "zip" = true) (hs : starEach [e, e2] X.env = (false, eval e X.env) :: starEach [e2] X.env) (hpl : (backTo pos (starEach [e2] X.env)).any (·.1) = false)
    (hs4 : starEach (e2 :: []) X.env = (false, eval e2 X.env) :: starEach [] X.env)
    (h : DE X e ρ S fun d S1 => DE X e2 ρ S1 fun c S2 => (∃ l m, LstD d l ∧ LstD c m ∧ Φ (zipD l m) S2) ∨ (∃ l m, d = .tup l ∧ c = .tup m ∧ Φ (zipD l m) S2)) : DI X (.Tuple elts kk tpos) (.Call (.Name "zip" p) [e, e2] [] pos) ρ S Φ :=
  DI.of (pi_zipA (A.gl _ (glB_of hg).2) (by rw [A.mg]; exact hm) (pa_cons pe_w (pa_cons pe_w pa_nil hs4) hs) hs hpl) fun Zh σ H R E k => h.bind E fun v H1 d S1 k1 g1 E1 r1 h1 => h1.bind E1 fun v2 H2 d2 S2 k2 g2 E2 r2 h2 => by
    have r1' : Rep X.K (keys S2 ++ Zh) H2 d v := by
      rw [k2]
      exact E1.st.gr g2 r1
    have fin := fun J ds it q => k J H2 ds S2 (k2.trans k1) (g1.trans (by rw [← k1]; exact g2)) E2.st it q
    rcases h2 with ⟨l, m, hl, hm, q⟩ | ⟨l, m, rfl, rfl, q⟩
    · obtain ⟨a, vs, rfl, sq, rl⟩ := hl.rep r1'
      obtain ⟨b, us, rfl, sq2, rm⟩ := hm.rep r2
      exact ⟨a, b, vs, us, rfl, .inl ⟨frz_sq sq, frz_sq sq2, fin _ _ (it_zip E2.st (frz_l sq) (frz_l sq2) rl rm) q⟩⟩
    · obtain ⟨a, vs, rfl, sq, rl⟩ := r1'.tup
      obtain ⟨b, us, rfl, sq2, rm⟩ := r2.tup
      exact ⟨a, b, vs, us, rfl, .inr ⟨sq, sq2, fin _ _ (it_zipT E2.st sq sq2 rl rm) q⟩⟩
theorem di_enum (A : At X P w K mg base tb names k) (hm : mg "enumerate" = none) (hg : glB names "enumerate" = true) (hs : starEach [e] X.env = [(false, eval e X.env)]) (hs4 : starEach (e :: []) X.env = (false, eval e X.env) :: starEach [] X.env)
    (h : DE X e ρ S fun d S1 => ∃ l, LstD d l ∧ Φ (enumD 0 l) S1) : DI X (.Tuple elts kk tpos) (.Call (.Name "enumerate" p) [e] [] pos) ρ S Φ :=
  DI.of (pi_enum (A.gl _ (glB_of hg).2) (by rw [A.mg]; exact hm) (pa_cons pe_w pa_nil hs4) hs) fun Zh σ H R E k => h.bind E fun v H1 d S1 k1 g1 E1 r1 h1 => by
    obtain ⟨l, hl, q⟩ := h1
    obtain ⟨a, vs, rfl, sq, rl⟩ := hl.rep r1
    exact ⟨a, vs, rfl, frz_sq sq, k _ H1 _ S1 k1 g1 E1.st (it_enum E1.st (frz_l sq) rl) q⟩
end
/-! ### list comprehensions -/
def wipeR (ρ : Ro) : List Nat → Ro
  | [] => ρ
  | v :: vs => (wipeR ρ vs).set v none
theorem Ev.forget {K : PySem.W.Frag} {Zh : List Addr} {H : Hp} {σ : L2.St} {ρ : Ro} {S : Sto} {i : Nat} (E : Ev K Zh H σ ρ S) : Ev K Zh H (σ.set i none) (ρ.set i none) S :=
  ⟨E.st, by rw [List.length_set, List.length_set]; exact E.len, fun j c h => by
    by_cases hj : i = j
    · subst hj
      by_cases hl : i < ρ.length
      · rw [List.getElem?_set_self hl] at h
        cases h
      · rw [List.getElem?_eq_none (by rw [List.length_set]; omega)] at h
        cases h
    · rw [List.getElem?_set_ne hj] at h
      rw [List.getElem?_set_ne hj]
      exact E.var j c h⟩
theorem Ev.wipe {K : PySem.W.Frag} {Zh : List Addr} {H : Hp} {σ : L2.St} {ρ : Ro} {S : Sto} (E : Ev K Zh H σ ρ S) : ∀ vs : List Nat, Ev K Zh H (L2.wipe σ vs) (wipeR ρ vs) S
  | [] => E
  | v :: vs => (Ev.wipe E vs).forget
theorem wipe_get {σ : L2.St} : ∀ {vs : List Nat} {j : Nat}, j ∈ vs → j < σ.length → (L2.wipe σ vs)[j]? = some none
  | [], _, h, _ => by simp at h
  | v :: vs, j, h, hl => by
    unfold L2.wipe
    by_cases e : v = j
    · subst e
      rw [List.getElem?_set_self (by rw [wipe_length]; exact hl)]
    · rw [List.getElem?_set_ne e]
      refine wipe_get ?_ hl
      rcases List.mem_cons.mp h with q | q
      · exact absurd q.symm e
      · exact q
theorem wipe_eq {σ σ2 : L2.St} {vs : List Nat} (hl : σ2.length = (L2.wipe σ vs).length) (h : ∀ j, j ∉ vs → σ2[j]? = (L2.wipe σ vs)[j]?) : L2.wipe σ2 vs = L2.wipe σ vs := by
  apply List.ext_getElem?
  intro j
  by_cases hj : j ∈ vs
  · by_cases hlt : j < σ2.length
    · rw [wipe_get hj hlt, wipe_get hj (by rw [hl, wipe_length] at hlt; exact hlt)]
    · rw [List.getElem?_eq_none (by rw [wipe_length]; omega), List.getElem?_eq_none (by rw [← hl]; omega)]
  · rw [wipe_out hj, h j hj]
abbrev Bl := Cx → Prop
/-- the contexts of a block -/
def blks (X : Cx) (scope : Scope) : Bl := fun X' => ∃ (s : Shared) (H : Hp) (C : Addr) (cl : List (Str × Addr)) (fp : List Addr), X' = X.blk s H scope (compEnvC scope cl C X.env) fp
def DEb (b : Bl) (e : Expr) (ρ : Ro) (S : Sto) (Φ : D → Sto → Prop) : Prop := ∀ X', b X' → DE X' e ρ S Φ
def DGb (b : Bl) (ok : Nat → Bool) (e : Expr) (d : D) (ρ : Ro) (S : Sto) (Φ : Ro → Sto → Prop) : Prop := ∀ X', b X' → DG X' ok e d ρ S Φ
/-- the tests of a clause: none, or one -/
def DTb (b : Bl) : List Expr → Ro → Sto → (Bool → Sto → Prop) → Prop
  | [], _, S, Φ => Φ true S
  | [c], ρ, S, Φ => ∀ X', b X' → DT X' c ρ S Φ
  | _, _, _, _ => False
def LcD (b : Bl) (ok : Nat → Bool) (tg : Expr) (ifs : List Expr) (elt : Expr) : List D → Ro → Sto → List D → (D → Sto → Prop) → Prop
  | [], _, S, acc, Φ => Φ (.lst acc) S
  | d :: ds, ρ, S, acc, Φ => DGb b ok tg d ρ S fun ρ2 S2 => DTb b ifs ρ2 S2 fun c S3 => if c = true then DEb b elt ρ2 S3 fun y S4 => LcD b ok tg ifs elt ds ρ S4 (acc ++ [y]) Φ else LcD b ok tg ifs elt ds ρ S3 acc Φ
def teB (b : Bl) (e : Expr) : TE := fun σ H Q => ∀ X', b X' → tW X' e σ H Q
def tgB (b : Bl) (e : Expr) : TG := fun v σ H Q => ∀ X', b X' → gW X' e v σ H Q
def ttB (b : Bl) : List Expr → TT
  | [] => tYes
  | [c] => fun σ H Q => ∀ X', b X' → ttW X' c σ H Q
  | _ => fun _ _ _ => False
section
variable {X : Cx} {ρ : Ro} {S : Sto} {tg iter e e2 : Expr}
theorem pts_b {b : Bl} (h : b X) : ∀ {ifs : List Expr}, PTs X ifs (ttB b ifs)
  | [] => pts_nil
  | [c] => pts_one ⟨fun pins s σ H Q I q => q X h pins s I⟩
  | _ :: _ :: _ => ⟨fun _ _ _ _ _ _ q => q.elim⟩
variable {P : Program} {w : World} {K : PySem.W.Frag} {mg : Str → Option Value} {base : Heap} {tb : List (Str × Nat)} {names : List (Str × NameKind)} {k : Nat} {pos p tpos : Pos}
theorem relabel_look {scope : Scope} {env : Env} : ∀ (l : List (Str × NameKind)) (x : Str),
    (l.map fun (n, k) => if (k == NameKind.free && env.scope.kind == .function && env.kindOf n == some .cell) then (n, NameKind.cell) else (n, k)).lookup x = l.lookup x ∨
    (l.lookup x = some .free ∧ (l.map fun (n, k) => if (k == NameKind.free && env.scope.kind == .function && env.kindOf n == some .cell) then (n, NameKind.cell) else (n, k)).lookup x = some .cell)
  | [], x => .inl rfl
  | (n, k) :: r, x => by
    have ih := relabel_look (scope := scope) (env := env) r x
    cases hx : x == n with
    | true =>
      by_cases hc : (k == NameKind.free && env.scope.kind == .function && env.kindOf n == some .cell) = true
      · refine .inr ⟨?_, ?_⟩
        · rw [List.lookup_cons, hx]
          rw [Bool.and_eq_true, Bool.and_eq_true] at hc
          have e : k = NameKind.free := by simpa using hc.1.1
          rw [e]
        · show List.lookup x ((if (k == NameKind.free && env.scope.kind == .function && env.kindOf n == some .cell) = true then (n, NameKind.cell) else (n, k)) :: _) = _
          rw [if_pos hc, List.lookup_cons, hx]
      · refine .inl ?_
        show List.lookup x ((if (k == NameKind.free && env.scope.kind == .function && env.kindOf n == some .cell) = true then (n, NameKind.cell) else (n, k)) :: _) = _
        rw [if_neg hc, List.lookup_cons, List.lookup_cons, hx]
    | false =>
      have e1 : List.lookup x ((n, k) :: r) = List.lookup x r := by rw [List.lookup_cons, hx]
      have e2 : (((n, k) :: r).map fun (n, k) => if (k == NameKind.free && env.scope.kind == .function && env.kindOf n == some .cell) then (n, NameKind.cell) else (n, k)).lookup x =
          (r.map fun (n, k) => if (k == NameKind.free && env.scope.kind == .function && env.kindOf n == some .cell) then (n, NameKind.cell) else (n, k)).lookup x := by
        show List.lookup x ((if (k == NameKind.free && env.scope.kind == .function && env.kindOf n == some .cell) = true then (n, NameKind.cell) else (n, k)) :: _) = _
        by_cases hc : (k == NameKind.free && env.scope.kind == .function && env.kindOf n == some .cell) = true
        · rw [if_pos hc, List.lookup_cons, hx]
        · rw [if_neg hc, List.lookup_cons, hx]
      rw [e1, e2]
      exact ih
theorem At.blk {scope : Scope} (A : At X P w K mg base tb names k) (hk : scope.kind = .function) {X' : Cx} (h : blks X scope X') : At X' P w K mg base tb scope.names k := by
  obtain ⟨s, H, C, cl, fp, rfl⟩ := h
  have look := fun x => relabel_look (scope := scope) (env := X.env) scope.names x
  refine ⟨A.prog, A.w, A.K, A.mg, A.base, A.slot, A.cov, fun x hx => ?_, fun x hx => ?_, fun x hx => ?_, fun x hx => ?_, fun x hx => ?_, hk, A.room, A.calm, A.nd, rfl⟩
  · show (relabel scope X.env).names.lookup x = some .local ∨ (relabel scope X.env).names.lookup x = some .cell ∨ (relabel scope X.env).names.lookup x = some .free
    rcases look x with q | ⟨q, q2⟩
    · have e : (relabel scope X.env).names.lookup x = scope.names.lookup x := q
      rw [e]
      revert hx
      cases scope.names.lookup x with
      | none => intro h; cases h
      | some k => cases k <;> intro h <;> first | exact .inl rfl | exact .inr (.inl rfl) | exact .inr (.inr rfl) | cases h
    · exact .inr (.inl q2)
  · show (relabel scope X.env).names.lookup x = some .globalImplicit
    rcases look x with q | ⟨q, q2⟩
    · exact q.trans hx
    · rw [q] at hx
      cases hx
  · rcases look x with q | ⟨q, q2⟩
    · have e : (relabel scope X.env).names.lookup x = scope.names.lookup x := q
      refine ⟨?_, ?_⟩
      · show L2.Loc (relabel scope X.env) x
        unfold L2.Loc
        rw [e]
        revert hx
        cases scope.names.lookup x with
        | none => intro h; cases h
        | some k => cases k <;> intro h <;> first | exact .inl rfl | exact .inr rfl | cases h
      · show (scope.names.lookup x == some .cell) = true ∨ (relabel scope X.env).names.lookup x = some .local
        rw [e]
        revert hx
        cases scope.names.lookup x with
        | none => intro h; cases h
        | some k => cases k <;> intro h <;> first | exact .inr rfl | exact .inl rfl | cases h
    · rw [q] at hx
      cases hx
  · show (relabel scope X.env).names.lookup x = some .local
    rcases look x with q | ⟨q, q2⟩
    · exact q.trans hx
    · rw [q] at hx
      cases hx
  · show (relabel scope X.env).names.lookup x = some .cell ∨ (relabel scope X.env).names.lookup x = some .free
    rcases look x with q | ⟨q, q2⟩
    · have e : (relabel scope X.env).names.lookup x = scope.names.lookup x := q
      rw [e]
      revert hx
      cases scope.names.lookup x with
      | none => intro h; cases h
      | some k => cases k <;> intro h <;> first | exact .inl rfl | exact .inr rfl | cases h
    · exact .inl q2
/-- the block's names against the names around -/
def blkD (tb : List (Str × Nat)) (names bn : List (Str × NameKind)) (own : List (Str × Nat)) : Bool :=
  (bn.all fun y => decide (bn.lookup y.1 = some y.2)) && (own.all fun p => decide (tb.lookup p.1 = some p.2)) &&
    (bn.all fun y => match y.2 with
      | .free => cfB (names.lookup y.1)
      | .local => decide (y.1 ∈ own.map (·.1)) || (tb.lookup y.1).isNone
      | .cell => decide (y.1 ∈ own.map (·.1)) || (tb.lookup y.1).isNone
      | _ => true)
theorem blkD_ok {scope : Scope} {own : List (Str × Nat)} (A : At X P w K mg base tb names k) (hk : scope.kind = .function) (h : blkD tb names scope.names own = true) : BlkOk X.N X.env.scope scope own := by
  unfold blkD at h
  simp only [Bool.and_eq_true, List.all_eq_true, decide_eq_true_eq] at h
  obtain ⟨⟨h1, h2⟩, h3⟩ := h
  have out : ∀ y : Str, (tb.lookup y).isNone = true → y ∉ X.N := fun y e m => by
    have z := A.cov y m
    cases q : tb.lookup y with
    | none => rw [q] at z; cases z
    | some i => rw [q] at e; cases e
  refine ⟨hk, h1, fun p hp => A.slot _ _ (h2 p hp), fun y hy e => ?_, fun y hy e => ?_⟩
  · have q := h3 y hy
    rw [e] at q
    exact A.cf _ q
  · have q := h3 y hy
    rcases e with e | e <;> (rw [e] at q; simp only [Bool.or_eq_true, decide_eq_true_eq] at q; exact q.imp id (out _))
theorem Store.narrow {K : PySem.W.Frag} {Zh Zx : List Addr} {H : Hp} {S : Sto} (s : Store K (Zx ++ Zh) H S) : Store K Zh H S := ⟨s.nd, fun p l m => by
  obtain ⟨vs, h1, h2⟩ := s.st p l m
  refine ⟨vs, h1, h2.shrink fun q hq => ?_⟩
  rcases List.mem_append.mp hq with z | z
  · exact List.mem_append_left _ z
  · exact List.mem_append_right _ (List.mem_append_right _ z), fun p m => s.hid p (List.mem_append_right _ m)⟩
theorem Store.hide {K : PySem.W.Frag} {Zh : List Addr} {H : Hp} {S : Sto} {p : Addr} {l : List V} (s : Store K Zh H S) (hp : H p = none) : Store K ([p] ++ Zh) (upd H p (.lst l)) S := ⟨s.nd, fun q m hm => by
  obtain ⟨vs, h1, h2⟩ := s.st q m hm
  refine ⟨vs, by rw [upd_ne (ne_of_none h1 hp)]; exact h1, ?_⟩
  have r := RepL.fresh (Zx := [p]) (fun c hc => by
    rw [List.mem_singleton.mp hc]
    exact hp) h2
  exact RepL.grow s.zl (Grow.new hp) sub_l r, fun q m => by
  rcases List.mem_append.mp m with z | z
  · rw [List.mem_singleton.mp z]
    exact ⟨fun h => s.free hp (sub_l _ h), _, upd_same⟩
  · obtain ⟨n, vs, e⟩ := s.hid q z
    exact ⟨n, vs, by rw [upd_ne (ne_of_none e hp)]; exact e⟩⟩
theorem Ev.hide {K : PySem.W.Frag} {Zh : List Addr} {H : Hp} {σ : L2.St} {ρ : Ro} {S : Sto} {p : Addr} {l : List V} (E : Ev K Zh H σ ρ S) (hp : H p = none) : Ev K ([p] ++ Zh) (upd H p (.lst l)) σ ρ S :=
  ⟨E.st.hide hp, E.len, fun i d h => by
    obtain ⟨v, e, r⟩ := E.var i d h
    exact ⟨v, e, Rep.grow E.st.zl (Grow.new hp) sub_l (Rep.fresh (Zx := [p]) (fun c hc => by
      rw [List.mem_singleton.mp hc]
      exact hp) r)⟩⟩
/-- a write at a hidden list -/
theorem grow_at {H : Hp} {p : Addr} {l : List V} : Grow [p] H (upd H p (.lst l)) := fun b x n h => by
  rw [upd_ne (fun e => n (by rw [e]; exact List.mem_singleton.mpr rfl))]
  exact h
theorem Store.put {K : PySem.W.Frag} {Zh : List Addr} {H : Hp} {S : Sto} {p : Addr} {l : List V} (s : Store K ([p] ++ Zh) H S) : Store K ([p] ++ Zh) (upd H p (.lst l)) S := by
  obtain ⟨n, us, e⟩ := s.hid p (List.mem_append_left _ (List.mem_singleton.mpr rfl))
  refine ⟨s.nd, fun q m hm => ?_, fun q m => ?_⟩
  · obtain ⟨vs, h1, h2⟩ := s.st q m hm
    have hq : q ≠ p := fun z => n (by rw [← z]; exact List.mem_map.mpr ⟨_, hm, rfl⟩)
    refine ⟨vs, by rw [upd_ne hq]; exact h1, RepL.grow (Zg := [p]) (fun c hc => ⟨us, by rw [List.mem_singleton.mp hc]; exact e⟩) grow_at (fun c hc => List.mem_append_right _ (List.mem_append_left _ hc)) h2⟩
  · obtain ⟨n2, vs, e2⟩ := s.hid q m
    by_cases hq : q = p
    · exact ⟨n2, l, by rw [hq]; exact upd_same⟩
    · exact ⟨n2, vs, by rw [upd_ne hq]; exact e2⟩
theorem lc_read {Zh : List Addr} {b : Bl} {ok : Nat → Bool} {ifs : List Expr} {vs : List Nat} {σ : L2.St} {H H1 : Hp} {Q : VK} {Φ : D → Sto → Prop} {S1 : Sto} {ds : List D} {J : It} {D' : Addr} (hb : ∀ X', b X' → X'.K = X.K) (hok : ∀ j, j ∉ vs → ok j = false) (E : Ev X.K Zh H σ ρ S)
    (k1 : keys S1 = keys S) (g1 : Grow (keys S) H H1) (s1 : Store X.K Zh H1 S1) (it : ItOk X.K Zh S1 H1 ds J) (hz : ds.length ≤ sizeLine) (q : LcD b ok tg ifs e ds (wipeR ρ vs) S1 [] Φ) (Pq : Post X.K Zh H S Φ Q) (hD : H1 D' = none) :
    ∃ W : Nat → Nat → Hp → Prop, (∃ m, W 0 m (upd H1 D' (.lst []))) ∧ ∀ i m H, W i m H →
      (J.stop i H ∧ Q (.ref D') H) ∨ (J.go i H ∧ ∃ Nx : Hp → Prop, (∀ H', Nx H' → ∃ m', m' < m ∧ W (i + 1) m' H') ∧ ∀ x H', J.yld i H x H' → tgB b tg x (L2.wipe σ vs) H' fun σ2 H2 => L2.wipe σ2 vs = L2.wipe σ vs ∧ ttB b ifs σ2 H2 fun c H3 =>
        if c = true then teB b e σ2 H3 fun y H4 => ∃ acc, H4 D' = some (.lst acc) ∧ acc.length < sizeLine ∧ Nx (upd H4 D' (.lst (acc ++ [y]))) else Nx H3) := by
  have hDk : D' ∉ keys S1 ++ Zh := s1.free hD
  have hDs : D' ∉ keys S1 := fun m => hDk (sub_l _ m)
  have hfr : ∀ p, p ∈ [D'] → H1 p = none := fun p hp => by
    rw [List.mem_singleton.mp hp]
    exact hD
  have ev1 : Ev X.K ([D'] ++ Zh) (upd H1 D' (.lst [])) (L2.wipe σ vs) (wipeR ρ vs) S1 := Ev.wipe (Ev.hide (E.next k1 g1 s1) hD) vs
  -- what stands at a turn's start: St n H'
  refine ⟨fun i m H' => ∃ S' vs' acc, keys S' = keys S1 ∧ Grow (keys S1) H1 H' ∧ H' D' = some (.lst vs') ∧ Ev X.K ([D'] ++ Zh) H' (L2.wipe σ vs) (wipeR ρ vs) S' ∧ RepL X.K (keys S1 ++ ([D'] ++ Zh)) H' acc vs' ∧ LcD b ok tg ifs e (ds.drop i) (wipeR ρ vs) S' acc Φ ∧ acc.length ≤ i ∧ m = ds.length - i ∧ i ≤ ds.length,
    ⟨ds.length, S1, [], [], rfl, Grow.new hD, upd_same, ev1, .nil, q, Nat.le_refl _, rfl, Nat.zero_le _⟩, ?_⟩
  rintro i m H2 ⟨S2, vs2, acc, k2, g2, hD2, ev2, r2, q2, hl, rfl, hi⟩
  have t2 : Step S1 H1 S2 H2 := .of k2 g2
  by_cases hlt : i < ds.length
  · refine .inr ⟨it.go i S2 H2 t2 hlt, fun H' => ∃ S' vs' acc, keys S' = keys S1 ∧ Grow (keys S1) H1 H' ∧ H' D' = some (.lst vs') ∧ Ev X.K ([D'] ++ Zh) H' (L2.wipe σ vs) (wipeR ρ vs) S' ∧ RepL X.K (keys S1 ++ ([D'] ++ Zh)) H' acc vs' ∧ LcD b ok tg ifs e (ds.drop (i + 1)) (wipeR ρ vs) S' acc Φ ∧ acc.length ≤ i + 1, ?_, fun x H3 y => ?_⟩
    · rintro H' ⟨S', vs', acc', a1, a2, a3, a4, a5, a6, a7⟩
      exact ⟨ds.length - (i + 1), by omega, S', vs', acc', a1, a2, a3, a4, a5, a6, a7, rfl, hlt⟩
    · obtain ⟨d, hd, sm, rd⟩ := it.yld i S2 H2 x H3 [D'] hfr t2 ev2.st hlt y
      have e1 : ds.drop i = d :: ds.drop (i + 1) := by
        rw [List.drop_eq_getElem_cons hlt]
        congr 1
        rw [List.getElem?_eq_getElem hlt] at hd
        exact Option.some.inj hd
      rw [e1] at q2
      have ev3 := Same.ev ev2 sm
      have hD3 : H3 D' = some (.lst vs2) := sm _ _ hD2
      have g3 : Grow (keys S1) H1 H3 := g2.trans fun b x _ h => sm b x h
      have r3 : RepL X.K (keys S1 ++ ([D'] ++ Zh)) H3 acc vs2 := by
        rw [← k2] at r2 ⊢
        exact ev2.st.grL (fun b x _ h => sm b x h) r2
      intro X' hX
      have hK := hb X' hX
      refine DG.tw (q2 X' hX) (by rw [hK]; exact ev3) (by rw [hK]; exact rd) fun σ4 H4 ρ4 S4 k4 g4 ev4 l4 o4 q4 => ?_
      rw [hK] at ev4
      have hDn : D' ∉ keys S2 := by
        rw [k2]
        exact hDs
      have hD4 : H4 D' = some (.lst vs2) := g4 _ _ hDn hD3
      have k4' : keys S4 = keys S1 := k4.trans k2
      have g4' : Grow (keys S1) H1 H4 := g3.trans (by rw [← k2]; exact g4)
      have r4 : RepL X.K (keys S1 ++ ([D'] ++ Zh)) H4 acc vs2 := by
        rw [← k2] at r3 ⊢
        exact ev3.st.grL g4 r3
      have w4 : Ev X.K ([D'] ++ Zh) H4 (L2.wipe σ vs) (wipeR ρ vs) S4 := ev3.next k4 g4 ev4.st
      refine ⟨wipe_eq l4 fun j hj => o4 j (hok j hj), ?_⟩
      have goOn : ∀ c H5 S5, keys S5 = keys S4 → Grow (keys S4) H4 H5 → Store X.K ([D'] ++ Zh) H5 S5 → (if c = true then DEb b e ρ4 S5 fun y S6 => LcD b ok tg ifs e (ds.drop (i + 1)) (wipeR ρ vs) S6 (acc ++ [y]) Φ else LcD b ok tg ifs e (ds.drop (i + 1)) (wipeR ρ vs) S5 acc Φ) →
          if c = true then teB b e σ4 H5 fun y H6 => ∃ acc', H6 D' = some (.lst acc') ∧ acc'.length < sizeLine ∧ (∃ S' vs' acc, keys S' = keys S1 ∧ Grow (keys S1) H1 (upd H6 D' (.lst (acc' ++ [y]))) ∧ (upd H6 D' (.lst (acc' ++ [y]))) D' = some (.lst vs') ∧ Ev X.K ([D'] ++ Zh) (upd H6 D' (.lst (acc' ++ [y]))) (L2.wipe σ vs) (wipeR ρ vs) S' ∧ RepL X.K (keys S1 ++ ([D'] ++ Zh)) (upd H6 D' (.lst (acc' ++ [y]))) acc vs' ∧ LcD b ok tg ifs e (ds.drop (i + 1)) (wipeR ρ vs) S' acc Φ ∧ acc.length ≤ i + 1)
          else ∃ S' vs' acc, keys S' = keys S1 ∧ Grow (keys S1) H1 H5 ∧ H5 D' = some (.lst vs') ∧ Ev X.K ([D'] ++ Zh) H5 (L2.wipe σ vs) (wipeR ρ vs) S' ∧ RepL X.K (keys S1 ++ ([D'] ++ Zh)) H5 acc vs' ∧ LcD b ok tg ifs e (ds.drop (i + 1)) (wipeR ρ vs) S' acc Φ ∧ acc.length ≤ i + 1 := fun c H5 S5 k5 g5 s5 q5 => by
        have hDn4 : D' ∉ keys S4 := by
          rw [k4']
          exact hDs
        have hD5 : H5 D' = some (.lst vs2) := g5 _ _ hDn4 hD4
        have k5' : keys S5 = keys S1 := k5.trans k4'
        have g5' : Grow (keys S1) H1 H5 := g4'.trans (by rw [← k4']; exact g5)
        have r5 : RepL X.K (keys S1 ++ ([D'] ++ Zh)) H5 acc vs2 := by
          rw [← k4'] at r4 ⊢
          exact ev4.st.grL g5 r4
        have w5 : Ev X.K ([D'] ++ Zh) H5 (L2.wipe σ vs) (wipeR ρ vs) S5 := w4.next k5 g5 s5
        cases c with
        | false => exact ⟨S5, vs2, acc, k5', g5', hD5, w5, r5, q5, by omega⟩
        | true =>
          show teB b e σ4 H5 _
          intro X2 hX2
          have hK2 := hb X2 hX2
          refine DE.tw (q5 X2 hX2) (by rw [hK2]; exact ev4.next k5 g5 s5) fun y H6 dy S6 k6 g6 s6 r6 q6 => ?_
          rw [hK2] at s6 r6
          have hDn5 : D' ∉ keys S5 := by
            rw [k5']
            exact hDs
          have hD6 : H6 D' = some (.lst vs2) := g6 _ _ hDn5 hD5
          have k6' : keys S6 = keys S1 := k6.trans k5'
          have g6' : Grow (keys S1) H1 H6 := g5'.trans (by rw [← k5']; exact g6)
          have r6a : RepL X.K (keys S1 ++ ([D'] ++ Zh)) H6 acc vs2 := by
            rw [← k5'] at r5 ⊢
            exact s5.grL g6 r5
          have w6 : Ev X.K ([D'] ++ Zh) H6 (L2.wipe σ vs) (wipeR ρ vs) S6 := w5.next k6 g6 s6
          have zd : Zl [D'] H6 := fun c hc => ⟨vs2, by rw [List.mem_singleton.mp hc]; exact hD6⟩
          have sd : ∀ A : List Addr, ∀ c, c ∈ [D'] → c ∈ A ++ ([D'] ++ Zh) := fun A c hc => List.mem_append_right _ (List.mem_append_left _ hc)
          refine ⟨vs2, hD6, by rw [r6a.length]; omega, S6, vs2 ++ [y], acc ++ [dy], k6', ?_, upd_same, ?_, ?_, q6, by rw [List.length_append, List.length_singleton]; omega⟩
          · intro c x n h
            rw [upd_ne (ne_of_none h hD)]
            exact g6' c x n h
          · refine ⟨s6.put, w6.len, fun j d h => ?_⟩
            obtain ⟨v, e, r⟩ := w6.var j d h
            exact ⟨v, e, Rep.grow zd grow_at (sd _) r⟩
          · refine RepL.append (RepL.grow zd grow_at (sd _) r6a) (.one (Rep.grow zd grow_at (sd _) ?_))
            rw [k5'] at r6
            exact r6
      cases ifs with
      | nil => exact goOn true H4 S4 rfl Grow.refl ev4.st q4
      | cons c cs =>
        cases cs with
        | nil =>
          intro X2 hX2
          have hK2 := hb X2 hX2
          refine DT.tw (q4 X2 hX2) (by rw [hK2]; exact ev4) fun c H5 S5 k5 g5 s5 q5 => ?_
          rw [hK2] at s5
          exact goOn c H5 S5 k5 g5 s5 q5
        | cons _ _ => exact q4.elim
  · have e1 : i = ds.length := by omega
    refine .inl ⟨by rw [e1]; exact it.stop S2 H2 t2, ?_⟩
    rw [List.drop_eq_nil_of_le (by omega)] at q2
    refine Pq _ H2 (.lst acc) S2 (k2.trans k1) (g1.trans (by rw [← k1]; exact g2)) ev2.st.narrow ?_ q2
    unfold Rep
    refine ⟨D', vs2, rfl, by rw [← k1]; exact hDk, hD2, ?_⟩
    rw [← k1]
    refine r2.shrink fun c hc => ?_
    rcases List.mem_append.mp hc with z | z
    · exact List.mem_append_left _ z
    · exact List.mem_append_right _ (List.mem_append_right _ z)
/-- what a comprehension's rule wants, behind its source -/
def LcN (X : Cx) (scope : Scope) (ok : Nat → Bool) (tg : Expr) (ifs : List Expr) (elt : Expr) (ds : List D) (ρ : Ro) (S : Sto) (Φ : D → Sto → Prop) : Prop := LcD (blks X scope) ok tg ifs elt ds ρ S [] Φ
theorem lcN_norm {scope : Scope} {ok : Nat → Bool} {ifs : List Expr} {elt : Expr} {ds : List D} {ρ' : Ro} {Φ : D → Sto → Prop} (e : ρ = ρ') (h : LcD (blks X scope) ok tg ifs elt ds ρ' S [] Φ) : LcN X scope ok tg ifs elt ds ρ S Φ := by
  rw [e]
  exact h
def okOf (own : List (Str × Nat)) : Nat → Bool := fun j => own.any fun p => Nat.beq p.2 j
theorem okOf_no {own : List (Str × Nat)} {j : Nat} (h : j ∉ own.map (·.2)) : okOf own j = false := by
  unfold okOf
  rw [List.any_eq_false]
  intro p hp e
  exact h (List.mem_map.mpr ⟨p, hp, Nat.eq_of_beq_eq_true e⟩)
theorem blks_K {scope : Scope} {X' : Cx} (h : blks X scope X') : X'.K = X.K := by
  obtain ⟨_, _, _, _, _, rfl⟩ := h
  rfl
theorem de_lc {scope : Scope} {own : List (Str × Nat)} {ifs : List Expr} {elt : Expr} {Φ : D → Sto → Prop} (A : At X P w K mg base tb names k) (hk : scope.kind = .function) (hb : blkD tb names scope.names own = true) (hs : ∀ x, foldedSetIterable iter X.env x = pure x)
    (h : DI X tg iter ρ S fun ds S1 => ds.length ≤ sizeLine ∧ LcN X scope (okOf own) tg ifs elt ds (wipeR ρ (own.map (·.2))) S1 Φ) : DE X (.ListComp elt [⟨tg, iter, ifs, 0⟩] scope pos) ρ S Φ :=
  DE.of (pe_lc (own := own) (g := tgB (blks X scope) tg) (tt := ttB (blks X scope) ifs) (te := teB (blks X scope) elt) A.calm A.nd pi_w (blkD_ok A hk hb)
    (fun s H C cl fp => ⟨fun pins s' σ H' v u Q I r q => q _ ⟨s, H, C, cl, fp, rfl⟩ pins s' u I r⟩) (fun s H C cl fp => pts_b ⟨s, H, C, cl, fp, rfl⟩) (fun s H C cl fp => ⟨fun pins s' σ H' Q I q => q _ ⟨s, H, C, cl, fp, rfl⟩ pins s' I⟩) hs)
    fun Zh σ H Q E P => h.tw E fun J H1 ds S1 k1 g1 s1 it q D' hD => lc_read (fun _ => blks_K) (fun _ => okOf_no) E k1 g1 s1 it q.1 q.2 P hD
theorem ds_setLc {scope : Scope} {own : List (Str × Nat)} {ifs : List Expr} {elt : Expr} {y : Str} {py spos : Pos} {E : DEnds} (A : At X P w K mg base tb names k) (hk : scope.kind = .function) (hb : blkD tb names scope.names own = true) (hs : ∀ x, foldedSetIterable iter X.env x = pure x)
    (hl : (py.line == pos.line) = true) (ha : (scope.names.any fun (n, k) => n == y && (k == .local || k == .cell)) = false) (hy : locB names y = true)
    (h : ∃ i, tb.lookup y = some i ∧ DI X tg iter ρ S fun ds S1 => ds.length ≤ sizeLine ∧ LcN X scope (okOf own) tg ifs elt ds (wipeR ρ (own.map (·.2))) S1 fun d S2 => Nx E (ρ.set i (some d)) S2) : DS X (.Assign [.Name y py] (.ListComp elt [⟨tg, iter, ifs, 0⟩] scope pos) spos) ρ S E := by
  obtain ⟨i, hi, h⟩ := h
  exact DS.of (ps_setLc (own := own) (g := tgB (blks X scope) tg) (tt := ttB (blks X scope) ifs) (te := teB (blks X scope) elt) A.calm A.nd (A.slot _ _ hi) (A.loc _ (locB_of hy)) (sw_true A.kind (A.loc _ (locB_of hy)) hl ha) pi_w (blkD_ok A hk hb)
    (fun s H C cl fp => ⟨fun pins s' σ H' v u Q I r q => q _ ⟨s, H, C, cl, fp, rfl⟩ pins s' u I r⟩) (fun s H C cl fp => pts_b ⟨s, H, C, cl, fp, rfl⟩) (fun s H C cl fp => ⟨fun pins s' σ H' Q I q => q _ ⟨s, H, C, cl, fp, rfl⟩ pins s' I⟩) hs)
    fun Zh σ H Dn ev kk => h.tw ev fun J H1 ds S1 k1 g1 s1 it q D' hD => lc_read (Q := fun x H1 => gName i x σ H1 Dn.nx) (fun _ => blks_K) (fun _ => okOf_no) ev k1 g1 s1 it q.1 q.2 (fun v H' d S' k' g' s' r q => by
      have ev1 := ev.next k' g' s'
      exact kk.nx _ _ _ _ (.of k' g') (ev1.put (by rw [k']; exact r)) q) hD
/-- the items one by one -/
theorem lc_nil {b : Bl} {ok : Nat → Bool} {ifs : List Expr} {elt : Expr} {acc : List D} {Φ : D → Sto → Prop} (q : Φ (.lst acc) S) : LcD b ok tg ifs elt [] ρ S acc Φ := q
theorem lc_cons {b : Bl} {ok : Nat → Bool} {elt : Expr} {d : D} {ds acc : List D} {Φ : D → Sto → Prop} (q : DGb b ok tg d ρ S fun ρ2 S2 => DEb b elt ρ2 S2 fun y S4 => LcD b ok tg [] elt ds ρ S4 (acc ++ [y]) Φ) : LcD b ok tg [] elt (d :: ds) ρ S acc Φ := q
/-- all items alike: the element is f of the item, nothing else changes -/
theorem lc_map {b : Bl} {ok : Nat → Bool} {elt : Expr} {f : D → D} {Φ : D → Sto → Prop} : ∀ {ds acc : List D}, (∀ d, d ∈ ds → ∀ X', b X' → ∀ Ψ : Ro → Sto → Prop, (∀ ρ2, (∀ X', b X' → ∀ Ξ : D → Sto → Prop, Ξ (f d) S → DE X' elt ρ2 S Ξ) → Ψ ρ2 S) → DG X' ok tg d ρ S Ψ) → Φ (.lst (acc ++ ds.map f)) S → LcD b ok tg [] elt ds ρ S acc Φ
  | [], acc, _, q => by
    rw [List.map_nil, List.append_nil] at q
    exact q
  | d :: ds, acc, h, q => by
    refine lc_cons fun X' hX => h d List.mem_cons_self X' hX _ fun ρ2 h2 X2 hX2 => h2 X2 hX2 _ (lc_map (fun c hc => h c (List.mem_cons_of_mem _ hc)) ?_)
    rw [List.append_assoc]
    exact q
end
end Ar
namespace Ar
open PySem PySem.Spec PyProof.Rows L2

section
variable {X : Cx} {ρ : Ro} {S : Sto}
theorem DE.mono {e : Expr} {Φ Ψ : D → Sto → Prop} (h : DE X e ρ S Φ) (k : ∀ d S1, Φ d S1 → Ψ d S1) : DE X e ρ S Ψ := fun Zh pins s σ H Q I E P => h Zh pins s σ H Q I E fun v H' d S' k1 g s1 r q => P v H' d S' k1 g s1 r (k _ _ q)
theorem DT.mono {e : Expr} {Φ Ψ : Bool → Sto → Prop} (h : DT X e ρ S Φ) (k : ∀ d S1, Φ d S1 → Ψ d S1) : DT X e ρ S Ψ := fun Zh pins s σ H Q I E P => h Zh pins s σ H Q I E fun v H' S' k1 g s1 q => P v H' S' k1 g s1 (k _ _ q)
theorem DA.mono {e : List Expr} {Φ Ψ : List D → Sto → Prop} (h : DA X e ρ S Φ) (k : ∀ d S1, Φ d S1 → Ψ d S1) : DA X e ρ S Ψ := fun Zh pos pins s σ H Q I E P => h Zh pos pins s σ H Q I E fun v H' d S' k1 g s1 r l q => P v H' d S' k1 g s1 r l (k _ _ q)
theorem DI.mono {tg iter : Expr} {Φ Ψ : List D → Sto → Prop} (h : DI X tg iter ρ S Φ) (k : ∀ d S1, Φ d S1 → Ψ d S1) : DI X tg iter ρ S Ψ := fun Zh pins s σ H R I E P => h Zh pins s σ H R I E fun J H' ds S' k1 g s1 it q => P J H' ds S' k1 g s1 it (k _ _ q)
theorem DO.mono {f : Value → Value → Sem Value} {a b : D} {Φ Ψ : D → Sto → Prop} (h : DO X f a b S Φ) (k : ∀ d S1, Φ d S1 → Ψ d S1) : DO X f a b S Ψ := fun Zh pins s σ H x y v u Q I st ra rb rx ry P => h Zh pins s σ H x y v u Q I st ra rb rx ry fun v H' d S' k1 g s1 r q => P v H' d S' k1 g s1 r (k _ _ q)
theorem DS.mono {st : Stmt} {E E' : DEnds} (h : DS X st ρ S E) (k1 : ∀ ρ' S', E.nx ρ' S' → E'.nx ρ' S') (k2 : ∀ d S', E.rt d S' → E'.rt d S') (k3 : ∀ ρ' S', E.bk ρ' S' → E'.bk ρ' S') (k4 : ∀ ρ' S', E.ct ρ' S' → E'.ct ρ' S') : DS X st ρ S E' := fun Zh pins s σ H Dn I ev k =>
  h Zh pins s σ H Dn I ev ⟨fun a b c d e f g => k.nx a b c d e f (k1 _ _ g), fun a b c d e f g i => k.rt a b c d e f g (k2 _ _ i), fun a b c d e f g => k.bk a b c d e f (k3 _ _ g), fun a b c d e f g => k.ct a b c d e f (k4 _ _ g)⟩
theorem DSs.mono {st : List Stmt} {E E' : DEnds} (h : DSs X st ρ S E) (k1 : ∀ ρ' S', E.nx ρ' S' → E'.nx ρ' S') (k2 : ∀ d S', E.rt d S' → E'.rt d S') (k3 : ∀ ρ' S', E.bk ρ' S' → E'.bk ρ' S') (k4 : ∀ ρ' S', E.ct ρ' S' → E'.ct ρ' S') : DSs X st ρ S E' := fun Zh pins s σ H Dn I ev k =>
  h Zh pins s σ H Dn I ev ⟨fun a b c d e f g => k.nx a b c d e f (k1 _ _ g), fun a b c d e f g i => k.rt a b c d e f g (k2 _ _ i), fun a b c d e f g => k.bk a b c d e f (k3 _ _ g), fun a b c d e f g => k.ct a b c d e f (k4 _ _ g)⟩
end
/-! ### built-in functions -/
def bltB (x : Str) : Bool := x == "len" || x == "abs" || x == "int" || x == "isinstance" || x == "all" || x == "any" || x == "sum" || x == "tuple" || x == "list" || x == "range" || x == "zip" || x == "enumerate" || x == "bool" || x == "str" || x == "min" || x == "max" || x == "sorted" || x == "divmod" || x == "set" || x == "dict" || x == "pow" || x == "ord" || x == "chr" || x == "reversed" || x == "type"
structure NoB (mg : Str → Option Value) : Prop where
  no : ∀ x, bltB x = true → mg x = none
section
variable {X : Cx} {ρ : Ro} {S : Sto} {Φ : D → Sto → Prop} {P : Program} {w : World} {K : PySem.W.Frag} {mg : Str → Option Value} {base : Heap} {tb : List (Str × Nat)} {names : List (Str × NameKind)} {k : Nat} {pos p : Pos} {e : Expr} {es : List Expr}
theorem de_cB {id : String} {x : Str} {r : List V → Hp → VK → Prop} (A : At X P w K mg base tb names k) (G : NoB mg) (hc : CallR X (.builtin id) r) (hv : bootBuiltins x = some (.builtin id)) (hg : (bltB x && glB names x) = true)
    (he : starEach (e :: es) X.env = (false, eval e X.env) :: starEach es X.env) (hpl : (backTo pos (starEach es X.env)).any (·.1) = false)
    (h : DA X (e :: es) ρ S fun ds S1 => ∀ Zh H vs Q, Store X.K Zh H S1 → RepL X.K (keys S1 ++ Zh) H ds vs → Post X.K Zh H S1 Φ Q → r vs H Q) : DE X (.Call (.Name x p) (e :: es) [] pos) ρ S Φ := by
  rw [Bool.and_eq_true] at hg
  have z := glB_of hg.2
  exact DE.of (pe_callB hc (A.gl _ z.2) (by rw [A.mg]; exact G.no x hg.1) hv pa_w (plain1 z.1).2.2 (plain1 z.1).1 he hpl) fun Zh σ H Q E P => h.tw E fun vs H1 ds S1 k1 g1 s1 r1 l1 q1 => q1 Zh H1 vs Q s1 (by rw [k1]; exact r1) (P.next k1 g1)
theorem de_cT {T : String} {x : Str} {r : List V → Hp → VK → Prop} (A : At X P w K mg base tb names k) (G : NoB mg) (hc : CallR X (.type T) r) (hv : bootBuiltins x = some (.type T)) (hg : (bltB x && glB names x) = true)
    (he : starEach (e :: es) X.env = (false, eval e X.env) :: starEach es X.env) (hpl : (backTo pos (starEach es X.env)).any (·.1) = false)
    (h : DA X (e :: es) ρ S fun ds S1 => ∀ Zh H vs Q, Store X.K Zh H S1 → RepL X.K (keys S1 ++ Zh) H ds vs → Post X.K Zh H S1 Φ Q → r vs H Q) : DE X (.Call (.Name x p) (e :: es) [] pos) ρ S Φ := by
  rw [Bool.and_eq_true] at hg
  have z := glB_of hg.2
  exact DE.of (pe_callTy hc (A.gl _ z.2) (by rw [A.mg]; exact G.no x hg.1) hv pa_w (plain1 z.1).2.2 (plain1 z.1).1 he hpl) fun Zh σ H Q E P => h.tw E fun vs H1 ds S1 k1 g1 s1 r1 l1 q1 => q1 Zh H1 vs Q s1 (by rw [k1]; exact r1) (P.next k1 g1)
theorem da_one (he : starEach [e] X.env = [(false, eval e X.env)]) {Ψ : List D → Sto → Prop} (h : DE X e ρ S fun d S1 => Ψ [d] S1) : DA X [e] ρ S Ψ :=
  da_cons (fun Zh pins s σ H Q I E P => h Zh pins s σ H Q I E fun v H' d S' k g s' r q => P v H' d S' k g s' r (da_nil q)) he
/-- one argument -/
theorem de_cB1 {id : String} {x : Str} {r : List V → Hp → VK → Prop} (A : At X P w K mg base tb names k) (G : NoB mg) (hc : CallR X (.builtin id) r) (hv : bootBuiltins x = some (.builtin id)) (hg : (bltB x && glB names x) = true)
    (he : starEach [e] X.env = [(false, eval e X.env)])
    (h : DE X e ρ S fun d S1 => ∀ Zh H v Q, Store X.K Zh H S1 → Rep X.K (keys S1 ++ Zh) H d v → Post X.K Zh H S1 Φ Q → r [v] H Q) : DE X (.Call (.Name x p) [e] [] pos) ρ S Φ := by
  refine de_cB A G hc hv hg he rfl (da_one he ?_)
  refine DE.mono h fun d S1 q Zh H vs Q s r P => ?_
  obtain ⟨v, r1, rfl, rv, r⟩ := r.uncons
  cases r.un0
  exact q Zh H v Q s rv P
theorem de_cT1 {T : String} {x : Str} {r : List V → Hp → VK → Prop} (A : At X P w K mg base tb names k) (G : NoB mg) (hc : CallR X (.type T) r) (hv : bootBuiltins x = some (.type T)) (hg : (bltB x && glB names x) = true)
    (he : starEach [e] X.env = [(false, eval e X.env)])
    (h : DE X e ρ S fun d S1 => ∀ Zh H v Q, Store X.K Zh H S1 → Rep X.K (keys S1 ++ Zh) H d v → Post X.K Zh H S1 Φ Q → r [v] H Q) : DE X (.Call (.Name x p) [e] [] pos) ρ S Φ := by
  refine de_cT A G hc hv hg he rfl (da_one he ?_)
  refine DE.mono h fun d S1 q Zh H vs Q s r P => ?_
  obtain ⟨v, r1, rfl, rv, r⟩ := r.uncons
  cases r.un0
  exact q Zh H v Q s rv P
theorem de_abs (A : At X P w K mg base tb names k) (G : NoB mg) (hg : glB names "abs" = true) (he : starEach [e] X.env = [(false, eval e X.env)]) (h : DE X e ρ S fun d S1 => ∃ i, d = .int i ∧ Φ (.int (if i < 0 then -i else i)) S1) : DE X (.Call (.Name "abs" p) [e] [] pos) ρ S Φ :=
  de_cB1 A G call_abs rfl (by rw [hg]; rfl) he (DE.mono h fun d S1 ⟨i, e1, q⟩ Zh H v Q s r P => by
    subst e1
    exact ⟨i, by rw [r.int], P.here s rep_int q⟩)
theorem de_intI (A : At X P w K mg base tb names k) (G : NoB mg) (hg : glB names "int" = true) (he : starEach [e] X.env = [(false, eval e X.env)]) (h : DE X e ρ S fun d S1 => (∃ i, d = .int i ∧ Φ (.int i) S1) ∨ ∃ c, d = .bl c ∧ Φ (.int (if c then 1 else 0)) S1) : DE X (.Call (.Name "int" p) [e] [] pos) ρ S Φ :=
  de_cT1 A G call_int1 rfl (by rw [hg]; rfl) he (DE.mono h fun d S1 q Zh H v Q s r P => by
    rcases q with ⟨i, e1, q⟩ | ⟨c, e1, q⟩
    · subst e1
      exact .inl ⟨i, by rw [r.int], P.here s rep_int q⟩
    · subst e1
      exact .inr ⟨c, by rw [r.bl], P.here s rep_int q⟩)
/-- what len tells -/
def LenD (S : Sto) : D → Nat → Prop
  | .tup l, n => n = l.length
  | .lst l, n => n = l.length
  | .frz l, n => n = l.length
  | .str x, n => x.length ≤ sizeLine ∧ n = x.length
  | .cell p, n => ∃ l, (p, l) ∈ S ∧ n = l.length
  | _, _ => False
theorem Rep.frzL {K : PySem.W.Frag} {Z : List Addr} {H : Hp} {l : List D} {v : V} (h : Rep K Z H (.frz l) v) : ∃ p vs, v = .ref p ∧ SqL K H p vs ∧ RepL K Z H l vs := by
  obtain ⟨p, vs, e, h, r⟩ := h.frz
  exact ⟨p, vs, e, frz_sq h, r⟩
theorem lenV_of {K : PySem.W.Frag} {Zh : List Addr} {H : Hp} {d : D} {v : V} {n : Nat} (s : Store K Zh H S) (r : Rep K (keys S ++ Zh) H d v) (h : LenD S d n) : LenV K v H n := by
  cases d with
  | tup l =>
    obtain ⟨p, vs, rfl, sq, rl⟩ := r.tup
    exact .inr ⟨vs, sq, by rw [rl.length]; exact h⟩
  | lst l =>
    obtain ⟨p, vs, rfl, _, sq, rl⟩ := r.lst
    exact .inl ⟨vs, .inl (.inl sq), by rw [rl.length]; exact h⟩
  | frz l =>
    obtain ⟨p, vs, rfl, sq, rl⟩ := r.frzL
    exact .inl ⟨vs, sq, by rw [rl.length]; exact h⟩
  | str x =>
    rw [r.str]
    exact h
  | cell p =>
    obtain ⟨l, m, e⟩ := h
    obtain ⟨vs, h1, rl⟩ := s.st _ _ m
    rw [r.cell]
    exact .inl ⟨vs, .inl (.inl h1), by rw [rl.length]; exact e⟩
  | _ => exact (show False from h).elim
theorem de_len (A : At X P w K mg base tb names k) (G : NoB mg) (hg : glB names "len" = true) (he : starEach [e] X.env = [(false, eval e X.env)]) (h : DE X e ρ S fun d S1 => ∃ n, LenD S1 d n ∧ Φ (.int (n : Int)) S1) : DE X (.Call (.Name "len" p) [e] [] pos) ρ S Φ :=
  de_cB1 A G call_len rfl (by rw [hg]; rfl) he (DE.mono h fun d S1 ⟨n, h1, q⟩ Zh H v Q s r P => ⟨v, n, rfl, lenV_of s r h1, P.here s rep_int q⟩)
/-- all, any, sum -/
theorem RepL.bls {K : PySem.W.Frag} {Z : List Addr} {H : Hp} : ∀ {ns : List Bool} {vs : List V}, RepL K Z H (ns.map D.bl) vs → vs = ns.map V.bl
  | [], _, h => h.un0
  | n :: ns, vs, h => by
    obtain ⟨v, r, e, h1, h2⟩ := RepL.uncons h
    have e2 : v = .bl n := h1.bl
    rw [e, e2, RepL.bls h2] <;> rfl
theorem RepL.strs {K : PySem.W.Frag} {Z : List Addr} {H : Hp} : ∀ {ns : List Str} {vs : List V}, RepL K Z H (ns.map D.str) vs → vs = ns.map V.str
  | [], _, h => h.un0
  | n :: ns, vs, h => by
    obtain ⟨v, r, e, h1, h2⟩ := RepL.uncons h
    have e2 : v = .str n := h1.str
    rw [e, e2, RepL.strs h2] <;> rfl
theorem de_all (A : At X P w K mg base tb names k) (G : NoB mg) (hg : glB names "all" = true) (he : starEach [e] X.env = [(false, eval e X.env)]) (h : DE X e ρ S fun d S1 => ∃ bs : List Bool, d = .lst (bs.map D.bl) ∧ Φ (.bl (bs.all id)) S1) : DE X (.Call (.Name "all" p) [e] [] pos) ρ S Φ :=
  de_cB1 A G (cr_all A.calm) rfl (by rw [hg]; rfl) he (DE.mono h fun d S1 ⟨bs, e1, q⟩ Zh H v Q s r P => by
    subst e1
    obtain ⟨p, vs, rfl, _, sq, rl⟩ := r.lst
    rw [rl.bls] at sq
    exact ⟨p, bs, rfl, .inl (.inl sq), P.here s rep_bl q⟩)
theorem de_any (A : At X P w K mg base tb names k) (G : NoB mg) (hg : glB names "any" = true) (he : starEach [e] X.env = [(false, eval e X.env)]) (h : DE X e ρ S fun d S1 => ∃ bs : List Bool, d = .lst (bs.map D.bl) ∧ Φ (.bl (bs.any id)) S1) : DE X (.Call (.Name "any" p) [e] [] pos) ρ S Φ :=
  de_cB1 A G (cr_any A.calm) rfl (by rw [hg]; rfl) he (DE.mono h fun d S1 ⟨bs, e1, q⟩ Zh H v Q s r P => by
    subst e1
    obtain ⟨p, vs, rfl, _, sq, rl⟩ := r.lst
    rw [rl.bls] at sq
    exact ⟨p, bs, rfl, .inl (.inl sq), P.here s rep_bl q⟩)
theorem de_sum (A : At X P w K mg base tb names k) (G : NoB mg) (hg : glB names "sum" = true) (he : starEach [e] X.env = [(false, eval e X.env)]) (h : DE X e ρ S fun d S1 => ∃ bs : List Int, d = .lst (bs.map D.int) ∧ Φ (.int bs.sum) S1) : DE X (.Call (.Name "sum" p) [e] [] pos) ρ S Φ :=
  de_cB1 A G (cr_sum A.calm) rfl (by rw [hg]; rfl) he (DE.mono h fun d S1 ⟨bs, e1, q⟩ Zh H v Q s r P => by
    subst e1
    obtain ⟨p, vs, rfl, _, sq, rl⟩ := r.lst
    rw [rl.ints] at sq
    exact ⟨p, bs, rfl, .inl (.inl sq), P.here s rep_int q⟩)
/-- tuple(..), list(..) -/
def SeqD (S : Sto) : D → List D → Prop
  | .tup l, m => m = l
  | .lst l, m => m = l
  | .frz l, m => m = l
  | .cell p, m => (p, m) ∈ S
  | _, _ => False
theorem seqV_of {K : PySem.W.Frag} {Zh : List Addr} {H : Hp} {d : D} {v : V} {m : List D} (s : Store K Zh H S) (r : Rep K (keys S ++ Zh) H d v) (h : SeqD S d m) : ∃ p vs, v = .ref p ∧ (SqL K H p vs ∨ SqT K H p vs) ∧ RepL K (keys S ++ Zh) H m vs := by
  cases d with
  | tup l =>
    obtain ⟨p, vs, rfl, sq, rl⟩ := r.tup
    cases (show m = l from h)
    exact ⟨p, vs, rfl, .inr sq, rl⟩
  | lst l =>
    obtain ⟨p, vs, rfl, _, sq, rl⟩ := r.lst
    cases (show m = l from h)
    exact ⟨p, vs, rfl, .inl (.inl (.inl sq)), rl⟩
  | frz l =>
    obtain ⟨p, vs, rfl, sq, rl⟩ := r.frzL
    cases (show m = l from h)
    exact ⟨p, vs, rfl, .inl sq, rl⟩
  | cell p =>
    obtain ⟨vs, h1, rl⟩ := s.st _ _ h
    rw [r.cell]
    exact ⟨p, vs, rfl, .inl (.inl (.inl h1)), rl⟩
  | _ => exact (show False from h).elim
theorem Post.tupAt {K : PySem.W.Frag} {Zh : List Addr} {H : Hp} {Q : VK} {l : List D} {vs : List V} {p : Addr} (P : Post K Zh H S Φ Q) (s : Store K Zh H S) (r : RepL K (keys S ++ Zh) H l vs) (q : Φ (.tup l) S) (hp : SqT K H p vs) : Q (.ref p) H :=
  P.here s (show Rep K (keys S ++ Zh) H (.tup l) (.ref p) by unfold Rep; exact ⟨p, vs, rfl, hp, r⟩) q
theorem de_tupleOf (A : At X P w K mg base tb names k) (G : NoB mg) (hg : glB names "tuple" = true) (he : starEach [e] X.env = [(false, eval e X.env)]) (h : DE X e ρ S fun d S1 => ∃ l, SeqD S1 d l ∧ Φ (.tup l) S1) : DE X (.Call (.Name "tuple" p) [e] [] pos) ρ S Φ :=
  de_cT1 A G call_tuple_of rfl (by rw [hg]; rfl) he (DE.mono h fun d S1 ⟨l, h1, q⟩ Zh H v Q s r P => by
    obtain ⟨p, vs, rfl, sq, rl⟩ := seqV_of s r h1
    exact ⟨p, vs, rfl, sq.imp (fun sq => ⟨sq, fun z hz => P.tup s rl q hz⟩) (fun sq => ⟨sq, P.tupAt s rl q sq⟩)⟩)
theorem de_listOf (A : At X P w K mg base tb names k) (G : NoB mg) (hg : glB names "list" = true) (he : starEach [e] X.env = [(false, eval e X.env)]) (h : DE X e ρ S fun d S1 => ∃ l, SeqD S1 d l ∧ Φ (.lst l) S1) : DE X (.Call (.Name "list" p) [e] [] pos) ρ S Φ :=
  de_cT1 A G call_list_of rfl (by rw [hg]; rfl) he (DE.mono h fun d S1 ⟨l, h1, q⟩ Zh H v Q s r P => by
    obtain ⟨p, vs, rfl, sq, rl⟩ := seqV_of s r h1
    exact ⟨p, vs, rfl, sq, fun z hz => P.lst s rl q hz⟩)
/-! isinstance -/
def tyN : D → String
  | .non => "NoneType"
  | .bl _ => "bool"
  | .int _ => "int"
  | .str _ => "str"
  | .tup _ => "tuple"
  | .lst _ => "list"
  | .frz _ => "list"
  | .cell _ => "list"
  | .dct _ _ => "dict"
theorem tyX_of {K : PySem.W.Frag} {Zh : List Addr} {H : Hp} {d : D} {v : V} (s : Store K Zh H S) (hc : ∀ p, d = .cell p → p ∈ keys S) (r : Rep K (keys S ++ Zh) H d v) : TyX K H v (.type (tyN d)) := by
  have sq : ∀ {p vs}, SqL K H p vs → TyX K H (.ref p) (.type "list") := fun {p vs} h => by
    rcases h with (h | ⟨o, h⟩) | ⟨o, its, n, h, hcl, _⟩
    · exact .base (.lst h)
    · exact .base (.frz h)
    · exact .kList h hcl
  cases d with
  | non => rw [r.non]; exact .base .non
  | bl b => rw [r.bl]; exact .base (.bl b)
  | int i => rw [r.int]; exact .base (.int i)
  | str x => rw [r.str]; exact .base (.str x)
  | tup l =>
    obtain ⟨p, vs, rfl, h, rl⟩ := r.tup
    rcases h with (h | ⟨o, h⟩) | ⟨o, its, n, h, hcl, _⟩
    · exact .base (.tup h)
    · exact .fTuple h
    · exact .kTuple h hcl
  | lst l =>
    obtain ⟨p, vs, rfl, _, h, rl⟩ := r.lst
    exact sq (.inl (.inl h))
  | frz l =>
    obtain ⟨p, vs, rfl, h, rl⟩ := r.frzL
    exact sq h
  | cell p =>
    rw [r.cell]
    obtain ⟨vs, h⟩ := s.zl p (hc p rfl)
    exact .base (.lst h)
  | dct ks l =>
    obtain ⟨p, vs, rfl, _, h, rl⟩ := r.dct
    exact .base (.dK h)
end
end Ar
namespace Ar
open PySem PySem.Spec PyProof.Rows L2
section
variable {X : Cx} {ρ : Ro} {S : Sto} {Φ : D → Sto → Prop} {P : Program} {w : World} {K : PySem.W.Frag} {mg : Str → Option Value} {base : Heap} {tb : List (Str × Nat)} {names : List (Str × NameKind)} {k : Nat} {pos p : Pos} {e : Expr} {es : List Expr}
/-! ### isinstance -/
def OkC (S : Sto) : D → Prop
  | .cell p => p ∈ keys S
  | _ => True
theorem OkC.of {d : D} (h : OkC S d) : ∀ p, d = .cell p → p ∈ keys S := fun p e1 => by
  subst e1
  exact h
/-- a type by its name, and what isinstance tells of data -/
structure TyG (x : Str) (T : String) (f : D → Bool) : Prop where
  bt : bootBuiltins x = some (.type T)
  bb : bltB x = true
  kit : ∀ d, kitB (tyN d) T = some (f d)
def isIntB : D → Bool
  | .int _ => true
  | .bl _ => true
  | _ => false
def isBoolB : D → Bool
  | .bl _ => true
  | _ => false
def isStrB : D → Bool
  | .str _ => true
  | _ => false
def isTupleB : D → Bool
  | .tup _ => true
  | _ => false
def isListB : D → Bool
  | .lst _ => true
  | .frz _ => true
  | .cell _ => true
  | _ => false
theorem tyInt : TyG "int" "int" isIntB := ⟨by decide +kernel, by decide +kernel, fun d => by
  cases d
  · exact (show kitB "NoneType" "int" = some false by decide +kernel)
  · exact (show kitB "bool" "int" = some true by decide +kernel)
  · exact (show kitB "int" "int" = some true by decide +kernel)
  · exact (show kitB "str" "int" = some false by decide +kernel)
  · exact (show kitB "tuple" "int" = some false by decide +kernel)
  · exact (show kitB "list" "int" = some false by decide +kernel)
  · exact (show kitB "list" "int" = some false by decide +kernel)
  · exact (show kitB "list" "int" = some false by decide +kernel)
  · exact (show kitB "dict" "int" = some false by decide +kernel)⟩
theorem tyBool : TyG "bool" "bool" isBoolB := ⟨by decide +kernel, by decide +kernel, fun d => by
  cases d
  · exact (show kitB "NoneType" "bool" = some false by decide +kernel)
  · exact (show kitB "bool" "bool" = some true by decide +kernel)
  · exact (show kitB "int" "bool" = some false by decide +kernel)
  · exact (show kitB "str" "bool" = some false by decide +kernel)
  · exact (show kitB "tuple" "bool" = some false by decide +kernel)
  · exact (show kitB "list" "bool" = some false by decide +kernel)
  · exact (show kitB "list" "bool" = some false by decide +kernel)
  · exact (show kitB "list" "bool" = some false by decide +kernel)
  · exact (show kitB "dict" "bool" = some false by decide +kernel)⟩
theorem tyStr : TyG "str" "str" isStrB := ⟨by decide +kernel, by decide +kernel, fun d => by
  cases d
  · exact (show kitB "NoneType" "str" = some false by decide +kernel)
  · exact (show kitB "bool" "str" = some false by decide +kernel)
  · exact (show kitB "int" "str" = some false by decide +kernel)
  · exact (show kitB "str" "str" = some true by decide +kernel)
  · exact (show kitB "tuple" "str" = some false by decide +kernel)
  · exact (show kitB "list" "str" = some false by decide +kernel)
  · exact (show kitB "list" "str" = some false by decide +kernel)
  · exact (show kitB "list" "str" = some false by decide +kernel)
  · exact (show kitB "dict" "str" = some false by decide +kernel)⟩
theorem tyTuple : TyG "tuple" "tuple" isTupleB := ⟨by decide +kernel, by decide +kernel, fun d => by
  cases d
  · exact (show kitB "NoneType" "tuple" = some false by decide +kernel)
  · exact (show kitB "bool" "tuple" = some false by decide +kernel)
  · exact (show kitB "int" "tuple" = some false by decide +kernel)
  · exact (show kitB "str" "tuple" = some false by decide +kernel)
  · exact (show kitB "tuple" "tuple" = some true by decide +kernel)
  · exact (show kitB "list" "tuple" = some false by decide +kernel)
  · exact (show kitB "list" "tuple" = some false by decide +kernel)
  · exact (show kitB "list" "tuple" = some false by decide +kernel)
  · exact (show kitB "dict" "tuple" = some false by decide +kernel)⟩
theorem tyList : TyG "list" "list" isListB := ⟨by decide +kernel, by decide +kernel, fun d => by
  cases d
  · exact (show kitB "NoneType" "list" = some false by decide +kernel)
  · exact (show kitB "bool" "list" = some false by decide +kernel)
  · exact (show kitB "int" "list" = some false by decide +kernel)
  · exact (show kitB "str" "list" = some false by decide +kernel)
  · exact (show kitB "tuple" "list" = some false by decide +kernel)
  · exact (show kitB "list" "list" = some true by decide +kernel)
  · exact (show kitB "list" "list" = some true by decide +kernel)
  · exact (show kitB "list" "list" = some true by decide +kernel)
  · exact (show kitB "dict" "list" = some false by decide +kernel)⟩
theorem de_isi {T : String} {f : D → Bool} {x : Str} {px : Pos} (A : At X P w K mg base tb names k) (G : NoB mg) (t : TyG x T f) (hg : (glB names x && glB names "isinstance") = true)
    (he : starEach [e, .Name x px] X.env = (false, eval e X.env) :: starEach [.Name x px] X.env)
    (h : DE X e ρ S fun d S1 => OkC S1 d ∧ Φ (.bl (f d)) S1) : DE X (.Call (.Name "isinstance" p) [e, .Name x px] [] pos) ρ S Φ := by
  rw [Bool.and_eq_true] at hg
  have z1 := glB_of hg.1
  have z2 := glB_of hg.2
  exact DE.of (pe_callB call_isi (A.gl _ z2.2) (by rw [A.mg]; exact G.no _ rfl) rfl (pa_cons pe_w (pa_cons (pe_bltn (v := .ty T) (A.gl _ z1.2) (by rw [A.mg]; exact G.no x t.bb) t.bt rfl (plain1 z1.1).2.2 (plain1 z1.1).1) pa_nil rfl) he) (plain1 z2.1).2.2 (plain1 z2.1).1 he rfl)
    fun Zh σ H Q E P => h.bind E fun v H1 d S1 k1 g1 E1 r1 h1 => by
      obtain ⟨hc, q⟩ := h1
      exact ⟨v, .ty T, _, _, f d, rfl, .ty T, tyX_of E1.st hc.of r1, kit_ty (t.kit d), (P.next k1 g1).here E1.st rep_bl q⟩
theorem de_isi2 {T T2 : String} {f f2 : D → Bool} {x x2 : Str} {px px2 pt : Pos} {kk} (A : At X P w K mg base tb names k) (G : NoB mg) (t : TyG x T f) (t' : TyG x2 T2 f2) (hg : (glB names x && glB names "isinstance" && glB names x2) = true)
    (he : starEach [e, .Tuple [.Name x px, .Name x2 px2] kk pt] X.env = (false, eval e X.env) :: starEach [.Tuple [.Name x px, .Name x2 px2] kk pt] X.env)
    (h : DE X e ρ S fun d S1 => OkC S1 d ∧ Φ (.bl (f d || f2 d)) S1) : DE X (.Call (.Name "isinstance" p) [e, .Tuple [.Name x px, .Name x2 px2] kk pt] [] pos) ρ S Φ := by
  rw [Bool.and_eq_true, Bool.and_eq_true] at hg
  have z1 := glB_of hg.1.1
  have z2 := glB_of hg.1.2
  have z3 := glB_of hg.2
  have t1 : PE X (.Name x px) (tC (.ty T)) := pe_bltn (v := .ty T) (A.gl _ z1.2) (by rw [A.mg]; exact G.no x t.bb) t.bt rfl (plain1 z1.1).2.2 (plain1 z1.1).1
  have t2 : PE X (.Name x2 px2) (tC (.ty T2)) := pe_bltn (v := .ty T2) (A.gl _ z3.2) (by rw [A.mg]; exact G.no x2 t'.bb) t'.bt rfl (plain1 z3.1).2.2 (plain1 z3.1).1
  exact DE.of (pe_callB call_isiT (A.gl _ z2.2) (by rw [A.mg]; exact G.no _ rfl) rfl (pa_cons pe_w (pa_cons (pe_tup (pa_cons t1 (pa_cons t2 pa_nil rfl) rfl)) pa_nil rfl) he) (plain1 z2.1).2.2 (plain1 z2.1).1 he rfl)
    fun Zh σ H Q E P => h.bind E fun v H1 d S1 k1 g1 E1 r1 h1 => by
      obtain ⟨hc, q⟩ := h1
      have hb := t.kit d
      have hb2 := t'.kit d
      refine ⟨sz rfl, fun tp hp => ?_⟩
      have s2 := E1.st.new (o := .tup [.ty T, .ty T2]) hp
      have r2 := E1.st.gr (Grow.new (o := .tup [.ty T, .ty T2]) hp) r1
      refine ⟨v, tp, [.ty T, .ty T2], _, [.type T, .type T2], f d || f2 d, rfl, upd_same, .cons (.ty T) (.cons (.ty T2) .nil), tyX_of s2 hc.of r2, ?_, ((P.next k1 g1).next rfl (Grow.new hp)).here s2 rep_bl q⟩
      refine kitAny_cons (kit_ty hb) (fun e1 => ?_) (fun e1 => by rw [e1]; rfl)
      rw [e1, Bool.false_or]
      exact kitAny_cons (kit_ty hb2) (fun e2 => by rw [e2]; exact kitAny_nil) (fun e2 => e2)
/-! ### signs before -/
theorem de_neg (h : DE X e ρ S fun d S1 => ∃ i, d = .int i ∧ Φ (.int (-i)) S1) : DE X (.UnaryOp .USub e pos) ρ S Φ := DE.of (pe_un un_neg pe_w) fun Zh σ H Q E P => h.bind E fun v H1 d S1 k1 g1 E1 r1 h1 => by
  obtain ⟨i, rfl, q⟩ := h1
  exact ⟨i, r1.int, (P.next k1 g1).here E1.st rep_int q⟩
/-- truth -/
def TruD (S : Sto) : D → Bool → Prop
  | .non, k => k = false
  | .bl b, k => k = b
  | .int i, k => k = (i != 0)
  | .str y, k => y.length ≤ sizeLine ∧ k = ((y.length : Int) != 0)
  | .tup l, k => k = !l.isEmpty
  | .lst l, k => k = !l.isEmpty
  | .frz l, k => k = !l.isEmpty
  | .cell p, k => ∃ l, (p, l) ∈ S ∧ k = !l.isEmpty
  | .dct _ _, _ => False
theorem RepL.isEmpty {K : PySem.W.Frag} {Z : List Addr} {H : Hp} {l : List D} {vs : List V} (r : RepL K Z H l vs) : vs.isEmpty = l.isEmpty := by
  have e := r.length
  cases l <;> cases vs <;> simp_all
theorem truV_of {K : PySem.W.Frag} {Zh : List Addr} {H : Hp} {d : D} {v : V} {c : Bool} (s : Store K Zh H S) (r : Rep K (keys S ++ Zh) H d v) (h : TruD S d c) : TruV K v H c := by
  cases d with
  | non => rw [r.non]; exact h
  | bl b => rw [r.bl]; exact h
  | int i => rw [r.int]; exact h
  | str x => rw [r.str]; exact h
  | tup l =>
    obtain ⟨p, vs, rfl, sq, rl⟩ := r.tup
    exact .inr (.inl ⟨vs, sq, by rw [rl.isEmpty]; exact h⟩)
  | lst l =>
    obtain ⟨p, vs, rfl, _, sq, rl⟩ := r.lst
    exact .inl ⟨vs, .inl (.inl sq), by rw [rl.isEmpty]; exact h⟩
  | frz l =>
    obtain ⟨p, vs, rfl, sq, rl⟩ := r.frzL
    exact .inl ⟨vs, sq, by rw [rl.isEmpty]; exact h⟩
  | cell p =>
    obtain ⟨l, m, e⟩ := h
    obtain ⟨vs, h1, rl⟩ := s.st _ _ m
    rw [r.cell]
    exact .inl ⟨vs, .inl (.inl h1), by rw [rl.isEmpty]; exact e⟩
  | dct ks l => exact (show False from h).elim
theorem dt_truth {Φ : Bool → Sto → Prop} (he : ∀ whole, isTrue e X.env whole = (do let v ← whole; standAt e.pos; holding [v] (truthy v))) (h : DE X e ρ S fun d S1 => ∃ c, TruD S1 d c ∧ Φ c S1) : DT X e ρ S Φ := DT.of (pt_truth pe_w he) fun Zh σ H Q E P => h.bind E fun v H1 d S1 k1 g1 E1 r1 h1 => by
  obtain ⟨c, hc, q⟩ := h1
  exact ⟨c, truV_of E1.st r1 hc, (P.next k1 g1) c H1 S1 rfl Grow.refl E1.st q⟩
theorem dt_not {Φ : Bool → Sto → Prop} (h : DT X e ρ S fun c S1 => Φ (!c) S1) : DT X (.UnaryOp .Not e pos) ρ S Φ := DT.of (pt_not pt_w) fun Zh σ H Q E P => h.tw E fun c H1 S1 k1 g1 s1 q => P (!c) H1 S1 k1 g1 s1 q
theorem de_not (h : DE X e ρ S fun d S1 => ∃ c, TruD S1 d c ∧ Φ (.bl (!c)) S1) : DE X (.UnaryOp .Not e pos) ρ S Φ := DE.of (pe_notT pe_w) fun Zh σ H Q E P => h.bind E fun v H1 d S1 k1 g1 E1 r1 h1 => by
  obtain ⟨c, hc, q⟩ := h1
  exact ⟨c, truV_of E1.st r1 hc, (P.next k1 g1).here E1.st rep_bl q⟩
/-! and, or -/
def DW (X : Cx) (e : Expr) (ρ : Ro) (S : Sto) (Φ : Bool → Sto → Prop) : Prop :=
  ∀ (whole : Sem Value) (Zh : List Addr) (pins : List (Addr × Obj)) (s : Shared) (σ : L2.St) (H : Hp) (Q : Bool → Hp → Prop), Inv X pins σ H s → Ev X.K Zh H σ ρ S → PostT X.K Zh H S Φ Q → wpAny (model X.prog X.w) X.A (isTrue e X.env whole) (TP X pins σ Q) X.xe s
def twW (X : Cx) (e : Expr) : TT := fun σ H Q => ∀ (whole : Sem Value) (pins : List (Addr × Obj)) (s : Shared), Inv X pins σ H s → wpAny (model X.prog X.w) X.A (isTrue e X.env whole) (TP X pins σ Q) X.xe s
theorem pw_w : PW X e (twW X e) := ⟨fun wh pins s _ _ _ I h => h wh pins s I⟩
theorem DW.of {t : TT} {Φ : Bool → Sto → Prop} (p : PW X e t) (h : ∀ Zh σ H Q, Ev X.K Zh H σ ρ S → PostT X.K Zh H S Φ Q → t σ H Q) : DW X e ρ S Φ := fun wh Zh pins s σ H Q I E q => p.run wh pins s σ H Q I (h Zh σ H Q E q)
theorem DW.tw {Φ : Bool → Sto → Prop} {Zh : List Addr} {σ : L2.St} {H : Hp} {Q : Bool → Hp → Prop} (h : DW X e ρ S Φ) (E : Ev X.K Zh H σ ρ S) (q : PostT X.K Zh H S Φ Q) : twW X e σ H Q := fun wh pins s I => h wh Zh pins s σ H Q I E q
variable {a b : Expr} {rest : List Expr}
theorem dt_bool {op} {Ψ : Bool → Sto → Prop} (h : DW X (.BoolOp op es pos) ρ S Ψ) : DT X (.BoolOp op es pos) ρ S Ψ := fun Zh pins s σ H Q I E q => h _ Zh pins s σ H Q I E q
theorem dw_and1 {Ψ : Bool → Sto → Prop} (h : DT X a ρ S Ψ) : DW X (.BoolOp .And [a] pos) ρ S Ψ := DW.of (pw_and1 pt_w) fun Zh σ H Q E P => h.tw E P
theorem dw_or1 {Ψ : Bool → Sto → Prop} (h : DT X a ρ S Ψ) : DW X (.BoolOp .Or [a] pos) ρ S Ψ := DW.of (pw_or1 pt_w) fun Zh σ H Q E P => h.tw E P
theorem dw_and {Ψ : Bool → Sto → Prop} (h : DT X a ρ S fun c S1 => if c = true then DW X (.BoolOp .And (b :: rest) pos) ρ S1 Ψ else Ψ false S1) : DW X (.BoolOp .And (a :: b :: rest) pos) ρ S Ψ := DW.of (pw_and pt_w pw_w) fun Zh σ H Q E P => h.tw E fun c H1 S1 k1 g1 s1 q => by
  cases c with
  | true => exact DW.tw q (E.next k1 g1 s1) (P.next k1 g1)
  | false => exact (P.next k1 g1) false H1 S1 rfl Grow.refl s1 q
theorem dw_or {Ψ : Bool → Sto → Prop} (h : DT X a ρ S fun c S1 => if c = true then Ψ true S1 else DW X (.BoolOp .Or (b :: rest) pos) ρ S1 Ψ) : DW X (.BoolOp .Or (a :: b :: rest) pos) ρ S Ψ := DW.of (pw_or pt_w pw_w) fun Zh σ H Q E P => h.tw E fun c H1 S1 k1 g1 s1 q => by
  cases c with
  | false => exact DW.tw q (E.next k1 g1 s1) (P.next k1 g1)
  | true => exact (P.next k1 g1) true H1 S1 rfl Grow.refl s1 q
theorem de_bool1 {op} (h : DE X a ρ S Φ) : DE X (.BoolOp op [a] pos) ρ S Φ := DE.of (pe_one pe_w) fun Zh σ H Q E P => h.tw E P
theorem de_and (h : DE X a ρ S fun d S1 => ∃ c, TruD S1 d c ∧ if c = true then DE X (.BoolOp .And (b :: rest) pos) ρ S1 Φ else Φ d S1) : DE X (.BoolOp .And (a :: b :: rest) pos) ρ S Φ := DE.of (pe_andT pe_w pe_w) fun Zh σ H Q E P => h.bind E fun v H1 d S1 k1 g1 E1 r1 h1 => by
  obtain ⟨c, hc, q⟩ := h1
  refine ⟨c, truV_of E1.st r1 hc, ?_⟩
  cases c with
  | true => exact DE.tw q E1 (P.next k1 g1)
  | false => exact (P.next k1 g1).here E1.st r1 q
theorem de_or (h : DE X a ρ S fun d S1 => ∃ c, TruD S1 d c ∧ if c = true then Φ d S1 else DE X (.BoolOp .Or (b :: rest) pos) ρ S1 Φ) : DE X (.BoolOp .Or (a :: b :: rest) pos) ρ S Φ := DE.of (pe_orT pe_w pe_w) fun Zh σ H Q E P => h.bind E fun v H1 d S1 k1 g1 E1 r1 h1 => by
  obtain ⟨c, hc, q⟩ := h1
  refine ⟨c, truV_of E1.st r1 hc, ?_⟩
  cases c with
  | false => exact DE.tw q E1 (P.next k1 g1)
  | true => exact (P.next k1 g1).here E1.st r1 q
theorem de_if {c : Expr} (h : DT X c ρ S fun c S1 => if c = true then DE X a ρ S1 Φ else DE X b ρ S1 Φ) : DE X (.IfExp c a b pos) ρ S Φ := DE.of (pe_ifExp pt_w pe_w pe_w) fun Zh σ H Q E P => h.tw E fun c H1 S1 k1 g1 s1 q => by
  cases c with
  | true => exact DE.tw q (E.next k1 g1 s1) (P.next k1 g1)
  | false => exact DE.tw q (E.next k1 g1 s1) (P.next k1 g1)
/-- choices -/
theorem ite_t {c : Bool} {A B : Prop} (h : c = true) (q : A) : if c = true then A else B := by rw [if_pos h]; exact q
theorem ite_f {c : Bool} {A B : Prop} (h : c = false) (q : B) : if c = true then A else B := by rw [h, if_neg (by simp)]; exact q
theorem ite_c {c : Bool} {A B : Prop} (q1 : c = true → A) (q2 : c = false → B) : if c = true then A else B := by
  cases c with
  | true => exact q1 rfl
  | false => exact q2 rfl
/-! ### parts -/
def IxD (S : Sto) : D → D → D → Prop
  | .tup l, .int i, e => atI l i = some e
  | .lst l, .int i, e => atI l i = some e
  | .frz l, .int i, e => atI l i = some e
  | .cell p, .int i, e => ∃ l, (p, l) ∈ S ∧ atI l i = some e
  | .str z, .int i, e => z.length ≤ sizeLine ∧ ∃ c, atI z.cps.toList i = some c ∧ e = .str ⟨#[c]⟩
  | _, _, _ => False
theorem RepL.atI {K : PySem.W.Frag} {Z : List Addr} {H : Hp} {l : List D} {vs : List V} {i : Int} {e : D} (rl : RepL K Z H l vs) (ha : L2.atI l i = some e) : ∃ v, L2.atI vs i = some v ∧ Rep K Z H e v := by
  unfold L2.atI at ha ⊢
  rw [rl.length]
  cases hj : ixN l.length i with
  | none => rw [hj] at ha; cases ha
  | some j =>
    rw [hj] at ha
    exact rl.get ha
theorem de_ix (hp : PlainIx b) (h : DE X a ρ S fun d S1 => DE X b ρ S1 fun c S2 => ∃ e, IxD S2 d c e ∧ Φ e S2) : DE X (.Subscript a b pos) ρ S Φ :=
  DE.of (pe_ix ix_seq pe_w pe_w hp) fun Zh σ H Q E P => h.bind E fun x H1 d S1 k1 g1 E1 r1 h1 => h1.bind E1 fun y H2 c S2 k2 g2 E2 r2 h2 => by
    obtain ⟨e, hi, q⟩ := h2
    have r3 : Rep X.K (keys S2 ++ Zh) H2 d x := by
      rw [k2]
      exact E1.st.gr g2 r1
    have P2 := (P.next k1 g1).next k2 g2
    cases c with
    | int i =>
      cases d with
      | tup l =>
        obtain ⟨p, vs, rfl, sq, rl⟩ := r3.tup
        obtain ⟨v, hv, rv⟩ := rl.atI hi
        exact .inr (.inl ⟨p, vs, i, v, rfl, r2.int, sq, hv, P2.here E2.st rv q⟩)
      | lst l =>
        obtain ⟨p, vs, rfl, _, sq, rl⟩ := r3.lst
        obtain ⟨v, hv, rv⟩ := rl.atI hi
        exact .inl ⟨p, vs, i, v, rfl, r2.int, .inl (.inl sq), hv, P2.here E2.st rv q⟩
      | frz l =>
        obtain ⟨p, vs, rfl, sq, rl⟩ := r3.frzL
        obtain ⟨v, hv, rv⟩ := rl.atI hi
        exact .inl ⟨p, vs, i, v, rfl, r2.int, sq, hv, P2.here E2.st rv q⟩
      | cell p =>
        obtain ⟨l, m, hi⟩ := hi
        obtain ⟨vs, sq, rl⟩ := E2.st.st _ _ m
        obtain ⟨v, hv, rv⟩ := rl.atI hi
        exact .inl ⟨p, vs, i, v, r3.cell, r2.int, .inl (.inl sq), hv, P2.here E2.st rv q⟩
      | str z =>
        obtain ⟨hl, c, hc, rfl⟩ := hi
        exact .inr (.inr ⟨z, i, c, r3.str, r2.int, hl, hc, P2.here E2.st rep_str q⟩)
      | _ => exact (show False from hi).elim
    | _ => cases d <;> exact (show False from hi).elim
/-- slices -/
def cutD (xs : List D) (lo hi : Option Int) : List D := (xs.drop (HT.sIx xs.length 0 lo)).take (HT.sIx xs.length xs.length hi - HT.sIx xs.length 0 lo)
def SlD : D → Option Int → Option Int → D → Prop
  | .tup l, lo, hi, e => e = .tup (cutD l lo hi)
  | .lst l, lo, hi, e => e = .lst (cutD l lo hi)
  | .frz l, lo, hi, e => e = .lst (cutD l lo hi)
  | .str z, lo, hi, e => z.length ≤ sizeLine ∧ e = .str (cutS z lo hi)
  | _, _, _, _ => False
theorem RepL.drop {K : PySem.W.Frag} {Z : List Addr} {H : Hp} : ∀ {n : Nat} {l : List D} {vs : List V}, RepL K Z H l vs → RepL K Z H (l.drop n) (vs.drop n)
  | 0, _, _, h => h
  | n + 1, [], vs, h => by
    rw [h.un0]
    exact .nil
  | n + 1, d :: l, vs, h => by
    obtain ⟨v, r, rfl, _, h⟩ := h.uncons
    exact RepL.drop (n := n) h
theorem RepL.take {K : PySem.W.Frag} {Z : List Addr} {H : Hp} : ∀ {n : Nat} {l : List D} {vs : List V}, RepL K Z H l vs → RepL K Z H (l.take n) (vs.take n)
  | 0, _, _, h => .nil
  | n + 1, [], vs, h => by
    rw [h.un0]
    exact .nil
  | n + 1, d :: l, vs, h => by
    obtain ⟨v, r, rfl, h1, h⟩ := h.uncons
    exact .cons h1 (RepL.take (n := n) h)
theorem RepL.cut {K : PySem.W.Frag} {Z : List Addr} {H : Hp} {l : List D} {vs : List V} {lo hi : Option Int} (h : RepL K Z H l vs) : RepL K Z H (cutD l lo hi) (cutV vs lo hi) := by
  unfold cutD cutV
  rw [h.length]
  exact h.drop.take
theorem sl_any : SlR X (fun x lo hi H Q => rSlL X.K x lo hi H Q ∨ (rSlA X.K x lo hi H Q ∨ rSlS x lo hi H Q)) := sl_list.or (sl_tupA.or sl_str)
theorem cutD_all {l : List D} {lo hi : Option Int} (h : HT.sIx l.length 0 lo = 0 ∧ HT.sIx l.length l.length hi = l.length) : cutD l lo hi = l := by
  unfold cutD
  rw [h.1, h.2, List.drop_zero, Nat.sub_zero, List.take_length]
theorem slV_of {K : PySem.W.Frag} {Zh : List Addr} {H : Hp} {d e : D} {v : V} {lo hi : Option Int} {Q : VK} (s : Store K Zh H S) (r : Rep K (keys S ++ Zh) H d v) (h : SlD d lo hi e) (q : Φ e S) (P : Post K Zh H S Φ Q) : rSlL K v lo hi H Q ∨ (rSlA K v lo hi H Q ∨ rSlS v lo hi H Q) := by
  cases d with
  | tup l =>
    cases (show e = _ from h)
    obtain ⟨p, vs, rfl, sq, rl⟩ := r.tup
    refine .inr (.inl ⟨p, vs, rfl, sq, fun f => ?_, fun f z hz => P.tup s rl.cut q hz⟩)
    rw [rl.length] at f
    exact P.tupAt s (by rw [cutD_all f]; exact rl) q sq
  | lst l =>
    cases (show e = _ from h)
    obtain ⟨p, vs, rfl, _, sq, rl⟩ := r.lst
    exact .inl ⟨p, vs, rfl, .inl (.inl sq), fun z hz => P.lst s rl.cut q hz⟩
  | frz l =>
    cases (show e = _ from h)
    obtain ⟨p, vs, rfl, sq, rl⟩ := r.frzL
    exact .inl ⟨p, vs, rfl, sq, fun z hz => P.lst s rl.cut q hz⟩
  | str z =>
    obtain ⟨hl, rfl⟩ := h
    exact .inr (.inr ⟨z, r.str, hl, P.here s rep_str q⟩)
  | _ => exact (show False from h).elim
variable {lo hi : Expr} {p2 : Pos}
theorem de_slLo (h : DE X a ρ S fun d S1 => DE X lo ρ S1 fun l S2 => ∃ i e, l = .int i ∧ SlD d (some i) none e ∧ Φ e S2) : DE X (.Subscript a (.Slice (some lo) none none p2) pos) ρ S Φ :=
  DE.of (pe_slice sl_any pe_w (po_some pe_w) po_none) fun Zh σ H Q E P => h.bind E fun x H1 d S1 k1 g1 E1 r1 h1 => h1.bind E1 fun y H2 c S2 k2 g2 E2 r2 h2 => by
    obtain ⟨i, e, rfl, hs, q⟩ := h2
    exact ⟨i, r2.int, slV_of E2.st (by rw [k2]; exact E1.st.gr g2 r1) hs q ((P.next k1 g1).next k2 g2)⟩
theorem de_slHi (h : DE X a ρ S fun d S1 => DE X hi ρ S1 fun l S2 => ∃ i e, l = .int i ∧ SlD d none (some i) e ∧ Φ e S2) : DE X (.Subscript a (.Slice none (some hi) none p2) pos) ρ S Φ :=
  DE.of (pe_slice sl_any pe_w po_none (po_some pe_w)) fun Zh σ H Q E P => h.bind E fun x H1 d S1 k1 g1 E1 r1 h1 => h1.bind E1 fun y H2 c S2 k2 g2 E2 r2 h2 => by
    obtain ⟨i, e, rfl, hs, q⟩ := h2
    exact ⟨i, r2.int, slV_of E2.st (by rw [k2]; exact E1.st.gr g2 r1) hs q ((P.next k1 g1).next k2 g2)⟩
theorem de_slLH (h : DE X a ρ S fun d S1 => DE X lo ρ S1 fun l S2 => ∃ i, l = .int i ∧ DE X hi ρ S2 fun u S3 => ∃ j e, u = .int j ∧ SlD d (some i) (some j) e ∧ Φ e S3) : DE X (.Subscript a (.Slice (some lo) (some hi) none p2) pos) ρ S Φ :=
  DE.of (pe_slice sl_any pe_w (po_some pe_w) (po_some pe_w)) fun Zh σ H Q E P => h.bind E fun x H1 d S1 k1 g1 E1 r1 h1 => h1.bind E1 fun y H2 c S2 k2 g2 E2 r2 h2 => by
    obtain ⟨i, rfl, h3⟩ := h2
    refine ⟨i, r2.int, h3.bind E2 fun z H3 u S3 k3 g3 E3 r3 h4 => ?_⟩
    obtain ⟨j, e, rfl, hs, q⟩ := h4
    refine ⟨j, r3.int, slV_of E3.st ?_ hs q (((P.next k1 g1).next k2 g2).next k3 g3)⟩
    rw [k3]
    refine E2.st.gr g3 ?_
    rw [k2]
    exact E1.st.gr g2 r1
end
end Ar
namespace Ar
open PySem PySem.Spec PyProof.Rows L2
/-! ### cells -/
theorem keys_wr {A B : Sto} {p : Addr} {l l' : List D} : keys (A ++ (p, l') :: B) = keys (A ++ (p, l) :: B) := by
  unfold keys
  rw [List.map_append, List.map_append]
  rfl
theorem keys_at {A B : Sto} {p : Addr} {l : List D} : p ∈ keys (A ++ (p, l) :: B) := by
  rw [keys_append]
  exact List.mem_append_right _ List.mem_cons_self
theorem grow_wr {A B : Sto} {H : Hp} {p : Addr} {l : List D} {o : HO} : Grow (keys (A ++ (p, l) :: B)) H (upd H p o) := fun b x n h => by
  rw [upd_ne]
  · exact h
  · intro e
    subst e
    exact n keys_at
theorem Store.wr {K : PySem.W.Frag} {Zh : List Addr} {H : Hp} {A B : Sto} {p : Addr} {l l' : List D} {vs' : List V} (s : Store K Zh H (A ++ (p, l) :: B)) (r : RepL K (keys (A ++ (p, l) :: B) ++ Zh) H l' vs') : Store K Zh (upd H p (.lst vs')) (A ++ (p, l') :: B) := by
  have nd := s.nd
  rw [keys_append, List.nodup_append] at nd
  have gr : ∀ {m : List D} {ws : List V}, RepL K (keys (A ++ (p, l) :: B) ++ Zh) H m ws → RepL K (keys (A ++ (p, l') :: B) ++ Zh) (upd H p (.lst vs')) m ws := fun h => by
    rw [keys_wr (l := l)]
    exact s.grL grow_wr h
  have old : ∀ q m, (q, m) ∈ A ++ (p, l) :: B → q ≠ p → ∃ vs, upd H p (.lst vs') q = some (.lst vs) ∧ RepL K (keys (A ++ (p, l') :: B) ++ Zh) (upd H p (.lst vs')) m vs := fun q m hm hq => by
    obtain ⟨vs, h1, h2⟩ := s.st q m hm
    exact ⟨vs, by rw [upd_ne hq]; exact h1, gr h2⟩
  refine ⟨by rw [keys_wr (l := l)]; exact s.nd, fun q m hm => ?_, fun q hq => ?_⟩
  · rcases List.mem_append.mp hm with h | h
    · refine old q m (List.mem_append_left _ h) fun e => ?_
      subst e
      exact nd.2.2 q (List.mem_map.mpr ⟨_, h, rfl⟩) q List.mem_cons_self rfl
    · rcases List.mem_cons.mp h with h9 | h9
      · cases h9
        exact ⟨vs', upd_same, gr r⟩
      · refine old q m (List.mem_append_right _ (List.mem_cons_of_mem _ h9)) fun e => ?_
        subst e
        have nc : q ∉ keys B ∧ (keys B).Nodup := List.nodup_cons.mp nd.2.1
        exact nc.1 (List.mem_map.mpr ⟨(q, m), h9, rfl⟩)
  · obtain ⟨n, vs, e⟩ := s.hid q hq
    refine ⟨by rw [keys_wr (l := l)]; exact n, vs, ?_⟩
    rw [upd_ne]
    · exact e
    · intro e2
      subst e2
      exact n keys_at
theorem RepL.set {K : PySem.W.Frag} {Z : List Addr} {H : Hp} : ∀ {j : Nat} {l : List D} {vs : List V} {d : D} {v : V}, RepL K Z H l vs → Rep K Z H d v → RepL K Z H (l.set j d) (vs.set j v)
  | _, [], vs, d, v, h, r => by
    rw [h.un0]
    exact .nil
  | 0, c :: l, vs, d, v, h, r => by
    obtain ⟨u, t, rfl, _, h⟩ := h.uncons
    exact .cons r h
  | j + 1, c :: l, vs, d, v, h, r => by
    obtain ⟨u, t, rfl, h1, h⟩ := h.uncons
    exact .cons h1 (RepL.set (j := j) h r)
/-- the same state, the list at p written anew -/
theorem Post.wr {K : PySem.W.Frag} {Zh : List Addr} {H : Hp} {A B : Sto} {p : Addr} {l l' : List D} {vs' : List V} {Φ : D → Sto → Prop} {Q : VK} (P : Post K Zh H (A ++ (p, l) :: B) Φ Q) (s : Store K Zh H (A ++ (p, l) :: B)) (r : RepL K (keys (A ++ (p, l) :: B) ++ Zh) H l' vs') (q : Φ .non (A ++ (p, l') :: B)) : Q .non (upd H p (.lst vs')) :=
  P _ _ .non _ keys_wr grow_wr (s.wr r) rep_non q
section
variable {X : Cx} {ρ : Ro} {S : Sto} {Φ : D → Sto → Prop} {P : Program} {w : World} {K : PySem.W.Frag} {mg : Str → Option Value} {base : Heap} {tb : List (Str × Nat)} {names : List (Str × NameKind)} {k : Nat} {pos p cpos apos tpos : Pos} {e o i : Expr} {es : List Expr} {E : DEnds}
/-! ### new lists -/
def PostN (K : PySem.W.Frag) (Zh : List Addr) (H : Hp) (S : Sto) (Φ : List D → Sto → Prop) (Q : VK) : Prop :=
  ∀ c vs H' l S', keys S' = keys S → Grow (keys S) H H' → Store K ([c] ++ Zh) H' S' → H c = none → H' c = some (.lst vs) → RepL K (keys S ++ ([c] ++ Zh)) H' l vs → Φ l S' → Q (.ref c) H'
def DN (X : Cx) (e : Expr) (ρ : Ro) (S : Sto) (Φ : List D → Sto → Prop) : Prop :=
  ∀ (Zh : List Addr) (pins : List (Addr × Obj)) (s : Shared) (σ : L2.St) (H : Hp) (Q : VK), Inv X pins σ H s → Ev X.K Zh H σ ρ S → PostN X.K Zh H S Φ Q → wpAny (model X.prog X.w) X.A (eval e X.env) (EP X pins σ Q) X.xe s
theorem DN.of {t : TE} {Φ : List D → Sto → Prop} (p : PE X e t) (h : ∀ Zh σ H Q, Ev X.K Zh H σ ρ S → PostN X.K Zh H S Φ Q → t σ H Q) : DN X e ρ S Φ := fun Zh pins s σ H Q I E q => p.run pins s σ H Q I (h Zh σ H Q E q)
theorem DN.tw {Φ : List D → Sto → Prop} {Zh : List Addr} {σ : L2.St} {H : Hp} {Q : VK} (h : DN X e ρ S Φ) (E : Ev X.K Zh H σ ρ S) (q : PostN X.K Zh H S Φ Q) : tW X e σ H Q := fun pins s I => h Zh pins s σ H Q I E q
theorem back_none {K : PySem.W.Frag} {Zh : List Addr} {H H1 : Hp} {c : Addr} (s : Store K Zh H S) (g : Grow (keys S) H H1) {S1 : Sto} (k : keys S1 = keys S) (s1 : Store K Zh H1 S1) (h : H1 c = none) : H c = none := by
  cases e : H c with
  | none => rfl
  | some x =>
    by_cases hm : c ∈ keys S
    · rw [← k] at hm
      obtain ⟨vs, e2⟩ := s1.zl c hm
      rw [h] at e2
      cases e2
    · rw [g _ _ hm e] at h
      cases h
theorem PostN.next {K : PySem.W.Frag} {Zh : List Addr} {H H1 : Hp} {S1 : Sto} {Φ : List D → Sto → Prop} {Q : VK} (P : PostN K Zh H S Φ Q) (s : Store K Zh H S) (k : keys S1 = keys S) (g : Grow (keys S) H H1) (s1 : Store K Zh H1 S1) : PostN K Zh H1 S1 Φ Q := fun c vs H' l S' k' g' s' hc h' r q =>
  P c vs H' l S' (k'.trans k) (g.trans (by rw [← k]; exact g')) s' (back_none s g k s1 hc) h' (by rw [← k]; exact r) q
theorem PostN.lst {K : PySem.W.Frag} {Zh : List Addr} {H : Hp} {Φ : List D → Sto → Prop} {Q : VK} {l : List D} {vs : List V} {c : Addr} (P : PostN K Zh H S Φ Q) (s : Store K Zh H S) (r : RepL K (keys S ++ Zh) H l vs) (q : Φ l S) (hc : H c = none) : Q (.ref c) (upd H c (.lst vs)) :=
  P c vs _ l S rfl (Grow.new hc) (s.hide hc) hc upd_same (RepL.grow s.zl (Grow.new hc) sub_l (RepL.fresh (Zx := [c]) (fun p hp => by
    rw [List.mem_singleton.mp hp]
    exact hc) r)) q
theorem dn_lst {Φ : List D → Sto → Prop} (hl : Nat.ble es.length 1000 = true) (h : DA X es ρ S fun ds S1 => Φ ds S1) : DN X (.List es pos) ρ S Φ :=
  DN.of (pe_lst pa_w) fun Zh σ H Q E P => h.tw E fun vs H1 ds S1 k1 g1 s1 r1 l1 q1 => ⟨by rw [r1.length, l1]; exact sz hl, fun c hc => (P.next E.st k1 g1 s1).lst s1 (by rw [k1]; exact r1) q1 hc⟩
theorem dn_listOf {Φ : List D → Sto → Prop} (A : At X P w K mg base tb names k) (G : NoB mg) (hg : glB names "list" = true) (he : starEach [e] X.env = [(false, eval e X.env)]) (h : DE X e ρ S fun d S1 => ∃ l, SeqD S1 d l ∧ Φ l S1) : DN X (.Call (.Name "list" p) [e] [] pos) ρ S Φ := by
  have z := glB_of hg
  exact DN.of (pe_callTy call_list_of (A.gl _ z.2) (by rw [A.mg]; exact G.no _ rfl) rfl pa_w (plain1 z.1).2.2 (plain1 z.1).1 he rfl) fun Zh σ H Q E P => (da_one (Ψ := fun ds S1 => ∃ d l, ds = [d] ∧ SeqD S1 d l ∧ Φ l S1) he (DE.mono h fun d S1 ⟨l, a, b⟩ => ⟨d, l, rfl, a, b⟩)).tw E fun vs H1 ds S1 k1 g1 s1 r1 l1 q1 => by
    obtain ⟨d, l, rfl, hs, q⟩ := q1
    obtain ⟨v, t, rfl, rv, t0⟩ := r1.uncons
    cases t0.un0
    obtain ⟨p, ws, rfl, sq, rl⟩ := seqV_of s1 (by rw [k1]; exact rv) hs
    exact ⟨p, ws, rfl, sq, fun c hc => (P.next E.st k1 g1 s1).lst s1 rl q hc⟩
theorem dn_or1 {op} {Φ : List D → Sto → Prop} (h : DN X e ρ S Φ) : DN X (.BoolOp op [e] pos) ρ S Φ := DN.of (pe_one pe_w) fun Zh σ H Q E P => h.tw E P
theorem dn_or {b : Expr} {rest : List Expr} {Φ : List D → Sto → Prop} (h : DN X e ρ S fun l S1 => if (!l.isEmpty) = true then Φ l S1 else DN X (.BoolOp .Or (b :: rest) pos) ρ S1 Φ) : DN X (.BoolOp .Or (e :: b :: rest) pos) ρ S Φ := DN.of (pe_orT pe_w pe_w) fun Zh σ H Q E P => h.tw E fun c vs H1 l S1 k1 g1 s1 hc h1 r1 q => by
  refine ⟨!l.isEmpty, .inl ⟨vs, .inl (.inl h1), by rw [r1.isEmpty]⟩, ?_⟩
  have E1 := E.next k1 g1 s1.narrow
  replace q : if (!l.isEmpty) = true then Φ l S1 else DN X (.BoolOp .Or (b :: rest) pos) ρ S1 Φ := q
  cases hl : l.isEmpty with
  | true =>
    rw [hl] at q
    exact DN.tw q E1 (P.next E.st k1 g1 s1.narrow)
  | false =>
    rw [hl] at q
    exact P c vs H1 l S1 k1 g1 s1 hc h1 r1 q
/-- a def that tells a new list -/
abbrev SpecN := List D → Sto → (List D → Sto → Prop) → Prop
def spOfN (K : PySem.W.Frag) (n : Nat) (B : SpecN) : Sp := fun vs H Q _ => vs.length = n ∧ ∃ Zh ds S Φ, Store K Zh H S ∧ RepL K (keys S ++ Zh) H ds vs ∧ B ds S Φ ∧ PostN K Zh H S Φ Q
structure FnN (P : Program) (w : World) (K : PySem.W.Frag) (mg : Str → Option Value) (base : Heap) (x : Str) (n k : Nat) (B : SpecN) : Prop where
  ex : ∃ f fd ps, FnOk P w K mg base CX0 k f fd ps (spOfN K n B) ∧ mg x = some (.ref f) ∧ PySem.W.keepIn K (.ref f) = true ∧ Binds K fd ps [] ∧ ps.length = n
theorem dn_call {x : Str} {n j : Nat} {B : SpecN} {Φ : List D → Sto → Prop} (A : At X P w K mg base tb names k) (F : FnN P w K mg base x n j B) (hc : (Nat.ble j k && Nat.beq (e :: es).length n && glB names x) = true)
    (he : starEach (e :: es) X.env = (false, eval e X.env) :: starEach es X.env) (hpl : (backTo pos (starEach es X.env)).any (·.1) = false)
    (h : DA X (e :: es) ρ S fun ds S1 => B ds S1 Φ) : DN X (.Call (.Name x p) (e :: es) [] pos) ρ S Φ := by
  rw [Bool.and_eq_true, Bool.and_eq_true] at hc
  obtain ⟨⟨hj, hn⟩, hg⟩ := hc
  obtain ⟨f, fd, ps, F, m, kp, b, _⟩ := F.ex
  cases A.prog
  cases A.w
  cases A.K
  cases A.mg
  cases A.base
  exact DN.of (pe_call F (A.room.mono (Nat.le_of_ble_eq_true hj)) (A.gl _ (glB_of hg).2) m kp b .nil pass0 pa_w (plain1 (glB_of hg).1).1 he hpl) fun Zh σ H Q E P => h.tw E fun vs H1 ds S1 k1 g1 s1 r1 l1 q1 => by
    refine ⟨?_, Zh, ds, S1, Φ, s1, by rw [k1, List.append_nil]; exact r1, q1, P.next E.st k1 g1 s1⟩
    rw [List.append_nil, r1.length, l1]
    exact Nat.eq_of_beq_eq_true hn
/-- x = a new list, a cell from here on -/
theorem Ev.cell {Zh : List Addr} {H H' : Hp} {σ : L2.St} {S' : Sto} {c : Addr} {l : List D} {vs : List V} (E : Ev K Zh H σ ρ S) (k1 : keys S' = keys S) (g : Grow (keys S) H H') (s1 : Store K ([c] ++ Zh) H' S') (hc : H c = none) (h1 : H' c = some (.lst vs)) (r : RepL K (keys S ++ ([c] ++ Zh)) H' l vs) :
    Ev K Zh H' σ ρ (S' ++ [(c, l)]) ∧ Step S H (S' ++ [(c, l)]) H' := by
  have kk : keys (S' ++ [(c, l)]) = keys S ++ [c] := by rw [keys_append, k1]; rfl
  have ks : keys (S' ++ [(c, l)]) ++ Zh = keys S ++ ([c] ++ Zh) := by rw [kk, List.append_assoc]
  have hcn : c ∉ keys S' := (s1.hid c (List.mem_append_left _ (List.mem_singleton.mpr rfl))).1
  refine ⟨⟨⟨?_, fun p m hm => ?_, fun p hp => ?_⟩, E.len, fun i d h => ?_⟩, g, fun p hm => ?_⟩
  · rw [kk, ← k1, List.nodup_append]
    refine ⟨s1.nd, List.nodup_cons.mpr ⟨List.not_mem_nil, List.nodup_nil⟩, fun a ha b hb e => ?_⟩
    rw [e, List.mem_singleton.mp hb] at ha
    exact hcn ha
  · rw [ks]
    rcases List.mem_append.mp hm with hm | hm
    · obtain ⟨ws, a, b⟩ := s1.st p m hm
      rw [k1] at b
      exact ⟨ws, a, b⟩
    · cases List.mem_singleton.mp hm
      exact ⟨vs, h1, r⟩
  · obtain ⟨n, ws, e⟩ := s1.hid p (List.mem_append_right _ hp)
    refine ⟨fun m => ?_, ws, e⟩
    rw [kk, ← k1] at m
    rcases List.mem_append.mp m with m | m
    · exact n m
    · obtain ⟨_, us, e2⟩ := E.st.hid p hp
      rw [List.mem_singleton.mp m, hc] at e2
      cases e2
  · obtain ⟨v, e, rv⟩ := E.var i d h
    refine ⟨v, e, ?_⟩
    rw [ks]
    exact Rep.grow E.st.zl g sub_l (Rep.fresh (Zx := [c]) (fun p hp => by
      rw [List.mem_singleton.mp hp]
      exact hc) rv)
  · rw [kk] at hm
    rcases List.mem_append.mp hm with m | m
    · exact .inl m
    · rw [List.mem_singleton.mp m]
      exact .inr hc
theorem ds_setCell {x : Str} (A : At X P w K mg base tb names k) (hs : swapsWith e (some (.Name x p)) pos.line X.env = pure false)
    (h : ∃ i, tb.lookup x = some i ∧ stB (names.lookup x) = true ∧ DN X e ρ S fun l S1 => ∀ c, Nx E (ρ.set i (some (.cell c))) (S1 ++ [(c, l)])) : DS X (.Assign [.Name x p] e pos) ρ S E := by
  obtain ⟨i, hi, hv, h⟩ := h
  exact DS.of (ps_set A.nd (A.slot _ _ hi) (A.sto _ hv).1 pe_w hs (A.sto _ hv).2) fun Zh σ H Dn ev k => h.tw ev fun c vs H' l S' k' g s' hc h' r q => by
    obtain ⟨ev1, st1⟩ := ev.cell k' g s' hc h' r
    exact k.nx _ _ _ _ st1 (ev1.put (by unfold Rep; rfl)) (q c)
theorem ds_retCell (h : DN X e ρ S fun l S1 => ∀ c, E.rt (.cell c) (S1 ++ [(c, l)])) : DS X (.Return (some e) pos) ρ S E := DS.of (ps_ret pe_w) fun Zh σ H Dn ev k => h.tw ev fun c vs H' l S' k' g s' hc h' r q => by
  obtain ⟨ev1, st1⟩ := ev.cell k' g s' hc h' r
  exact k.rt _ _ _ _ st1 ev1.st (by unfold Rep; rfl) (q c)
/-- the end of a def that tells a new list -/
inductive RetC (S0 : Sto) (Φ : List D → Sto → Prop) : D → Sto → Prop where
  | cell {p : Addr} {l : List D} {S2 R : Sto} (h : keys S2 = keys S0) (m : (p, l) ∈ R) (q : Φ l S2) : RetC S0 Φ (.cell p) (S2 ++ R)
theorem fnN_data {f : Addr} {fd : FuncData} {x qual : Str} {st : Stmt} {N ps : List Str} {n : Nat} {B : SpecN} (F : Fun K x qual st f fd) (Sc : FnScope N ps (defScope st)) (hn : ps.length = n) (hnm : (defScope st).names = names) (ht : tbOk N tb = true)
    (hm : mg x = some (.ref f)) (hb : Binds K fd ps [])
    (body : ∀ X, At X P w K mg base tb names k → ∀ ds S Φ, ds.length = n → B ds S Φ → DSs X (defBody st) (ds.map some ++ List.replicate (N.length - ds.length) none) S { nx := fun _ _ => False, rt := RetC S Φ }) : FnN P w K mg base x n (k + 1) B := by
  refine ⟨f, fd, ps, F.ok Sc (fun vs H Q E h => by rw [h.1, hn]) (fun cdv A outer s H vs Q E hr h => ?_), hm, F.kp, hb, hn⟩
  obtain ⟨hl, Zh, ds, S, Φ, hS, hR, hB, hP⟩ := h
  have hat := at_def (P := P) (w := w) (K := K) (mg := mg) (base := base) (qual := qual) (f := f) (cd := cdv) (A := A) (outer := outer) (s := s) (H := H) (E := E) (tbOk_of ht) (tbOk_cov ht) Sc hr
  rw [hnm] at hat
  have b := body _ hat ds S Φ (by rw [← hR.length]; exact hl) hB
  refine ⟨_, pss_w, b.tw (ev_start hS hR) ?_⟩
  refine ⟨fun σ' H' ρ' S' t ev q => q.elim, fun v H' d S' t s' r q => ?_, fun _ _ _ _ _ _ q => q.elim, fun _ _ _ _ _ _ q => q.elim⟩
  cases q with
  | cell h m q =>
    rename_i p l S2 R
    obtain ⟨vs, h1, h2⟩ := s'.st p l (List.mem_append_right _ m)
    rw [r.cell]
    have pk : p ∈ keys (S2 ++ R) := by
      rw [keys_append]
      exact List.mem_append_right _ (List.mem_map.mpr ⟨_, m, rfl⟩)
    have nd := s'.nd
    rw [keys_append, List.nodup_append] at nd
    have pn : p ∉ keys S2 := fun z => nd.2.2 p z p (List.mem_map.mpr ⟨_, m, rfl⟩) rfl
    have hpn : H p = none := (t.2 p pk).resolve_left (by rw [← h]; exact pn)
    have sub : ∀ q, q ∈ keys S2 ++ ([p] ++ Zh) → q ∈ keys (S2 ++ R) ++ Zh := fun q hq => by
      rcases List.mem_append.mp hq with z | z
      · exact List.mem_append_left _ (by rw [keys_append]; exact List.mem_append_left _ z)
      · rcases List.mem_append.mp z with z | z
        · rw [List.mem_singleton.mp z]
          exact List.mem_append_left _ pk
        · exact List.mem_append_right _ z
    refine hP p vs H' l S2 h t.1 ⟨s'.drop.nd, fun q m hm => ?_, fun q hq => ?_⟩ hpn h1 (by rw [← h]; exact h2.shrink sub) q
    · obtain ⟨ws, a, b⟩ := s'.st q m (List.mem_append_left _ hm)
      exact ⟨ws, a, b.shrink sub⟩
    · rcases List.mem_append.mp hq with z | z
      · rw [List.mem_singleton.mp z]
        exact ⟨pn, vs, h1⟩
      · exact s'.drop.hid q z
/-! ### writes -/
theorem ds_store (hs : swapsWithSole [.Subscript o i tpos] e pos.line X.env = pure false) (hw : swappedStores [.Subscript o i tpos] e X.env = pure none) (h1 : (assignEach [.Subscript o i tpos] X.env).map (·.2) = [assign (.Subscript o i tpos) X.env])
    (ha : ∀ v, assign (.Subscript o i tpos) X.env v = (do
      let ov ← holding [v] (eval o X.env)
      let iv ← holding [v, ov] (eval i X.env)
      standAt tpos
      holding [v, ov, iv] (setItem ov iv v)
      release [v, ov, iv] []))
    (h : DE X e ρ S fun d S1 => DE X o ρ S1 fun c S2 => DE X i ρ S2 fun j S3 => ∃ p A l B n m, c = .cell p ∧ S3 = A ++ (p, l) :: B ∧ j = .int n ∧ ixN l.length n = some m ∧ E.nx ρ (A ++ (p, l.set m d) :: B)) : DS X (.Assign [.Subscript o i tpos] e pos) ρ S E :=
  DS.of (ps_asg pe_w (pg_sub pe_w pe_w set_list ha) hs hw h1) fun Zh σ H Dn ev kk => h.bind ev fun v H1 d S1 k1 g1 E1 r1 h2 => h2.bind E1 fun ov H2 c S2 k2 g2 E2 r2 h3 => h3.bind E2 fun iv H3 j S3 k3 g3 E3 r3 h4 => by
    obtain ⟨p, A, l, B, n, m, rfl, rfl, rfl, hm, q⟩ := h4
    obtain ⟨vs, hp, rl⟩ := E3.st.st p l (List.mem_append_right _ List.mem_cons_self)
    refine ⟨p, vs, n, m, r2.cell, r3.int, hp, by rw [rl.length]; exact hm, ?_⟩
    have rd : Rep X.K (keys (A ++ (p, l) :: B) ++ Zh) H3 d v := by
      rw [k3]
      refine E2.st.gr g3 ?_
      rw [k2]
      exact E1.st.gr g2 r1
    have s4 := E3.st.wr (rl.set (j := m) rd)
    have ev4 := E3.next (S' := A ++ (p, l.set m d) :: B) keys_wr grow_wr s4
    exact kk.nx _ _ _ _ ((((Step.of k1 g1).trans (.of k2 g2)).trans (.of k3 g3)).trans (.of keys_wr grow_wr)) ev4 q
theorem tyV_cell {Zh : List Addr} {H : Hp} {A B : Sto} {p : Addr} {l : List D} (s : Store K Zh H (A ++ (p, l) :: B)) : tyV K "list" (.ref p) H := by
  obtain ⟨vs, hp, rl⟩ := s.st p l (List.mem_append_right _ List.mem_cons_self)
  exact .inl ⟨rfl, vs, .inl (.inl hp)⟩
theorem de_append (hbase : attributeBase o "append" X.env (eval o X.env) = eval o X.env)
    (hfew : ((backTo cpos (starEach [e] X.env)).all (fun x => !x.1) && (backToKw cpos (keywordEach [] X.env)).all (fun x => x.1.isSome)
      && decide (([e] : List Expr).length + ([] : List Keyword).length + (if ([] : List Keyword).isEmpty then 0 else 1) < 30)) = true)
    (hline : (apos.endLine == cpos.line) = true) (he : starEach [e] X.env = [(false, eval e X.env)])
    (h : DE X o ρ S fun c S1 => ∃ p A l B, c = .cell p ∧ S1 = A ++ (p, l) :: B ∧ DE X e ρ S1 fun d S2 => ∃ A' l' B', S2 = A' ++ (p, l') :: B' ∧ l'.length < sizeLine ∧ Φ .non (A' ++ (p, l' ++ [d]) :: B')) : DE X (.Call (.Attribute o "append" apos) [e] [] cpos) ρ S Φ :=
  DE.of (pe_bm PySem.F.plainAttrs_list PySem.F.slot_list_append PySem.F.type_list_append mt_append pe_w pa_w hbase hfew hline he rfl) fun Zh σ H Q ev P => h.bind ev fun v H1 c S1 k1 g1 E1 r1 h2 => by
    obtain ⟨p, A, l, B, rfl, rfl, h2⟩ := h2
    have hv := r1.cell
    subst hv
    refine ⟨tyV_cell E1.st, (da_one (Ψ := fun ds S2 => ∃ d, ds = [d] ∧ ∃ A' l' B', S2 = A' ++ (p, l') :: B' ∧ l'.length < sizeLine ∧ Φ .non (A' ++ (p, l' ++ [d]) :: B')) he (DE.mono h2 fun d S2 q => ⟨d, rfl, q⟩)).tw E1 fun vs H2 ds S2 k2 g2 s2 r2 l2 q2 => ?_⟩
    obtain ⟨d, rfl, A', l', B', rfl, hz, q⟩ := q2
    obtain ⟨v, t, rfl, rv, t0⟩ := r2.uncons
    cases t0.un0
    obtain ⟨ws, hp, rl⟩ := s2.st p l' (List.mem_append_right _ List.mem_cons_self)
    refine ⟨p, ws, v, rfl, rfl, hp, by rw [rl.length]; exact hz, ?_⟩
    exact ((P.next k1 g1).next k2 g2).wr s2 (rl.append (.one (by rw [k2]; exact rv))) q
theorem de_extend (hbase : attributeBase o "extend" X.env (eval o X.env) = eval o X.env)
    (hfew : ((backTo cpos (starEach [e] X.env)).all (fun x => !x.1) && (backToKw cpos (keywordEach [] X.env)).all (fun x => x.1.isSome)
      && decide (([e] : List Expr).length + ([] : List Keyword).length + (if ([] : List Keyword).isEmpty then 0 else 1) < 30)) = true)
    (hline : (apos.endLine == cpos.line) = true) (he : starEach [e] X.env = [(false, eval e X.env)])
    (h : DE X o ρ S fun c S1 => ∃ p A l B, c = .cell p ∧ S1 = A ++ (p, l) :: B ∧ DE X e ρ S1 fun d S2 => ∃ A' l' B' m, d = .lst m ∧ S2 = A' ++ (p, l') :: B' ∧ l'.length + m.length ≤ sizeLine ∧ Φ .non (A' ++ (p, l' ++ m) :: B')) : DE X (.Call (.Attribute o "extend" apos) [e] [] cpos) ρ S Φ :=
  DE.of (pe_bm PySem.F.plainAttrs_list PySem.F.slot_list_extend PySem.F.type_list_extend mt_extend pe_w pa_w hbase hfew hline he rfl) fun Zh σ H Q ev P => h.bind ev fun v H1 c S1 k1 g1 E1 r1 h2 => by
    obtain ⟨p, A, l, B, rfl, rfl, h2⟩ := h2
    have hv := r1.cell
    subst hv
    refine ⟨tyV_cell E1.st, (da_one (Ψ := fun ds S2 => ∃ d, ds = [d] ∧ ∃ A' l' B' m, d = .lst m ∧ S2 = A' ++ (p, l') :: B' ∧ l'.length + m.length ≤ sizeLine ∧ Φ .non (A' ++ (p, l' ++ m) :: B')) he (DE.mono h2 fun d S2 q => ⟨d, rfl, q⟩)).tw E1 fun vs H2 ds S2 k2 g2 s2 r2 l2 q2 => ?_⟩
    obtain ⟨d, rfl, A', l', B', m, rfl, rfl, hz, q⟩ := q2
    obtain ⟨v, t, rfl, rv, t0⟩ := r2.uncons
    cases t0.un0
    obtain ⟨b, zs, rfl, _, hb, rz⟩ := rv.lst
    obtain ⟨ws, hp, rl⟩ := s2.st p l' (List.mem_append_right _ List.mem_cons_self)
    refine ⟨p, b, ws, zs, rfl, rfl, hp, hb, by rw [rl.length, rz.length]; exact hz, ?_⟩
    exact ((P.next k1 g1).next k2 g2).wr s2 (rl.append (by rw [k2]; exact rz)) q
theorem ds_aug {x : Str} {op : Operator} (A : At X P w K mg base tb names k)
    (h : ∃ i d, tb.lookup x = some i ∧ stB (names.lookup x) = true ∧ ρ[i]? = some (some d) ∧ DE X e ρ S fun c S1 => DO X (inplaceOp op) d c S1 fun r S2 => Nx E (ρ.set i (some r)) S2) : DS X (.AugAssign (.Name x p) op e pos) ρ S E := by
  obtain ⟨i, d, hi, hv, hd, h⟩ := h
  exact DS.of (ps_aug (ti := rW X (inplaceOp op)) A.nd (A.slot _ _ hi) (A.sto _ hv).1 pe_w op_w (A.sto _ hv).2) fun Zh σ H Dn ev kk => by
    obtain ⟨v, e1, rv⟩ := ev.var i d hd
    refine ⟨v, e1, h.bind ev fun u H1 c S1 k1 g1 E1 r1 h1 => ?_⟩
    refine h1.rw E1.st (by rw [k1]; exact ev.st.gr g1 rv) r1 fun v2 H2 d2 S2 k2 g2 s2 r2 q => ?_
    exact kk.nx _ _ _ _ ((Step.of k1 g1).trans (.of k2 g2)) ((E1.next k2 g2 s2).put (by rw [k2]; exact r2)) q
variable {a b : Int}
theorem do_iadd (q : Φ (.int (a + b)) S) : DO X (inplaceOp .Add) (.int a) (.int b) S Φ := do_i0 iop_add q
theorem do_isub (q : Φ (.int (a - b)) S) : DO X (inplaceOp .Sub) (.int a) (.int b) S Φ := do_i0 iop_sub q
end
end Ar
namespace Ar
open PySem PySem.Spec PyProof.Rows L2
/-! ### sizes of ints -/
structure Bd (n : Nat) (x : Int) : Prop where
  lt : x.natAbs < 2 ^ n
theorem Bd.mono {n m : Nat} {x : Int} (h : Bd n x) (k : n ≤ m) : Bd m x := ⟨Nat.lt_of_lt_of_le h.lt (Nat.pow_le_pow_right (by decide) k)⟩
theorem Bd.fit {n m : Nat} {x : Int} (h : Bd n x) (k : Nat.ble n m = true) : Bd m x := h.mono (Nat.le_of_ble_eq_true k)
theorem Bd.add {n m : Nat} {x y : Int} (h : Bd n x) (k : Bd m y) : Bd (max n m + 1) (x + y) := by
  have h1 := (h.mono (Nat.le_max_left n m)).lt
  have k1 := (k.mono (Nat.le_max_right n m)).lt
  constructor
  rw [Nat.pow_succ]
  omega
theorem Bd.neg {n : Nat} {x : Int} (h : Bd n x) : Bd n (-x) := ⟨by
  have := h.lt
  omega⟩
theorem Bd.sub {n m : Nat} {x y : Int} (h : Bd n x) (k : Bd m y) : Bd (max n m + 1) (x - y) := by
  rw [Int.sub_eq_add_neg]
  exact h.add k.neg
theorem Bd.mul {n m : Nat} {x y : Int} (h : Bd n x) (k : Bd m y) : Bd (n + m) (x * y) := by
  constructor
  rw [Int.natAbs_mul, Nat.pow_add]
  exact Nat.mul_lt_mul'' h.lt k.lt
theorem Bd.ediv {n : Nat} {x y : Int} (h : Bd n x) : Bd (n + 1) (x / y) := by
  constructor
  have := Int.natAbs_ediv_le_natAbs x y
  have := h.lt
  rw [Nat.pow_succ]
  omega
theorem Bd.pos {n : Nat} {x : Int} (h0 : 0 ≤ x) (h : x < 2 ^ n) : Bd n x := by
  constructor
  have e : ((2 : Int) ^ n) = ((2 ^ n : Nat) : Int) := by
    rw [Int.natCast_pow]
    rfl
  rw [e] at h
  omega
theorem Bd.le {n : Nat} {x y : Int} (h0 : 0 ≤ x) (h : x ≤ y) (k : Bd n y) : Bd n x := ⟨by
  have := k.lt
  omega⟩
theorem Bd.lt2 {n : Nat} {x y : Int} (h0 : 0 ≤ x) (h : x < y) (k : Bd n y) : Bd n x := ⟨by
  have := k.lt
  omega⟩
theorem Bd.abs {n : Nat} {x y : Int} (h : x.natAbs ≤ y.natAbs) (k : Bd n y) : Bd n x := ⟨Nat.lt_of_le_of_lt h k.lt⟩
theorem Bd.lit {n : Nat} {x : Int} (h : Nat.blt x.natAbs (2 ^ n) = true) : Bd n x := by
  constructor
  have z : Nat.ble (x.natAbs + 1) (2 ^ n) = true := h
  exact Nat.le_of_ble_eq_true z
theorem intBits_le {n : Nat} {x : Int} (h : Bd n x) : Builtin.Int.intBits x ≤ n := by
  unfold Builtin.Int.intBits
  split
  · exact Nat.zero_le _
  · rename_i h0
    have hp : x.natAbs ≠ 0 := by
      intro e
      exact h0 (by simpa using e)
    have := (Nat.log2_lt hp).mpr h.lt
    omega
theorem Bd.ok {n m : Nat} {x y : Int} (h : Bd n x) (k : Bd m y) (hn : Nat.ble (n + m) 134217000 = true) : IntMulOk x y := by
  have h1 := intBits_le h
  have h2 := intBits_le k
  have hn := Nat.le_of_ble_eq_true hn
  have e : bitsLine = 134217728 := by decide
  unfold IntMulOk
  intro z
  rw [Bool.and_eq_true] at z
  have z2 := z.2
  unfold Builtin.Int.intTooBig at z2
  have z3 := of_decide_eq_true z2
  rw [e] at z3
  omega
theorem Bd.okL {x y : Int} (h : Bd 64 x) : IntMulOk x y := .of_left (intBits_le h)
theorem Bd.okR {x y : Int} (h : Bd 64 y) : IntMulOk x y := .of_right (intBits_le h)
theorem Bd.div {n : Nat} {x y : Int} (h : 0 < y) (k : Bd n y) (hn : (Nat.ble 1 n && Nat.ble n 9000) = true) : CDivW x y := by
  rw [Bool.and_eq_true] at hn
  exact wide_div h k.lt (Nat.le_of_ble_eq_true hn.1) (Nat.le_of_ble_eq_true hn.2)
/-! ### data and ==  -/
mutual
def toPy : D → PyData
  | .non => .none
  | .bl b => .bool b
  | .int i => .int i
  | .str x => .str x
  | .tup l => .tuple (toPyL l)
  | .lst l => .list (toPyL l)
  | .frz l => .list (toPyL l)
  | .cell _ => .none
  | .dct _ _ => .none
def toPyL : List D → List PyData
  | [] => []
  | d :: l => toPy d :: toPyL l
end
mutual
def plainD : D → Bool
  | .cell _ => false
  | .dct _ _ => false
  | .tup l => Nat.ble l.length sizeLine && plainL l
  | .lst l => Nat.ble l.length sizeLine && plainL l
  | .frz l => Nat.ble l.length sizeLine && plainL l
  | _ => true
def plainL : List D → Bool
  | [] => true
  | d :: l => plainD d && plainL l
end
mutual
theorem dp_of {K : PySem.W.Frag} {Z : List Addr} {H : Hp} : ∀ {d : D} {v : V}, Rep K Z H d v → plainD d = true → Dp K H v (toPy d)
  | .non, v, h, _ => by rw [h.non]; unfold toPy; exact .non
  | .bl b, v, h, _ => by rw [h.bl]; unfold toPy; exact .bl b
  | .int i, v, h, _ => by rw [h.int]; unfold toPy; exact .int i
  | .str x, v, h, _ => by rw [h.str]; unfold toPy; exact .str x
  | .tup l, v, h, q => by
    obtain ⟨p, vs, e, sq, r⟩ := h.tup
    rw [e]
    unfold toPy
    exact .tup sq (dpL_of r (by unfold plainD at q; rw [Bool.and_eq_true] at q; exact q.2))
  | .lst l, v, h, q => by
    obtain ⟨p, vs, e, _, sq, r⟩ := h.lst
    rw [e]
    unfold toPy
    exact .lst (.inl (.inl sq)) (dpL_of r (by unfold plainD at q; rw [Bool.and_eq_true] at q; exact q.2))
  | .frz l, v, h, q => by
    obtain ⟨p, vs, e, sq, r⟩ := h.frzL
    rw [e]
    unfold toPy
    exact .lst sq (dpL_of r (by unfold plainD at q; rw [Bool.and_eq_true] at q; exact q.2))
  | .cell p, v, h, q => by unfold plainD at q; cases q
  | .dct ks l, v, h, q => by unfold plainD at q; cases q
theorem dpL_of {K : PySem.W.Frag} {Z : List Addr} {H : Hp} : ∀ {l : List D} {vs : List V}, RepL K Z H l vs → plainL l = true → DpAll K H vs (toPyL l)
  | [], vs, h, _ => by
    rw [h.un0]
    unfold toPyL
    exact .nil
  | d :: l, vs, h, q => by
    obtain ⟨v, r, e, h1, h2⟩ := h.uncons
    rw [e]
    unfold plainL at q
    rw [Bool.and_eq_true] at q
    unfold toPyL
    exact .cons (dp_of h1 q.1) (dpL_of h2 q.2)
end
def eqOk (d : D) : Bool := plainD d && SeqAt.shaped (toPy d)
section
variable {X : Cx} {ρ : Ro} {S : Sto} {Φ : D → Sto → Prop} {P : Program} {w : World} {K : PySem.W.Frag} {mg : Str → Option Value} {base : Heap} {tb : List (Str × Nat)} {names : List (Str × NameKind)} {k : Nat} {pos p cpos apos tpos : Pos} {e o i : Expr} {es : List Expr} {E : DEnds}
theorem op_mulX : OpR X (binaryOp .Mult) (rI IntMulOk fun i j => .int (i * j)) := opI fun _ _ _ _ _ _ _ hc q => mul_int q hc
theorem do_mulX {i j : Int} (c : IntMulOk i j) (q : Φ (.int (i * j)) S) : DO X (binaryOp .Mult) (.int i) (.int j) S Φ := do_iC op_mulX c q
theorem do_modN {i j : Int} (c : j ≠ 0) (q : Φ (.int (i.fmod j)) S) : DO X (binaryOp .Mod) (.int i) (.int j) S Φ := do_iC (C := fun _ j => j ≠ 0) op_modN c q
theorem do_eqD {a b : D} (A : At X P w K mg base tb names k) (h : (eqOk a && eqOk b) = true) (q : Φ (.bl (PyData.eqv (toPy a) (toPy b))) S) : DO X (compareOp .Eq) a b S Φ := DO.of (op_eqD A.room.units) fun Zh H x y Q st ra rb P => by
  unfold eqOk at h
  rw [Bool.and_eq_true, Bool.and_eq_true, Bool.and_eq_true] at h
  exact ⟨toPy a, toPy b, dp_of ra h.1.1, dp_of rb h.2.1, h.1.2, h.2.2, P.here st rep_bl q⟩
theorem do_neD {a b : D} (A : At X P w K mg base tb names k) (h : (eqOk a && eqOk b) = true) (q : Φ (.bl (!PyData.eqv (toPy a) (toPy b))) S) : DO X (compareOp .NotEq) a b S Φ := DO.of (op_neD A.room.units) fun Zh H x y Q st ra rb P => by
  unfold eqOk at h
  rw [Bool.and_eq_true, Bool.and_eq_true, Bool.and_eq_true] at h
  exact ⟨toPy a, toPy b, dp_of ra h.1.1, dp_of rb h.2.1, h.1.2, h.2.2, P.here st rep_bl q⟩
/-- a cell against a list -/
theorem do_neC {p : Addr} {m : List D} (A : At X P w K mg base tb names k) (h : ∃ l, (p, l) ∈ S ∧ (eqOk (.lst l) && eqOk (.lst m)) = true ∧ Φ (.bl (!PyData.eqv (toPy (.lst l)) (toPy (.lst m)))) S) : DO X (compareOp .NotEq) (.cell p) (.lst m) S Φ := DO.of (op_neD A.room.units) fun Zh H x y Q st ra rb P => by
  obtain ⟨l, hm, h, q⟩ := h
  unfold eqOk at h
  rw [Bool.and_eq_true, Bool.and_eq_true, Bool.and_eq_true] at h
  obtain ⟨vs, h1, rl⟩ := st.st p l hm
  rw [ra.cell]
  refine ⟨toPy (.lst l), toPy (.lst m), ?_, dp_of rb h.2.1, h.1.2, h.2.2, P.here st rep_bl q⟩
  unfold toPy
  exact .lst (.inl (.inl h1)) (dpL_of rl (by
    have z := h.1.1
    unfold plainD at z
    rw [Bool.and_eq_true] at z
    exact z.2))
/-! ### texts -/
theorem do_inS {c : Nat} {z : Str} (q : Φ (.bl (decide (c ∈ z.cps.toList))) S) : DO X (compareOp .In) (.str ⟨#[c]⟩) (.str z) S Φ := DO.of op_in_sign fun Zh H x y Q st ra rb P => ⟨c, z, ra.str, rb.str, P.here st rep_bl q⟩
theorem do_notInS {c : Nat} {z : Str} (q : Φ (.bl (!decide (c ∈ z.cps.toList))) S) : DO X (compareOp .NotIn) (.str ⟨#[c]⟩) (.str z) S Φ := DO.of op_notIn_sign fun Zh H x y Q st ra rb P => ⟨c, z, ra.str, rb.str, P.here st rep_bl q⟩
theorem de_join (hs : starEach [e] X.env = [(false, eval e X.env)]) (hbase : attributeBase o "join" X.env (eval o X.env) = eval o X.env) (hline : (apos.endLine == pos.line) = true)
    (h : DE X o ρ S fun c S1 => ∃ a, c = .str a ∧ DE X e ρ S1 fun d S2 => ∃ ys : List Str, d = .lst (ys.map D.str) ∧ (ys.map (·.length)).sum + ys.length * a.length ≤ 16777216 ∧ Φ (.str (Txt.join a ys)) S2) : DE X (.Call (.Attribute o "join" apos) [e] [] pos) ρ S Φ :=
  DE.of (pe_join pe_w pe_w hs hbase hline) fun Zh σ H Q ev P => h.bind ev fun v H1 c S1 k1 g1 E1 r1 h2 => by
    obtain ⟨a, rfl, h2⟩ := h2
    refine ⟨⟨a, r1.str⟩, h2.bind E1 fun u H2 d S2 k2 g2 E2 r2 h3 => ?_⟩
    obtain ⟨ys, rfl, hz, q⟩ := h3
    obtain ⟨p, vs, rfl, _, sq, rl⟩ := r2.lst
    rw [rl.strs] at sq
    exact ⟨a, p, ys, r1.str, rfl, .inl (.inl (.inl sq)), hz, ((P.next k1 g1).next k2 g2).here E2.st rep_str q⟩
theorem de_sindex (hs : starEach [e] X.env = [(false, eval e X.env)]) (hbase : attributeBase o "index" X.env (eval o X.env) = eval o X.env) (hline : (apos.endLine == pos.line) = true)
    (h : DE X o ρ S fun c S1 => ∃ a, c = .str a ∧ DE X e ρ S1 fun d S2 => ∃ b i rest, d = .str b ∧ Builtin.Str.occurrences a b 0 a.length 1 = i :: rest ∧ Φ (.int ((i : Nat) : Int)) S2) : DE X (.Call (.Attribute o "index" apos) [e] [] pos) ρ S Φ :=
  DE.of (pe_m1 PySem.F.slot_str_index PySem.F.type_str_index mt_sindex pe_w pe_w hs hbase hline) fun Zh σ H Q ev P => h.bind ev fun v H1 c S1 k1 g1 E1 r1 h2 => by
    obtain ⟨a, rfl, h2⟩ := h2
    refine ⟨⟨a, r1.str⟩, h2.bind E1 fun u H2 d S2 k2 g2 E2 r2 h3 => ?_⟩
    obtain ⟨b, i, rest, rfl, hz, q⟩ := h3
    exact ⟨a, b, i, rest, r1.str, by rw [r2.str], hz, ((P.next k1 g1).next k2 g2).here E2.st rep_int q⟩
/-! ### names of the module -/
def GlobD (K : PySem.W.Frag) (mg : Str → Option Value) (x : Str) (d : D) : Prop := ∃ u v, mg x = some u ∧ RelV v u ∧ ∀ Z H, Rep K Z H d v
theorem de_glob {x : Str} {d : D} (A : At X P w K mg base tb names k) (G : GlobD K mg x d) (hg : glB names x = true) (q : Φ d S) : DE X (.Name x pos) ρ S Φ := by
  obtain ⟨u, v, hm, rv, rep⟩ := G
  have z := glB_of hg
  exact DE.of (pe_glob (v := v) (A.gl _ z.2) (by rw [A.mg]; exact hm) rv (plain1 z.1).1) fun Zh σ H Q E P => P.here E.st (by rw [A.K]; exact rep _ _) q
def DictG (K : PySem.W.Frag) (w : World) (mg : Str → Option Value) (x : Str) (f : Str → Option D) : Prop := ∃ a, mg x = some (.ref a) ∧ ∀ z d, f z = some d → ∃ v, KDct K w a z v ∧ ∀ Z H, Rep K Z H d v
theorem de_kd {x : Str} {f : Str → Option D} {px : Pos} (A : At X P w K mg base tb names k) (G : DictG K w mg x f) (hg : glB names x = true) (hp : PlainIx e) (h : DE X e ρ S fun d S1 => ∃ z r, d = .str z ∧ f z = some r ∧ Φ r S1) : DE X (.Subscript (.Name x px) e pos) ρ S Φ := by
  obtain ⟨a, hm, hf⟩ := G
  have z := glB_of hg
  exact DE.of (pe_ix ix_kdict (pe_glob (v := .ref a) (A.gl _ z.2) (by rw [A.mg]; exact hm) rfl (plain1 z.1).1) pe_w hp) fun Zh σ H Q E P => h.bind E fun v H1 d S1 k1 g1 E1 r1 h1 => by
    obtain ⟨z, r, rfl, hz, q⟩ := h1
    obtain ⟨u, hk, rep⟩ := hf z r hz
    refine ⟨a, z, u, rfl, r1.str, ?_, (P.next k1 g1).here E1.st (by rw [A.K]; exact rep _ _) q⟩
    rw [A.K, A.w]
    exact hk
end
end Ar
namespace Ar
open PySem PySem.Spec PyProof.Rows L2
def isStar (e : Expr) : Bool := match e with | .Starred .. => true | _ => false
/-- two values are put on the stack and stored from its top -/
theorem sw_some2 {env : Env} {x y : Str} {px py pt pt2 : Pos} {a b : Expr} {kt k2} (hb : env.blockKind = .function) (kx : env.kindOf x = some .local) (ky : env.kindOf y = some .local) (hl : (py.line == px.line) = true) (hxy : (y == x) = false) (hf : ([a, b].all (foldedForSure 8)) = false) (hc : ([a, b].all (constantsAlone 8)) = false) (hs : ([a, b].any isStar) = false) :
    swappedStores [.Tuple [.Name x px, .Name y py] kt pt] (.Tuple [a, b] k2 pt2) env = pure (some [x, y]) := by
  have e1 : ([x, y] : List Str).eraseDups.length = 2 := by
    simp [List.eraseDups_cons, hxy]
  have hl2 := eq_of_beq hl
  unfold swappedStores
  simp only [hf, hc]
  split
  · rename_i h
    exact absurd h (by simp [hb])
  · split
    · rename_i h
      have h2 : ([a, b].any isStar) = true := h
      rw [hs] at h2
      cases h2
    · split
      · rename_i h
        revert h
        simp [kx, ky, Expr.pos, hl2, e1]
      · simp [kx, ky, Expr.pos, hl2]
theorem sw_some3 {env : Env} {x y z : Str} {px py pz pt pt2 : Pos} {a b c : Expr} {kt k2} (hb : env.blockKind = .function) (kx : env.kindOf x = some .local) (ky : env.kindOf y = some .local) (kz : env.kindOf z = some .local) (hl : (py.line == px.line) = true) (hl3 : (pz.line == px.line) = true) (hxy : (y == x) = false) (hxz : (z == x) = false) (hyz : (z == y) = false) (hf : ([a, b, c].all (foldedForSure 8)) = false) (hc : ([a, b, c].all (constantsAlone 8)) = false) (hs : ([a, b, c].any isStar) = false) :
    swappedStores [.Tuple [.Name x px, .Name y py, .Name z pz] kt pt] (.Tuple [a, b, c] k2 pt2) env = pure (some [x, y, z]) := by
  have e1 : ([x, y, z] : List Str).eraseDups.length = 3 := by
    simp [List.eraseDups_cons, hxy, hxz, hyz]
  have hl2 := eq_of_beq hl
  have hl4 := eq_of_beq hl3
  unfold swappedStores
  simp only [hf, hc]
  split
  · rename_i h
    exact absurd h (by simp [hb])
  · split
    · rename_i h
      have h2 : ([a, b, c].any isStar) = true := h
      rw [hs] at h2
      cases h2
    · split
      · rename_i h
        revert h
        simp [kx, ky, kz, Expr.pos, hl2, hl4, e1]
      · simp [kx, ky, kz, Expr.pos, hl2, hl4]
theorem sw_fold {env : Env} {ts vs : List Expr} {pt pt2 : Pos} {kt k2} (hf : (vs.all (foldedForSure 8)) = true) :
    swappedStores [.Tuple ts kt pt] (.Tuple vs k2 pt2) env = pure none := by
  unfold swappedStores
  simp only [hf]
  split
  · rfl
  · split
    · rfl
    · split
      · rfl
      · rfl
/-- one of two is no local -/
theorem sw_cell2 {env : Env} {x y : Str} {px py pt pt2 : Pos} {vs : List Expr} {kt k2} (h : (env.kindOf x == some .local) = false ∨ (env.kindOf y == some .local) = false) :
    swappedStores [.Tuple [.Name x px, .Name y py] kt pt] (.Tuple vs k2 pt2) env = pure none := by
  unfold swappedStores
  simp only []
  split
  · rfl
  · split
    · rfl
    · split
      · rfl
      · rename_i h3
        exfalso
        apply h3
        rw [Bool.or_eq_true]
        left
        simp only [List.filterMap_cons, List.filterMap_nil]
        rcases h with h | h <;> simp only [h, Bool.false_and] <;> split <;> simp_all <;> (try (split <;> simp_all))
/-! ### the same rules, their names' facts given -/
structure Var (tb : List (Str × Nat)) (names : List (Str × NameKind)) (x : Str) (i : Nat) : Prop where
  look : tb.lookup x = some i
  vis : (plainName x && visB (names.lookup x)) = true
structure Stv (tb : List (Str × Nat)) (names : List (Str × NameKind)) (x : Str) (i : Nat) : Prop where
  look : tb.lookup x = some i
  st : stB (names.lookup x) = true
structure Lcv (tb : List (Str × Nat)) (names : List (Str × NameKind)) (x : Str) (i : Nat) : Prop where
  look : tb.lookup x = some i
  lc : locB names x = true
structure Glo (names : List (Str × NameKind)) (x : Str) : Prop where
  g : glB names x = true
def varB (tb : List (Str × Nat)) (names : List (Str × NameKind)) (x : Str) (i : Nat) : Bool := decide (tb.lookup x = some i) && (plainName x && visB (names.lookup x))
def stvB (tb : List (Str × Nat)) (names : List (Str × NameKind)) (x : Str) (i : Nat) : Bool := decide (tb.lookup x = some i) && stB (names.lookup x)
def lcvB (tb : List (Str × Nat)) (names : List (Str × NameKind)) (x : Str) (i : Nat) : Bool := decide (tb.lookup x = some i) && locB names x
section
variable {X : Cx} {ρ : Ro} {S : Sto} {Φ : D → Sto → Prop} {P : Program} {w : World} {K : PySem.W.Frag} {mg : Str → Option Value} {base : Heap} {tb : List (Str × Nat)} {names : List (Str × NameKind)} {k : Nat} {pos p px py pz pt spos : Pos} {e e2 : Expr} {es : List Expr} {x y z : Str} {i j l : Nat} {E : DEnds}
theorem At.var (A : At X P w K mg base tb names k) (x : Str) (i : Nat) (h : varB tb names x i = true) : Var tb names x i := by
  unfold varB at h
  rw [Bool.and_eq_true] at h
  exact ⟨of_decide_eq_true h.1, h.2⟩
theorem At.stv (A : At X P w K mg base tb names k) (x : Str) (i : Nat) (h : stvB tb names x i = true) : Stv tb names x i := by
  unfold stvB at h
  rw [Bool.and_eq_true] at h
  exact ⟨of_decide_eq_true h.1, h.2⟩
theorem At.lcv (A : At X P w K mg base tb names k) (x : Str) (i : Nat) (h : lcvB tb names x i = true) : Lcv tb names x i := by
  unfold lcvB at h
  rw [Bool.and_eq_true] at h
  exact ⟨of_decide_eq_true h.1, h.2⟩
theorem At.glo (A : At X P w K mg base tb names k) (x : Str) (h : glB names x = true) : Glo names x := ⟨h⟩
theorem vName (A : At X P w K mg base tb names k) (v : Var tb names x i) (h : ∃ d, ρ[i]? = some (some d) ∧ Φ d S) : DE X (.Name x pos) ρ S Φ := by
  obtain ⟨d, h, q⟩ := h
  exact de_name A ⟨i, d, v.look, v.vis, h, q⟩
theorem vSet (A : At X P w K mg base tb names k) (v : Stv tb names x i) (hs : swapsWith e (some (.Name x p)) pos.line X.env = pure false) (h : DE X e ρ S fun d S1 => Nx E (ρ.set i (some d)) S1) : DS X (.Assign [.Name x p] e pos) ρ S E := ds_set A hs ⟨i, v.look, v.st, h⟩
theorem vCell (A : At X P w K mg base tb names k) (v : Stv tb names x i) (hs : swapsWith e (some (.Name x p)) pos.line X.env = pure false) (h : DN X e ρ S fun l S1 => ∀ c, Nx E (ρ.set i (some (.cell c))) (S1 ++ [(c, l)])) : DS X (.Assign [.Name x p] e pos) ρ S E := ds_setCell A hs ⟨i, v.look, v.st, h⟩
theorem At.bk (A : At X P w K mg base tb names k) : X.env.blockKind = .function := by
  unfold Env.blockKind
  rw [A.kind]
  rfl
def par2B (px py : Pos) (x y : Str) (a b : Expr) : Bool := (py.line == px.line) && !(y == x) && !([a, b].all (foldedForSure 8)) && !([a, b].all (constantsAlone 8)) && !([a, b].any isStar)
def par3B (px py pz : Pos) (x y z : Str) (a b c : Expr) : Bool := (py.line == px.line) && (pz.line == px.line) && !(y == x) && !(z == x) && !(z == y) && !([a, b, c].all (foldedForSure 8)) && !([a, b, c].all (constantsAlone 8)) && !([a, b, c].any isStar)
theorem vPar {a b : Expr} {kt k2 pt2} (A : At X P w K mg base tb names k) (v : Lcv tb names x i) (u : Lcv tb names y j) (hp : par2B px py x y a b = true)
    (hs : swapsWithSole [.Tuple [.Name x px, .Name y py] kt pt] (.Tuple [a, b] k2 pt2) pos.line X.env = pure false) (hij : Nat.beq i j = false)
    (h : DA X [a, b] ρ S fun ds S1 => ∃ c d, ds = [c, d] ∧ Nx E ((ρ.set i (some c)).set j (some d)) S1) : DS X (.Assign [.Tuple [.Name x px, .Name y py] kt pt] (.Tuple [a, b] k2 pt2) pos) ρ S E := by
  unfold par2B at hp
  simp only [Bool.and_eq_true, Bool.not_eq_true'] at hp
  obtain ⟨⟨⟨⟨h1, h2⟩, h3⟩, h4⟩, h5⟩ := hp
  exact ds_par A (sw_some2 A.bk (A.loc _ (locB_of v.lc)) (A.loc _ (locB_of u.lc)) h1 h2 h3 h4 h5) hs ⟨i, j, v.look, u.look, hij, by rw [v.lc, u.lc]; rfl, h⟩
theorem vPar3 {a b c : Expr} {kt k2 pt2} (A : At X P w K mg base tb names k) (v : Lcv tb names x i) (u : Lcv tb names y j) (t : Lcv tb names z l) (hp : par3B px py pz x y z a b c = true)
    (hs : swapsWithSole [.Tuple [.Name x px, .Name y py, .Name z pz] kt pt] (.Tuple [a, b, c] k2 pt2) pos.line X.env = pure false) (hij : Nat.beq i j = false ∧ Nat.beq i l = false ∧ Nat.beq j l = false)
    (h : DA X [a, b, c] ρ S fun ds S1 => ∃ a b c, ds = [a, b, c] ∧ Nx E (((ρ.set i (some a)).set j (some b)).set l (some c)) S1) : DS X (.Assign [.Tuple [.Name x px, .Name y py, .Name z pz] kt pt] (.Tuple [a, b, c] k2 pt2) pos) ρ S E := by
  unfold par3B at hp
  simp only [Bool.and_eq_true, Bool.not_eq_true'] at hp
  obtain ⟨⟨⟨⟨⟨⟨⟨h1, h2⟩, h3⟩, h4⟩, h5⟩, h6⟩, h7⟩, h8⟩ := hp
  exact ds_par3 A (sw_some3 A.bk (A.loc _ (locB_of v.lc)) (A.loc _ (locB_of u.lc)) (A.loc _ (locB_of t.lc)) h1 h2 h3 h4 h5 h6 h7 h8) hs ⟨i, j, l, v.look, u.look, t.look, hij, by rw [v.lc, u.lc, t.lc]; rfl, h⟩
/-- constants alone -/
theorem vAsgF {ts vs : List Expr} {kt k2 pt2} (hf : (vs.all (foldedForSure 8)) = true) (hs : swapsWithSole [.Tuple ts kt pt] (.Tuple vs k2 pt2) pos.line X.env = pure false) (h1 : (assignEach [.Tuple ts kt pt] X.env).map (·.2) = [assign (.Tuple ts kt pt) X.env])
    (h : DE X (.Tuple vs k2 pt2) ρ S fun d S1 => DG X (fun _ => true) (.Tuple ts kt pt) d ρ S1 E.nx) : DS X (.Assign [.Tuple ts kt pt] (.Tuple vs k2 pt2) pos) ρ S E := ds_asg hs (sw_fold hf) h1 h
/-- one of two targets is a cell of the def -/
theorem vAsgC {vs : List Expr} {kt k2 pt2} (A : At X P w K mg base tb names k) (hc : (cfB (names.lookup x) || cfB (names.lookup y)) = true) (hs : swapsWithSole [.Tuple [.Name x px, .Name y py] kt pt] (.Tuple vs k2 pt2) pos.line X.env = pure false) (h1 : (assignEach [.Tuple [.Name x px, .Name y py] kt pt] X.env).map (·.2) = [assign (.Tuple [.Name x px, .Name y py] kt pt) X.env])
    (h : DE X (.Tuple vs k2 pt2) ρ S fun d S1 => DG X (fun _ => true) (.Tuple [.Name x px, .Name y py] kt pt) d ρ S1 E.nx) : DS X (.Assign [.Tuple [.Name x px, .Name y py] kt pt] (.Tuple vs k2 pt2) pos) ρ S E := by
  have no : ∀ z, cfB (names.lookup z) = true → (X.env.kindOf z == some .local) = false := fun z hz => by
    rcases A.cf z hz with q | q
    · show (X.env.scope.names.lookup z == some .local) = false
      rw [q]
      rfl
    · show (X.env.scope.names.lookup z == some .local) = false
      rw [q]
      rfl
  rw [Bool.or_eq_true] at hc
  exact ds_asg hs (sw_cell2 (hc.imp (no x) (no y))) h1 h
theorem vG {ok : Nat → Bool} {d : D} {Φ : Ro → Sto → Prop} (A : At X P w K mg base tb names k) (v : Stv tb names x i) (hok : ok i = true) (h : NxG Φ (ρ.set i (some d)) S) : DG X ok (.Name x pos) d ρ S Φ := dg_name A ⟨i, v.look, by rw [v.st, hok]; rfl, h⟩
theorem vAug {op : Operator} (A : At X P w K mg base tb names k) (v : Stv tb names x i) (h : ∃ d, ρ[i]? = some (some d) ∧ DE X e ρ S fun c S1 => DO X (inplaceOp op) d c S1 fun r S2 => Nx E (ρ.set i (some r)) S2) : DS X (.AugAssign (.Name x p) op e pos) ρ S E := by
  obtain ⟨d, h1, h2⟩ := h
  exact ds_aug A ⟨i, d, v.look, v.st, h1, h2⟩
theorem vSetLc {scope : Scope} {own : List (Str × Nat)} {tg iter elt : Expr} {ifs : List Expr} (A : At X P w K mg base tb names k) (v : Lcv tb names y i) (hk : scope.kind = .function) (hb : blkD tb names scope.names own = true) (hs : ∀ x, foldedSetIterable iter X.env x = pure x)
    (hl : (py.line == pos.line) = true) (ha : (scope.names.any fun (n, k) => n == y && (k == .local || k == .cell)) = false)
    (h : DI X tg iter ρ S fun ds S1 => ds.length ≤ sizeLine ∧ LcN X scope (okOf own) tg ifs elt ds (wipeR ρ (own.map (·.2))) S1 fun d S2 => Nx E (ρ.set i (some d)) S2) : DS X (.Assign [.Name y py] (.ListComp elt [⟨tg, iter, ifs, 0⟩] scope pos) spos) ρ S E :=
  ds_setLc A hk hb hs hl ha v.lc ⟨i, v.look, h⟩
theorem vCall {n j : Nat} {B : Spec} (A : At X P w K mg base tb names k) (F : Fn P w K mg base x n j B) (g : Glo names x) (hc : (Nat.ble j k && Nat.beq (e :: es).length n) = true)
    (he : starEach (e :: es) X.env = (false, eval e X.env) :: starEach es X.env) (hpl : (backTo pos (starEach es X.env)).any (·.1) = false)
    (h : DA X (e :: es) ρ S fun ds S1 => B ds S1 Φ) : DE X (.Call (.Name x p) (e :: es) [] pos) ρ S Φ := de_call A F (by rw [hc, g.g]; rfl) he hpl h
theorem vNCall {n j : Nat} {B : SpecN} {Φ : List D → Sto → Prop} (A : At X P w K mg base tb names k) (F : FnN P w K mg base x n j B) (g : Glo names x) (hc : (Nat.ble j k && Nat.beq (e :: es).length n) = true)
    (he : starEach (e :: es) X.env = (false, eval e X.env) :: starEach es X.env) (hpl : (backTo pos (starEach es X.env)).any (·.1) = false)
    (h : DA X (e :: es) ρ S fun ds S1 => B ds S1 Φ) : DN X (.Call (.Name x p) (e :: es) [] pos) ρ S Φ := dn_call A F (by rw [hc, g.g]; rfl) he hpl h
theorem vIsi {T : String} {f : D → Bool} (A : At X P w K mg base tb names k) (G : NoB mg) (t : TyG x T f) (g : Glo names x) (g2 : Glo names "isinstance")
    (he : starEach [e, .Name x px] X.env = (false, eval e X.env) :: starEach [.Name x px] X.env)
    (h : DE X e ρ S fun d S1 => OkC S1 d ∧ Φ (.bl (f d)) S1) : DE X (.Call (.Name "isinstance" p) [e, .Name x px] [] pos) ρ S Φ := de_isi A G t (by rw [g.g, g2.g]; rfl) he h
theorem vIsi2 {T T2 : String} {f f2 : D → Bool} {x2 : Str} {px2 : Pos} {kk} (A : At X P w K mg base tb names k) (G : NoB mg) (t : TyG x T f) (t' : TyG x2 T2 f2) (g : Glo names x) (g2 : Glo names "isinstance") (g3 : Glo names x2)
    (he : starEach [e, .Tuple [.Name x px, .Name x2 px2] kk pt] X.env = (false, eval e X.env) :: starEach [.Tuple [.Name x px, .Name x2 px2] kk pt] X.env)
    (h : DE X e ρ S fun d S1 => OkC S1 d ∧ Φ (.bl (f d || f2 d)) S1) : DE X (.Call (.Name "isinstance" p) [e, .Tuple [.Name x px, .Name x2 px2] kk pt] [] pos) ρ S Φ := de_isi2 A G t t' (by rw [g.g, g2.g, g3.g]; rfl) he h
/-- [elt for x in iter], nothing else changed -/
theorem vLc {scope : Scope} {own : List (Str × Nat)} {tg iter elt : Expr} {ifs : List Expr} (A : At X P w K mg base tb names k) (hk : scope.kind = .function) (hb : blkD tb names scope.names own = true) (hs : ∀ x, foldedSetIterable iter X.env x = pure x)
    (h : DI X tg iter ρ S fun ds S1 => ds.length ≤ sizeLine ∧ LcN X scope (okOf own) tg ifs elt ds (wipeR ρ (own.map (·.2))) S1 Φ) : DE X (.ListComp elt [⟨tg, iter, ifs, 0⟩] scope pos) ρ S Φ := de_lc A hk hb hs h
end
end Ar
namespace Ar
open PySem PySem.Spec PyProof.Rows L2
/-! ### contracts by data, of the package's functions -/
abbrev t3 (x y z : Int) : D := .tup [.int x, .int y, .int z]
/-- what a law's file needs of a def -/
def Has (K : PySem.W.Frag) (mg : Str → Option Value) (x : Str) (st : Stmt) (ps : List Str) : Prop := ∃ f fd, Fun K x x st f fd ∧ mg x = some (.ref f) ∧ Binds K fd ps []
theorem Has.fn {P : Program} {w : World} {K : PySem.W.Frag} {mg : Str → Option Value} {base : Heap} {tb : List (Str × Nat)} {x : Str} {st : Stmt} {N ps : List Str} {k n : Nat} {names : List (Str × NameKind)} {B : Spec} (F : Has K mg x st ps) (Sc : FnScope N ps (defScope st)) (hn : ps.length = n) (hnm : (defScope st).names = names) (ht : tbOk N tb = true)
    (body : ∀ X, At X P w K mg base tb names k → ∀ ds S Φ, ds.length = n → B ds S Φ → DSs X (defBody st) (ds.map some ++ List.replicate (N.length - ds.length) none) S { nx := fun _ S' => RetP S Φ .non S', rt := RetP S Φ }) : Fn P w K mg base x n (k + 1) B := by
  obtain ⟨f, fd, F, hm, hb⟩ := F
  exact fn_data F Sc hn hnm ht hm hb body
theorem Has.fnN {P : Program} {w : World} {K : PySem.W.Frag} {mg : Str → Option Value} {base : Heap} {tb : List (Str × Nat)} {x : Str} {st : Stmt} {N ps : List Str} {k n : Nat} {names : List (Str × NameKind)} {B : SpecN} (F : Has K mg x st ps) (Sc : FnScope N ps (defScope st)) (hn : ps.length = n) (hnm : (defScope st).names = names) (ht : tbOk N tb = true)
    (body : ∀ X, At X P w K mg base tb names k → ∀ ds S Φ, ds.length = n → B ds S Φ → DSs X (defBody st) (ds.map some ++ List.replicate (N.length - ds.length) none) S { nx := fun _ _ => False, rt := RetC S Φ }) : FnN P w K mg base x n (k + 1) B := by
  obtain ⟨f, fd, F, hm, hb⟩ := F
  exact fnN_data F Sc hn hnm ht hm hb body
theorem dss_norm {X : Cx} {st : List Stmt} {ρ ρ' : Ro} {S : Sto} {E : DEnds} (e : ρ = ρ') (h : DSs X st ρ' S E) : DSs X st ρ S E := by
  rw [e]
  exact h
theorem asg_list {X : Cx} {x : Str} {p q pos : Pos} {es : List Expr} {ρ : Ro} {S : Sto} {E : DEnds} (h : DS X (.Assign [.Name x p] (.List es q) pos) ρ S E) : DS X (.Assign [.Name x p] (.List es q) pos) ρ S E := h

theorem ble_self (n : Nat) : Nat.ble n n = true := Nat.ble_eq.mpr (Nat.le_refl n)
section
variable {X : Cx} {ρ : Ro} {S : Sto}
theorem de_norm {ρ' : Ro} {e : Expr} {Φ : D → Sto → Prop} (q : ρ = ρ') (h : DE X e ρ' S Φ) : DE X e ρ S Φ := by
  rw [q]
  exact h
theorem dg_norm {ρ' : Ro} {ok : Nat → Bool} {e : Expr} {d : D} {Φ : Ro → Sto → Prop} (q : ρ = ρ') (h : DG X ok e d ρ' S Φ) : DG X ok e d ρ S Φ := by
  rw [q]
  exact h
theorem de_id {e : Expr} {Φ : D → Sto → Prop} (h : DE X e ρ S Φ) : DE X e ρ S Φ := h
theorem de_callId {f : Expr} {es : List Expr} {ks pos} {Φ : D → Sto → Prop} (h : DE X (.Call f es ks pos) ρ S Φ) : DE X (.Call f es ks pos) ρ S Φ := h
theorem do_id {f : Value → Value → Sem Value} {a b : D} {Φ : D → Sto → Prop} (h : DO X f a b S Φ) : DO X f a b S Φ := h
theorem dt_id {e : Expr} {Φ : Bool → Sto → Prop} (h : DT X e ρ S Φ) : DT X e ρ S Φ := h
theorem dw_id {e : Expr} {Φ : Bool → Sto → Prop} (h : DW X e ρ S Φ) : DW X e ρ S Φ := h
theorem ds_id {st : Stmt} {E : DEnds} (h : DS X st ρ S E) : DS X st ρ S E := h
theorem dg_id {ok : Nat → Bool} {e : Expr} {d : D} {Φ : Ro → Sto → Prop} (h : DG X ok e d ρ S Φ) : DG X ok e d ρ S Φ := h
end
theorem okc_and {S : Sto} {d : D} {A : Prop} (h : OkC S d) (q : A) : OkC S d ∧ A := ⟨h, q⟩
def isNumB : D → Bool
  | .int _ => true
  | _ => false
def isTupB : D → Bool
  | .tup _ => true
  | _ => false
def isLongB : D → Int → Bool
  | .tup l, n => decide ((l.length : Int) = n)
  | _, _ => false
def areNumB : D → Bool
  | .tup l => l.all isNumB
  | _ => false
def isTripB (d : D) : Bool := isLongB d 3 && areNumB d
mutual
/-- lists as tuples, at every depth -/
def nrm : D → D
  | .tup l => .tup (nrmL l)
  | .lst l => .tup (nrmL l)
  | .frz l => .tup (nrmL l)
  | d => d
def nrmL : List D → List D
  | [] => []
  | d :: l => nrm d :: nrmL l
end
mutual
/-- of depth at most n, rows within the line, no cells -/
def fitD : Nat → D → Bool
  | n + 1, .tup l => Nat.ble l.length sizeLine && fitL n l
  | n + 1, .lst l => Nat.ble l.length sizeLine && fitL n l
  | n + 1, .frz l => Nat.ble l.length sizeLine && fitL n l
  | 0, .tup _ => false
  | 0, .lst _ => false
  | 0, .frz _ => false
  | _, .cell _ => false
  | _, .dct _ _ => false
  | _, _ => true
def fitL : Nat → List D → Bool
  | _, [] => true
  | n, d :: l => fitD n d && fitL n l
end
def cIsNumber : Spec := fun ds S Φ => ∃ d, ds = [d] ∧ OkC S d ∧ Φ (.bl (isNumB d)) S
theorem cIsNumber_i {d : D} {S : Sto} {Φ} (h : OkC S d) (q : Φ (.bl (isNumB d)) S) : cIsNumber [d] S Φ := ⟨d, rfl, h, q⟩
def cIsLong : Spec := fun ds S Φ => ∃ d n, ds = [d, .int n] ∧ OkC S d ∧ Φ (.bl (isLongB d n)) S
theorem cIsLong_i {d : D} {n : Int} {S : Sto} {Φ} (h : OkC S d) (q : Φ (.bl (isLongB d n)) S) : cIsLong [d, .int n] S Φ := ⟨d, n, rfl, h, q⟩
/-! loops and comprehensions -/
/-- a statement that is not opened -/
inductive Box (A : Prop) : Prop where
  | mk (h : A) : Box A
  | mk2 (h : A) : Box A
theorem Box.get {A : Prop} : Box A → A
  | .mk h => h
  | .mk2 h => h
structure RngOk (i : Int) : Prop where
  lo : -(2 ^ 62) ≤ i
  hi : i < 2 ^ 62
section
variable {X : Cx} {ρ : Ro} {S : Sto} {P : Program} {w : World} {K : PySem.W.Frag} {mg : Str → Option Value} {base : Heap} {tb : List (Str × Nat)} {names : List (Str × NameKind)} {k : Nat} {pos p tpos : Pos}
theorem for_ind {tg : Expr} {body : List Stmt} {E : DEnds} (I : List D → Ro → Sto → Prop) (step : ∀ d ds ρ S, I (d :: ds) ρ S → DG X (fun _ => true) tg d ρ S fun ρ1 S1 => DSs X body ρ1 S1 { nx := fun r s => Box (I ds r s), rt := E.rt, bk := E.nx, ct := fun r s => Box (I ds r s) }) (fin : ∀ ρ S, I [] ρ S → E.nx ρ S) : ∀ {ds : List D} {ρ : Ro} {S : Sto}, I ds ρ S → ForD X tg body ds ρ S E
  | [], ρ, S, h => fin ρ S h
  | d :: ds, ρ, S, h => fun Zh pins s σ H v u Q I' ev r rv k => step d ds ρ S h Zh pins s σ H v u Q I' ev r rv fun σ' H' ρ' S' a b c e f q => k σ' H' ρ' S' a b c e f (q.mono (fun _ _ z => for_ind I step fin z.get) (fun _ _ z => z) (fun _ _ z => z) (fun _ _ z => for_ind I step fin z.get))
theorem lc_ind {b : Bl} {ok : Nat → Bool} {tg elt : Expr} {Φ : D → Sto → Prop} (I : List D → Sto → List D → Prop) (step : ∀ d ds S acc, I (d :: ds) S acc → ∀ X', b X' → DG X' ok tg d ρ S fun ρ2 S2 => Box (∀ X', b X' → DE X' elt ρ2 S2 fun y S4 => Box (I ds S4 (acc ++ [y])))) (fin : ∀ S acc, I [] S acc → Φ (.lst acc) S) : ∀ {ds : List D} {S : Sto} {acc : List D}, I ds S acc → LcD b ok tg [] elt ds ρ S acc Φ
  | [], S, acc, h => fin S acc h
  | d :: ds, S, acc, h => lc_cons fun X' hX => fun Zh pins s σ H v u Q I' ev r rv k => step d ds S acc h X' hX Zh pins s σ H v u Q I' ev r rv fun σ' H' ρ' S' a b c e f q => k σ' H' ρ' S' a b c e f fun X2 hX2 => (q.get X2 hX2).mono fun y S4 z => lc_ind I step fin z.get
theorem lc_mapN {scope : Scope} {own : List (Str × Nat)} {x : Str} {elt : Expr} {i : Nat} {f : D → D} {Φ : D → Sto → Prop} {ds : List D} (A : At X P w K mg base tb names k) (hk : scope.kind = .function) (hx : tb.lookup x = some i) (hv : (stB (scope.names.lookup x) && okOf own i) = true)
    (h : ∀ d, d ∈ ds → ∀ X', At X' P w K mg base tb scope.names k → ∀ Ξ : D → Sto → Prop, Ξ (f d) S → DE X' elt (ρ.set i (some d)) S Ξ) (q : Φ (.lst (ds.map f)) S) : LcD (blks X scope) (okOf own) (.Name x p) [] elt ds ρ S [] Φ :=
  lc_map (f := f) (fun d hd X' hX Ψ hΨ => dg_name (A.blk hk hX) ⟨i, hx, hv, hΨ _ fun X2 hX2 Ξ hΞ => h d hd X2 (A.blk hk hX2) Ξ hΞ⟩) q
theorem lc_mapP {scope : Scope} {own : List (Str × Nat)} {x y : Str} {px py : Pos} {kk : Nat} {elt : Expr} {i j : Nat} {f : D → D} {Φ : D → Sto → Prop} {ds : List D} (A : At X P w K mg base tb names k) (hk : scope.kind = .function) (hx : tb.lookup x = some i) (hv : (stB (scope.names.lookup x) && okOf own i) = true)
    (hy : tb.lookup y = some j) (hw : (stB (scope.names.lookup y) && okOf own j) = true)
    (h : ∀ d, d ∈ ds → ∃ a b, d = .tup [a, b] ∧ ∀ X', At X' P w K mg base tb scope.names k → ∀ Ξ : D → Sto → Prop, Ξ (f d) S → DE X' elt ((ρ.set i (some a)).set j (some b)) S Ξ) (q : Φ (.lst (ds.map f)) S) : LcD (blks X scope) (okOf own) (.Tuple [.Name x px, .Name y py] kk p) [] elt ds ρ S [] Φ :=
  lc_map (f := f) (fun d hd X' hX Ψ hΨ => by
    obtain ⟨a, b, rfl, h⟩ := h d hd
    have A' := A.blk hk hX
    refine dg_tup (n := 2) A' rfl rfl ⟨_, rfl, rfl, dgs_cons rfl (dg_name A' ⟨i, hx, hv, ?_⟩)⟩
    refine dgs_cons rfl (dg_name A' ⟨j, hy, hw, dgs_nil ?_⟩)
    exact hΨ _ fun X2 hX2 Ξ hΞ => h X2 (A.blk hk hX2) Ξ hΞ) q
/-- [elt for x in iter], nothing else changed -/
theorem de_lcN {scope : Scope} {own : List (Str × Nat)} {x : Str} {iter elt : Expr} {Φ : D → Sto → Prop} (i : Nat) (f : D → D) (A : At X P w K mg base tb names k) (hk : scope.kind = .function) (hb : blkD tb names scope.names own = true) (hs : ∀ x, foldedSetIterable iter X.env x = pure x) (hx : tb.lookup x = some i) (hv : (stB (scope.names.lookup x) && okOf own i) = true)
    (h : DI X (.Name x p) iter ρ S fun ds S1 => ds.length ≤ sizeLine ∧ (∀ d, d ∈ ds → ∀ X', At X' P w K mg base tb scope.names k → ∀ Ξ : D → Sto → Prop, Ξ (f d) S1 → DE X' elt ((wipeR ρ (own.map (·.2))).set i (some d)) S1 Ξ) ∧ Φ (.lst (ds.map f)) S1) : DE X (.ListComp elt [⟨.Name x p, iter, [], 0⟩] scope pos) ρ S Φ :=
  de_lc (own := own) A hk hb hs (DI.mono h fun ds S1 ⟨h1, h2, h3⟩ => ⟨h1, lc_mapN A hk hx hv h2 h3⟩)
theorem de_lcP {scope : Scope} {own : List (Str × Nat)} {x y : Str} {px py : Pos} {kk : Nat} {iter elt : Expr} {Φ : D → Sto → Prop} (i j : Nat) (f : D → D) (A : At X P w K mg base tb names k) (hk : scope.kind = .function) (hb : blkD tb names scope.names own = true) (hs : ∀ x, foldedSetIterable iter X.env x = pure x) (hx : tb.lookup x = some i) (hv : (stB (scope.names.lookup x) && okOf own i) = true)
    (hy : tb.lookup y = some j) (hw : (stB (scope.names.lookup y) && okOf own j) = true)
    (h : DI X (.Tuple [.Name x px, .Name y py] kk p) iter ρ S fun ds S1 => ds.length ≤ sizeLine ∧ (∀ d, d ∈ ds → ∃ a b, d = .tup [a, b] ∧ ∀ X', At X' P w K mg base tb scope.names k → ∀ Ξ : D → Sto → Prop, Ξ (f d) S1 → DE X' elt (((wipeR ρ (own.map (·.2))).set i (some a)).set j (some b)) S1 Ξ) ∧ Φ (.lst (ds.map f)) S1) : DE X (.ListComp elt [⟨.Tuple [.Name x px, .Name y py] kk p, iter, [], 0⟩] scope pos) ρ S Φ :=
  de_lc (own := own) A hk hb hs (DI.mono h fun ds S1 ⟨h1, h2, h3⟩ => ⟨h1, lc_mapP A hk hx hv hy hw h2 h3⟩)
theorem vRange1 {e tg : Expr} {Φ : List D → Sto → Prop} (A : At X P w K mg base tb names k) (G : NoB mg) (g : Glo names "range") (hs : starEach [e] X.env = [(false, eval e X.env)]) (h : DE X e ρ S fun d S1 => ∃ i, d = .int i ∧ RngOk i ∧ Φ (rangeD 0 i.toNat) S1) : DI X tg (.Call (.Name "range" p) [e] [] pos) ρ S Φ :=
  di_range1 A (G.no _ rfl) g.g hs (h.mono fun d S1 ⟨i, e, r, q⟩ => ⟨i, e, ⟨r.lo, r.hi⟩, q⟩) hs
theorem vRange2 {e e2 tg : Expr} {Φ : List D → Sto → Prop} (A : At X P w K mg base tb names k) (G : NoB mg) (g : Glo names "range") (hs : starEach [e, e2] X.env = [(false, eval e X.env), (false, eval e2 X.env)]) (hs2 : starEach [e2] X.env = [(false, eval e2 X.env)])
    (hs3 : starEach (e :: [e2]) X.env = (false, eval e X.env) :: starEach [e2] X.env) (h : DE X e ρ S fun d S1 => DE X e2 ρ S1 fun c S2 => ∃ i j, d = .int i ∧ c = .int j ∧ RngOk i ∧ RngOk j ∧ Φ (rangeD i (j - i).toNat) S2) : DI X tg (.Call (.Name "range" p) [e, e2] [] pos) ρ S Φ :=
  di_range2 A (G.no _ rfl) g.g hs hs2 hs3 hs2 (h.mono fun d S1 h => h.mono fun c S2 ⟨i, j, e1, e2, r1, r2, q⟩ => ⟨i, j, e1, e2, ⟨r1.lo, r1.hi, r2.lo, r2.hi⟩, q⟩)
theorem rng_and {i : Int} {B : Prop} (h : RngOk i) (q : B) : RngOk i ∧ B := ⟨h, q⟩
theorem bls_map {f : D → Bool} {l : List D} : l.map (fun d => D.bl (f d)) = (l.map f).map D.bl := by
  rw [List.map_map]
  rfl
theorem plain_ok {d : D} (h : plainD d = true) : OkC S d := by
  cases d with
  | cell p => unfold plainD at h; cases h
  | _ => exact trivial
theorem plain_in {l : List D} (h : plainL l = true) : ∀ d, d ∈ l → plainD d = true := fun d hd => by
  induction l with
  | nil => cases hd
  | cons c l ih =>
    unfold plainL at h
    rw [Bool.and_eq_true] at h
    rcases List.mem_cons.mp hd with e | e
    · rw [e]; exact h.1
    · exact ih h.2 e
theorem plain_tup {l : List D} (h : plainD (.tup l) = true) : l.length ≤ sizeLine ∧ plainL l = true := by
  unfold plainD at h
  rw [Bool.and_eq_true] at h
  exact ⟨Nat.le_of_ble_eq_true h.1, h.2⟩
end
theorem fit_in {n : Nat} {l : List D} (h : fitL n l = true) : ∀ d, d ∈ l → fitD n d = true := fun d hd => by
  induction l with
  | nil => cases hd
  | cons c l ih =>
    unfold fitL at h
    rw [Bool.and_eq_true] at h
    rcases List.mem_cons.mp hd with e | e
    · rw [e]; exact h.1
    · exact ih h.2 e
theorem nrmL_map : ∀ {l : List D}, nrmL l = l.map nrm
  | [] => by unfold nrmL; rfl
  | d :: l => by unfold nrmL; rw [List.map_cons, nrmL_map]
def cTupled (n : Nat) : Spec := fun ds S Φ => ∃ d, ds = [d] ∧ fitD n d = true ∧ Φ (nrm d) S
theorem cTupled_i {n : Nat} {d : D} {S : Sto} {Φ} (h : fitD n d = true) (q : Φ (nrm d) S) : cTupled n [d] S Φ := ⟨d, rfl, h, q⟩
def cPlain1 (f : D → D) : Spec := fun ds S Φ => ∃ d, ds = [d] ∧ plainD d = true ∧ Φ (f d) S
theorem cPlain1_i {f : D → D} {d : D} {S : Sto} {Φ} (h : plainD d = true) (q : Φ (f d) S) : cPlain1 f [d] S Φ := ⟨d, rfl, h, q⟩
def cRowOf : Spec := fun ds S Φ => ∃ d n, ds = [d, .int n, .non] ∧ plainD d = true ∧ Φ (.bl (isLongB d n && areNumB d)) S
theorem cRowOf_i {d : D} {n : Int} {S : Sto} {Φ} (h : plainD d = true) (q : Φ (.bl (isLongB d n && areNumB d)) S) : cRowOf [d, .int n, .non] S Φ := ⟨d, n, rfl, h, q⟩
/-- an argument that is a deed, as it is or with a list in the tuple's place -/
def IsDeed (d : D) (x y z : Int) : Prop := d = t3 x y z
def cSureDeed : Spec := fun ds S Φ => ∃ x y z, ds = [t3 x y z] ∧ Φ (t3 x y z) S
theorem cSureDeed_i {x y z : Int} {S : Sto} {Φ} (q : Φ (t3 x y z) S) : cSureDeed [t3 x y z] S Φ := ⟨x, y, z, rfl, q⟩
def cSureNumber : Spec := fun ds S Φ => ∃ x, ds = [.int x] ∧ Φ (.int x) S
theorem cSureNumber_i {x : Int} {S : Sto} {Φ} (q : Φ (.int x) S) : cSureNumber [.int x] S Φ := ⟨x, rfl, q⟩
/-! deeds -/
abbrev fJoin (x y z p q s : Int) : D := t3 (x + p) (y + q) (z + s + x * q)
abbrev fUndo (x y z : Int) : D := t3 (-x) (-y) (x * y - z)
abbrev fTimes (x y z k : Int) : D := t3 (k * x) (k * y) (k * z + k * (k - 1) / 2 * x * y)
abbrev fCross (x y _z p q _s : Int) : D := .int (x * q - y * p)
abbrev fTrip (x y _z p q _s : Int) : D := t3 0 0 (x * q - y * p)
abbrev fLed (x y z p q _s : Int) : D := t3 x y (z + (p * y - q * x))
abbrev fSteps (x y z p q s : Int) : D := t3 (-x + p) (-y + q) (x * y - z + s + -x * q)
abbrev fTilt (x y z : Int) : D := .int (2 * z - x * y)
abbrev fMir (x y z : Int) : D := t3 (-x) y (-z)
abbrev fRead (x y z : Int) : D := t3 x y (x * y - z)
def cD1 (N : Nat) (f : Int → Int → Int → D) : Spec := fun ds S Φ => ∃ x y z, ds = [t3 x y z] ∧ (Bd N x ∧ Bd N y ∧ Bd N z) ∧ Φ (f x y z) S
theorem cD1_i {N : Nat} {f : Int → Int → Int → D} {x y z : Int} {S : Sto} {Φ} (h1 : Bd N x) (h2 : Bd N y) (h3 : Bd N z) (q : Φ (f x y z) S) : cD1 N f [t3 x y z] S Φ := ⟨x, y, z, rfl, ⟨h1, h2, h3⟩, q⟩
def cD2 (N : Nat) (f : Int → Int → Int → Int → Int → Int → D) : Spec := fun ds S Φ => ∃ x y z p q s, ds = [t3 x y z, t3 p q s] ∧ (Bd N x ∧ Bd N y ∧ Bd N z) ∧ (Bd N p ∧ Bd N q ∧ Bd N s) ∧ Φ (f x y z p q s) S
theorem cD2_i {N : Nat} {f : Int → Int → Int → Int → Int → Int → D} {x y z p q s : Int} {S : Sto} {Φ} (h1 : Bd N x) (h2 : Bd N y) (h3 : Bd N z) (h4 : Bd N p) (h5 : Bd N q) (h6 : Bd N s) (k : Φ (f x y z p q s) S) : cD2 N f [t3 x y z, t3 p q s] S Φ := ⟨x, y, z, p, q, s, rfl, ⟨h1, h2, h3⟩, ⟨h4, h5, h6⟩, k⟩
def cDI (N : Nat) (f : Int → Int → Int → Int → D) : Spec := fun ds S Φ => ∃ x y z k, ds = [t3 x y z, .int k] ∧ (Bd N x ∧ Bd N y ∧ Bd N z) ∧ Bd N k ∧ Φ (f x y z k) S
theorem cDI_i {N : Nat} {f : Int → Int → Int → Int → D} {x y z k : Int} {S : Sto} {Φ} (h1 : Bd N x) (h2 : Bd N y) (h3 : Bd N z) (h4 : Bd N k) (q : Φ (f x y z k) S) : cDI N f [t3 x y z, .int k] S Φ := ⟨x, y, z, k, rfl, ⟨h1, h2, h3⟩, h4, q⟩
def cI1 (N : Nat) (f : Int → D) : Spec := fun ds S Φ => ∃ k, ds = [.int k] ∧ Bd N k ∧ Φ (f k) S
theorem cI1_i {N : Nat} {f : Int → D} {k : Int} {S : Sto} {Φ} (h4 : Bd N k) (q : Φ (f k) S) : cI1 N f [.int k] S Φ := ⟨k, rfl, h4, q⟩
end Ar
namespace Ar
open PySem PySem.Spec PyProof.Rows L2
/-! ### deeds in rows -/
abbrev T3 := Int × Int × Int
abbrev d3 (t : T3) : D := t3 t.1 t.2.1 t.2.2
def Bd3 (N : Nat) (t : T3) : Prop := Bd N t.1 ∧ Bd N t.2.1 ∧ Bd N t.2.2
abbrev joinT (t u : T3) : T3 := (t.1 + u.1, t.2.1 + u.2.1, t.2.2 + u.2.2 + t.1 * u.2.1)
def cAllJoined : Spec := fun ds S Φ => ∃ l : List T3, ds = [.tup (l.map d3)] ∧ l.length ≤ 1000 ∧ (∀ t, t ∈ l → Bd3 1200 t) ∧ Φ (d3 (l.foldl joinT (0, 0, 0))) S
theorem cAllJoined_i {ds : List D} {S : Sto} {Φ} (l : List T3) (e : ds = l.map d3) (hl : l.length ≤ 1000) (h : ∀ t, t ∈ l → Bd3 1200 t) (q : Φ (d3 (l.foldl joinT (0, 0, 0))) S) : cAllJoined [.tup ds] S Φ := ⟨l, by rw [e], hl, h, q⟩
def cSureDeeds : Spec := fun ds S Φ => ∃ l : List T3, ds = [.tup (l.map d3)] ∧ l.length ≤ 1000 ∧ Φ (.tup (l.map d3)) S
theorem cSureDeeds_i {S : Sto} {Φ} (l : List T3) (hl : l.length ≤ 1000) (q : Φ (.tup (l.map d3)) S) : cSureDeeds [.tup (l.map d3)] S Φ := ⟨l, rfl, hl, q⟩
theorem nrm_t3 {x y z : Int} : nrm (t3 x y z) = t3 x y z := by
  simp [nrm, nrmL]
theorem nrm_d3s : ∀ l : List T3, nrmL (l.map d3) = l.map d3
  | [] => by simp [nrmL]
  | t :: l => by
    rw [List.map_cons]
    unfold nrmL
    rw [nrm_d3s l]
    rw [show nrm (d3 t) = d3 t from nrm_t3]
theorem fit_d3s : ∀ l : List T3, fitL 1 (l.map d3) = true
  | [] => by simp [fitL]
  | t :: l => by
    rw [List.map_cons]
    unfold fitL
    rw [fit_d3s l]
    rfl
theorem plain_d3s : ∀ l : List T3, plainL (l.map d3) = true
  | [] => by simp [plainL]
  | t :: l => by
    rw [List.map_cons]
    unfold plainL
    rw [plain_d3s l]
    rfl
theorem le_line {n m : Nat} (h : n ≤ m) (k : Nat.ble m 1000000 = true) : n ≤ sizeLine := by
  have := Nat.le_of_ble_eq_true k
  have e : sizeLine = sizeLine := rfl
  unfold sizeLine
  omega
def turnN : Nat → T3 → T3
  | 0, t => t
  | n + 1, t => turnN n (-t.2.1, t.1, t.2.2 - t.1 * t.2.1)
abbrev fTurn (x y z k : Int) : D := d3 (turnN (k % 4).toNat (x, y, z))
/-! ### words -/
abbrev ch (c : Nat) : D := .str ⟨#[c]⟩
abbrev wd (cs : List Nat) : Str := ⟨cs.toArray⟩
def Ltr (c : Nat) : Prop := c = 114 ∨ c = 117 ∨ c = 108 ∨ c = 100
def LetW (cs : List Nat) : Prop := ∀ c, c ∈ cs → Ltr c
theorem chars_wd (cs : List Nat) : charsD (wd cs) = cs.map ch := by
  unfold charsD
  simp
def dx (c : Nat) : Int := if c = 114 then 1 else if c = 108 then -1 else 0
def dy (c : Nat) : Int := if c = 117 then 1 else if c = 100 then -1 else 0
def doW : List Nat → T3 → T3
  | [], t => t
  | c :: cs, t => doW cs (t.1 + dx c, t.2.1 + dy c, t.2.2 + t.1 * dy c)
def stepF (z : Str) : Option D := match z.cps.toList with
  | [114] => some (.tup [.int 1, .int 0])
  | [117] => some (.tup [.int 0, .int 1])
  | [108] => some (.tup [.int (-1), .int 0])
  | [100] => some (.tup [.int 0, .int (-1)])
  | _ => none
def cRoute (f : List Nat → D) : Spec := fun ds S Φ => ∃ cs, ds = [.str (wd cs)] ∧ LetW cs ∧ cs.length ≤ 1000 ∧ Φ (f cs) S
theorem cRoute_i {f : List Nat → D} {cs : List Nat} {S : Sto} {Φ} (h : LetW cs) (hl : cs.length ≤ 1000) (q : Φ (f cs) S) : cRoute f [.str (wd cs)] S Φ := ⟨cs, rfl, h, hl, q⟩
def cRoute2 (f : List Nat → List Nat → D) : Spec := fun ds S Φ => ∃ cs es, ds = [.str (wd cs), .str (wd es)] ∧ (LetW cs ∧ cs.length ≤ 1000) ∧ (LetW es ∧ es.length ≤ 1000) ∧ Φ (f cs es) S
theorem cRoute2_i {f : List Nat → List Nat → D} {cs es : List Nat} {S : Sto} {Φ} (h : LetW cs) (hl : cs.length ≤ 1000) (h2 : LetW es) (hl2 : es.length ≤ 1000) (q : Φ (f cs es) S) : cRoute2 f [.str (wd cs), .str (wd es)] S Φ := ⟨cs, es, rfl, ⟨h, hl⟩, ⟨h2, hl2⟩, q⟩
theorem LetW.tail {c : Nat} {cs : List Nat} (h : LetW (c :: cs)) : LetW cs := fun d hd => h d (List.mem_cons_of_mem _ hd)
theorem LetW.head {c : Nat} {cs : List Nat} (h : LetW (c :: cs)) : Ltr c := h c List.mem_cons_self
/-! ### the law's draws -/
/-- the source of draws: at most b drawn -/
def Tin (b : Nat) (l : List D) : Prop := ∃ a q c : Int, l = [.int a, .int q, .int c] ∧ 0 ≤ a ∧ 0 ≤ q ∧ Bd 80 q ∧ 0 ≤ c ∧ c ≤ b
theorem Bd.nat {b : Nat} {c : Int} (h0 : 0 ≤ c) (h : c ≤ b) (k : b ≤ 1000000000) : Bd 30 c := by
  constructor
  have e : (2 : Nat) ^ 30 = 1073741824 := rfl
  omega
def cTake : Spec := fun ds S Φ => ∃ p b l R n, ds = [.cell p, .int n] ∧ S = (p, l) :: R ∧ Tin b l ∧ b ≤ 1000000000 ∧ 0 < n ∧ Bd 8000 n ∧ ∀ r l', 0 ≤ r → r < n → Tin (b + 1) l' → Φ (.int r) ((p, l') :: R)
theorem cTake_i {p : Addr} {b : Nat} {l : List D} {R : Sto} {n : Int} {Φ} (h : Tin b l) (hb : b ≤ 1000000000) (h0 : 0 < n) (h1 : Bd 8000 n) (q : ∀ r l', 0 ≤ r → r < n → Tin (b + 1) l' → Φ (.int r) ((p, l') :: R)) : cTake [.cell p, .int n] ((p, l) :: R) Φ := ⟨p, b, l, R, n, rfl, rfl, h, hb, h0, h1, q⟩
section
variable {X : Cx} {ρ : Ro} {S : Sto} {pos tpos : Pos} {e o i : Expr} {E : DEnds}
theorem ds_storeH (hs : swapsWithSole [.Subscript o i tpos] e pos.line X.env = pure false) (hw : swappedStores [.Subscript o i tpos] e X.env = pure none) (h1 : (assignEach [.Subscript o i tpos] X.env).map (·.2) = [assign (.Subscript o i tpos) X.env])
    (ha : ∀ v, assign (.Subscript o i tpos) X.env v = (do
      let ov ← holding [v] (eval o X.env)
      let iv ← holding [v, ov] (eval i X.env)
      standAt tpos
      holding [v, ov, iv] (setItem ov iv v)
      release [v, ov, iv] []))
    (h : DE X e ρ S fun d S1 => DE X o ρ S1 fun c S2 => DE X i ρ S2 fun j S3 => ∃ p l B n m, c = .cell p ∧ S3 = (p, l) :: B ∧ j = .int n ∧ ixN l.length n = some m ∧ E.nx ρ ((p, l.set m d) :: B)) : DS X (.Assign [.Subscript o i tpos] e pos) ρ S E :=
  ds_store hs hw h1 ha (h.mono fun d S1 h => h.mono fun c S2 h => h.mono fun j S3 ⟨p, l, B, n, m, e1, e2, e3, e4, q⟩ => ⟨p, [], l, B, n, m, e1, e2, e3, e4, q⟩)
end
theorem Bd.ofBool {c : Bool} : Bd 64 (if c = true then 1 else 0) := by
  cases c <;> exact Bd.lit rfl
def cBoxN : SpecN := fun ds S Φ => ∃ (is : List Int) (k : Int), ds = [.lst (is.map D.int), .int k] ∧ 0 ≤ k ∧ k < 100 ∧ is.length ≤ 100 ∧ ∀ l', Tin 0 l' → Φ l' S
def cCells : Spec := fun ds S Φ => ∃ (is : List Int) (n : Int), ds = [.frz (is.map D.int), .int n] ∧ 0 < n ∧ n < 64 ∧ is.length ≤ 63 ∧ ∀ js : List Int, js.length ≤ 63 → Φ (.lst (js.map D.int)) S
def cOf : Spec := fun ds S Φ => ∃ p b l R g n, ds = [.cell p, g] ∧ S = (p, l) :: R ∧ Tin b l ∧ b ≤ 1000000000 ∧ OkC [] g ∧ LenD [] g n ∧ 0 < n ∧ n < 1000000 ∧ ∀ (r : Int) l', 0 ≤ r → r < n → Tin (b + 1) l' → ∃ e, IxD [] g (.int r) e ∧ Φ e ((p, l') :: R)
def cWhole : Spec := fun ds S Φ => ∃ p b l R n, ds = [.cell p, .int n] ∧ S = (p, l) :: R ∧ Tin b l ∧ b ≤ 1000000 ∧ 0 ≤ n ∧ Bd 1000 n ∧ ∀ r l', Bd 1100 r → (n < 100000000 → -n ≤ r ∧ r ≤ n) → Tin (b + 2) l' → Φ (.int r) ((p, l') :: R)
theorem cWhole_i {p : Addr} {b : Nat} {l : List D} {R : Sto} {n : Int} {Φ} (h : Tin b l) (hb : b ≤ 1000000) (h0 : 0 ≤ n) (h1 : Bd 1000 n) (q : ∀ r l', Bd 1100 r → (n < 100000000 → -n ≤ r ∧ r ≤ n) → Tin (b + 2) l' → Φ (.int r) ((p, l') :: R)) : cWhole [.cell p, .int n] ((p, l) :: R) Φ := ⟨p, b, l, R, n, rfl, rfl, h, hb, h0, h1, q⟩
def cDeed : Spec := fun ds S Φ => ∃ p b l R n, ds = [.cell p, .int n] ∧ S = (p, l) :: R ∧ Tin b l ∧ b ≤ 100000 ∧ 0 ≤ n ∧ Bd 1000 n ∧ ∀ x y z l', Bd 1100 x → Bd 1100 y → Bd 1100 z → Tin (b + 6) l' → Φ (t3 x y z) ((p, l') :: R)
theorem cDeed_i {p : Addr} {b : Nat} {l : List D} {R : Sto} {n : Int} {Φ} (h : Tin b l) (hb : b ≤ 100000) (h0 : 0 ≤ n) (h1 : Bd 1000 n) (q : ∀ x y z l', Bd 1100 x → Bd 1100 y → Bd 1100 z → Tin (b + 6) l' → Φ (t3 x y z) ((p, l') :: R)) : cDeed [.cell p, .int n] ((p, l) :: R) Φ := ⟨p, b, l, R, n, rfl, rfl, h, hb, h0, h1, q⟩
def cWord : Spec := fun ds S Φ => ∃ p b l R n, ds = [.cell p, .int n] ∧ S = (p, l) :: R ∧ Tin b l ∧ b ≤ 100000 ∧ 0 ≤ n ∧ n ≤ 1000 ∧ ∀ cs l', LetW cs → (cs.length : Int) = n → Tin (b + n.toNat) l' → Φ (.str (wd cs)) ((p, l') :: R)
mutual
def noFrz : D → Bool
  | .frz _ => false
  | .tup l => noFrzL l
  | .lst l => noFrzL l
  | _ => true
def noFrzL : List D → Bool
  | [] => true
  | d :: l => noFrz d && noFrzL l
end
def cSame (n : Nat) : Spec := fun ds S Φ => ∃ d, ds = [d, d] ∧ fitD n d = true ∧ noFrz d = true ∧ Φ (.bl true) S
theorem cSame_i {n : Nat} {d d' : D} {S : Sto} {Φ} (e : d = d') (h : fitD n d = true) (h2 : noFrz d = true) (q : Φ (.bl true) S) : cSame n [d, d'] S Φ := ⟨d, by rw [e], h, h2, q⟩
section
variable {X : Cx} {ρ : Ro} {S : Sto} {Φ : D → Sto → Prop} {P : Program} {w : World} {K : PySem.W.Frag} {mg : Str → Option Value} {base : Heap} {tb : List (Str × Nat)} {names : List (Str × NameKind)} {k : Nat}
theorem eqv_t3 {x y z p q s : Int} : PyData.eqv (toPy (t3 x y z)) (toPy (t3 p q s)) = decide ((x, y, z) = (p, q, s)) := by
  simp only [toPy, toPyL, PyData.eqv, PyData.eqvAll]
  by_cases h1 : x = p <;> by_cases h2 : y = q <;> by_cases h3 : z = s <;> simp [h1, h2, h3]
theorem do_eqT3 {x y z p q s : Int} (A : At X P w K mg base tb names k) (h : Φ (.bl (decide ((x, y, z) = (p, q, s)))) S) : DO X (compareOp .Eq) (t3 x y z) (t3 p q s) S Φ := do_eqD A rfl (by rw [eqv_t3]; exact h)
/-- a written list against [] -/
theorem do_neNil {c : Addr} (A : At X P w K mg base tb names k) (h : ∃ l, (c, l) ∈ S ∧ eqOk (.lst l) = true ∧ Φ (.bl (!l.isEmpty)) S) : DO X (compareOp .NotEq) (.cell c) (.lst []) S Φ := by
  obtain ⟨l, hm, he, q⟩ := h
  refine do_neC A ⟨l, hm, by rw [he]; rfl, ?_⟩
  have e : PyData.eqv (toPy (.lst l)) (toPy (.lst [])) = l.isEmpty := by
    cases l with
    | nil => simp [toPy, toPyL, PyData.eqv, PyData.eqvAll]
    | cons d l => simp [toPy, toPyL, PyData.eqv, PyData.eqvAll]
  rw [e]
  exact q
end
theorem ltr_ruld {c : Nat} (h : Ltr c) : decide (c ∈ (Str.ofString "ruld").cps.toList) = true := by
  rcases h with rfl | rfl | rfl | rfl <;> rfl
/-! ### runs -/
abbrev Run := Nat × Int
abbrev rn (r : Run) : D := .tup [ch r.1, .int r.2]
abbrev sRun (a b : Nat) (m : Int) : Run := (if 0 ≤ m then a else b, if 0 ≤ m then m else -m)
def runTog : List Run → List Run → List Run
  | acc, [] => acc
  | acc, r :: l => if 0 < r.2 then (match acc.getLast? with
      | some u => if u.1 = r.1 then runTog (acc.dropLast ++ [(r.1, u.2 + r.2)]) l else runTog (acc ++ [r]) l
      | none => runTog (acc ++ [r]) l) else runTog acc l
def doR : List Run → T3 → T3
  | [], t => t
  | r :: l, t => doR l (t.1 + dx r.1 * r.2, t.2.1 + dy r.1 * r.2, t.2.2 + t.1 * dy r.1 * r.2)
def LetR (l : List Run) : Prop := ∀ r, r ∈ l → Ltr r.1
/-- good runs: at most 200, letters, positive, neighbours unlike -/
def GoodR (l : List Run) : Prop := l.length ≤ 200 ∧ (∀ r, r ∈ l → Ltr r.1 ∧ 0 < r.2) ∧ ∀ i r u, l[i]? = some r → l[i + 1]? = some u → r.1 ≠ u.1
def cSigned : Spec := fun ds S Φ => ∃ a b m, ds = [.str ⟨#[a, b]⟩, .int m] ∧ Φ (rn (sRun a b m)) S
def cTogether : Spec := fun ds S Φ => ∃ l : List Run, ds = [.lst (l.map rn)] ∧ l.length ≤ 100 ∧ LetR l ∧ Φ (.tup ((runTog [] l).map rn)) S
def cByRuns : Spec := fun ds S Φ => ∃ l : List Run, ds = [.tup (l.map rn)] ∧ l.length ≤ 200 ∧ (∀ r, r ∈ l → Ltr r.1 ∧ Bd 2000 r.2) ∧ Φ (d3 (doR l (0, 0, 0))) S
def cGoodR (f : List Run → D) : Spec := fun ds S Φ => ∃ l : List Run, ds = [.tup (l.map rn)] ∧ GoodR l ∧ (∀ r, r ∈ l → Bd 2000 r.2) ∧ Φ (f l) S
def rowsOf (x y z : Int) : List Run := [sRun 117 100 y, sRun 114 108 x] ++ (if z ≠ 0 then [(114, 1), sRun 117 100 z, (108, 1), sRun 100 117 z] else [])
theorem runTog_skip {acc : List Run} {r : Run} {l : List Run} (h : ¬ 0 < r.2) : runTog acc (r :: l) = runTog acc l := by
  rw [runTog, if_neg h]
theorem runTog_nil {r : Run} {l : List Run} (h : 0 < r.2) : runTog [] (r :: l) = runTog [r] l := by
  rw [runTog, if_pos h]
  rfl
theorem runTog_eq {ini : List Run} {u r : Run} {l : List Run} (h : 0 < r.2) (e : u.1 = r.1) : runTog (ini ++ [u]) (r :: l) = runTog (ini ++ [(r.1, u.2 + r.2)]) l := by
  rw [runTog, if_pos h, List.getLast?_concat]
  simp only [e, if_true, List.dropLast_concat]
theorem runTog_ne {ini : List Run} {u r : Run} {l : List Run} (h : 0 < r.2) (e : u.1 ≠ r.1) : runTog (ini ++ [u]) (r :: l) = runTog (ini ++ [u] ++ [r]) l := by
  rw [runTog, if_pos h, List.getLast?_concat]
  simp only [e, if_false]
theorem ixN_last {α : Type} {ini : List α} {u : α} : ixN (ini ++ [u]).length (-1) = some ini.length := by
  unfold ixN
  rw [List.length_append, List.length_singleton, if_neg (by omega), if_pos (by omega)]
  congr 1
  omega
theorem atI_last {α : Type} {ini : List α} {u : α} : atI (ini ++ [u]) (-1) = some u := by
  unfold atI
  rw [ixN_last]
  show (ini ++ [u])[ini.length]? = some u
  rw [List.getElem?_append_right (Nat.le_refl _), Nat.sub_self]
  rfl
theorem set_last {α : Type} {ini : List α} {u v : α} : (ini ++ [u]).set ini.length v = ini ++ [v] := by
  rw [List.set_append_right _ _ (Nat.le_refl _), Nat.sub_self]
  rfl
theorem ltr_small {c : Nat} (h : Ltr c) : decide (c < 0x110000) = true := by
  rcases h with rfl | rfl | rfl | rfl <;> rfl
theorem runs_plain : ∀ {l : List Run}, plainL (l.map rn) = true
  | [] => by simp [plainL]
  | r :: l => by
    rw [List.map_cons]
    unfold plainL
    rw [runs_plain (l := l)]
    rfl
theorem runs_lay : ∀ {l : List Run}, LetR l → PyData.canLayAll0 (toPyL (l.map rn)) = true
  | [], _ => by simp [toPyL, PyData.canLayAll0]
  | r :: l, h => by
    rw [List.map_cons]
    have h1 := ltr_small (h r List.mem_cons_self)
    have h2 := runs_lay (l := l) fun u hu => h u (List.mem_cons_of_mem _ hu)
    simp only [toPyL, PyData.canLayAll0, h2, Bool.and_true]
    show PyData.canLay0 (toPy (rn r)) = true
    have h3 := of_decide_eq_true h1
    simp [toPy, toPyL, PyData.canLay0, PyData.canLayAll0, PyData.strOk, h3]
theorem runs_depth : ∀ {l : List Run}, PyData.depthAll (toPyL (l.map rn)) ≤ 1
  | [] => by simp [toPyL, PyData.depthAll]
  | r :: l => by
    have h := runs_depth (l := l)
    rw [List.map_cons]
    simp only [toPyL, PyData.depthAll]
    have e : PyData.depth (toPy (rn r)) = 1 := by simp [toPy, toPyL, PyData.depth, PyData.depthAll]
    rw [e]
    omega
theorem runs_ok {l : List Run} (h : LetR l) (hl : l.length ≤ 1000) : eqOk (.lst (l.map rn)) = true := by
  unfold eqOk
  rw [Bool.and_eq_true]
  constructor
  · unfold plainD
    rw [runs_plain, Bool.and_true]
    exact Nat.ble_eq.mpr (le_line (m := 1000) (by rw [List.length_map]; exact hl) rfl)
  · unfold SeqAt.shaped
    rw [Bool.and_eq_true]
    constructor
    · show PyData.canLayAll0 (toPyL (l.map rn)) = true
      exact runs_lay h
    · have := runs_depth (l := l)
      refine decide_eq_true ?_
      show PyData.depthAll (toPyL (l.map rn)) + 1 ≤ 64
      omega
theorem lt_line {n m : Nat} (h : n ≤ m) (k : Nat.ble m 1000000 = true) : n < sizeLine := by
  have := Nat.le_of_ble_eq_true k
  unfold sizeLine
  omega
theorem len_and {n : Nat} {B : Prop} (h : n < sizeLine) (q : B) : n < sizeLine ∧ B := ⟨h, q⟩
theorem le_and {n : Nat} {B : Prop} (h : n ≤ sizeLine) (q : B) : n ≤ sizeLine ∧ B := ⟨h, q⟩
theorem nil_or_last {α : Type} (l : List α) : l = [] ∨ ∃ ini u, l = ini ++ [u] := by
  cases l with
  | nil => exact .inl rfl
  | cons a l => exact .inr ⟨_, _, (List.dropLast_concat_getLast (List.cons_ne_nil a l)).symm⟩
theorem Bd.add2 {n : Nat} {x y : Int} (h : Bd n x) (k : Bd n y) : Bd (n + 1) (x + y) := by
  have z := h.add k
  rw [Nat.max_self] at z
  exact z
theorem Bd.dxm {n c : Nat} {k : Int} (h : Ltr c) (b : Bd n k) : Bd n (dx c * k) := by
  rcases h with rfl | rfl | rfl | rfl
  · show Bd n (1 * k)
    rw [Int.one_mul]
    exact b
  · show Bd n (0 * k)
    rw [Int.zero_mul]
    exact ⟨Nat.pow_pos (by decide)⟩
  · show Bd n (-1 * k)
    rw [Int.neg_one_mul]
    exact b.neg
  · show Bd n (0 * k)
    rw [Int.zero_mul]
    exact ⟨Nat.pow_pos (by decide)⟩
/-- a written list is read only from here on -/
theorem Ev.freeze {K : PySem.W.Frag} {Zh : List Addr} {H : Hp} {σ : L2.St} {ρ : Ro} {A B : Sto} {c : Addr} {l : List D} {i : Nat} (E : Ev K Zh H σ ρ (A ++ (c, l) :: B)) (h : ρ[i]? = some (some (.cell c))) : Ev K Zh H σ (ρ.set i (some (.lst l))) (A ++ B) := by
  have kk : keys (A ++ (c, l) :: B) = keys A ++ c :: keys B := by rw [keys_append]; rfl
  have sub : ∀ p, p ∈ keys (A ++ B) ++ Zh → p ∈ keys (A ++ (c, l) :: B) ++ Zh := fun p m => by
    rw [kk]
    rw [keys_append] at m
    rcases List.mem_append.mp m with m | m
    · rcases List.mem_append.mp m with m | m
      · exact List.mem_append_left _ (List.mem_append_left _ m)
      · exact List.mem_append_left _ (List.mem_append_right _ (List.mem_cons_of_mem _ m))
    · exact List.mem_append_right _ m
  have nd := E.st.nd
  rw [kk, List.nodup_append] at nd
  obtain ⟨n1, n2, n3⟩ := nd
  have n4 : c ∉ keys B ∧ (keys B).Nodup := List.nodup_cons.mp n2
  have hin : (c, l) ∈ A ++ (c, l) :: B := List.mem_append_right _ List.mem_cons_self
  refine ⟨⟨?_, fun p m hm => ?_, fun p hp => ?_⟩, by rw [List.length_set]; exact E.len, fun j d hj => ?_⟩
  · rw [keys_append, List.nodup_append]
    exact ⟨n1, n4.2, fun a ha b hb => n3 a ha b (List.mem_cons_of_mem _ hb)⟩
  · obtain ⟨vs, a, b⟩ := E.st.st p m (by
      rcases List.mem_append.mp hm with q | q
      · exact List.mem_append_left _ q
      · exact List.mem_append_right _ (List.mem_cons_of_mem _ q))
    exact ⟨vs, a, b.shrink sub⟩
  · obtain ⟨n, vs, e⟩ := E.st.hid p hp
    refine ⟨fun m => n ?_, vs, e⟩
    rw [keys_append] at m
    rw [kk]
    rcases List.mem_append.mp m with m | m
    · exact List.mem_append_left _ m
    · exact List.mem_append_right _ (List.mem_cons_of_mem _ m)
  · by_cases e : i = j
    · subst e
      obtain ⟨v, ev, rv⟩ := E.var i _ h
      have hl : i < ρ.length := (List.getElem?_eq_some_iff.mp h).1
      rw [List.getElem?_set_self hl] at hj
      cases hj
      refine ⟨v, ev, ?_⟩
      rw [rv.cell]
      obtain ⟨vs, a, b⟩ := E.st.st c l hin
      unfold Rep
      refine ⟨c, vs, rfl, fun m => ?_, a, b.shrink sub⟩
      rcases List.mem_append.mp m with m | m
      · rw [keys_append] at m
        rcases List.mem_append.mp m with m | m
        · exact n3 c m c List.mem_cons_self rfl
        · exact n4.1 m
      · exact (E.st.hid c m).1 (by rw [kk]; exact List.mem_append_right _ List.mem_cons_self)
    · rw [List.getElem?_set_ne e] at hj
      obtain ⟨v, ev, rv⟩ := E.var j d hj
      exact ⟨v, ev, rv.shrink sub⟩
theorem dss_freeze {X : Cx} {sts : List Stmt} {ρ : Ro} {A B : Sto} {c : Addr} {l : List D} {E : DEnds} (i : Nat) (h : ρ[i]? = some (some (.cell c))) (q : DSs X sts (ρ.set i (some (.lst l))) (A ++ B) E) : DSs X sts ρ (A ++ (c, l) :: B) E := fun Zh pins s σ H Dn I ev k => by
  have st : Step (A ++ (c, l) :: B) H (A ++ B) H := ⟨Grow.refl, fun p m => .inl (by
    rw [keys_append] at m ⊢
    rcases List.mem_append.mp m with m | m
    · exact List.mem_append_left _ m
    · exact List.mem_append_right _ (List.mem_cons_of_mem _ m))⟩
  exact q Zh pins s σ H Dn I (ev.freeze h) (k.next st)
theorem stepF_ltr {c : Nat} (h : Ltr c) : stepF ⟨#[c]⟩ = some (.tup [.int (dx c), .int (dy c)]) := by
  rcases h with rfl | rfl | rfl | rfl <;> rfl
theorem bd_dx {c : Nat} (h : Ltr c) : Bd 64 (dx c) := by
  rcases h with rfl | rfl | rfl | rfl <;> exact Bd.lit rfl
theorem bd_dy {c : Nat} (h : Ltr c) : Bd 64 (dy c) := by
  rcases h with rfl | rfl | rfl | rfl <;> exact Bd.lit rfl
theorem cut1 {α : Type} {f : α → D} {l : List α} : cutD (l.map f) (some 1) none = (l.drop 1).map f := by
  unfold cutD
  rw [← List.map_drop]
  cases l with
  | nil => simp [HT.sIx]
  | cons a l =>
    have e : HT.sIx (List.map f (a :: l)).length 0 (some 1) = 1 := by
      simp [HT.sIx]
    have e2 : HT.sIx (List.map f (a :: l)).length (List.map f (a :: l)).length none = (List.map f (a :: l)).length := rfl
    rw [e, e2, List.drop_one, List.length_map, List.length_cons, Nat.add_sub_cancel]
    show List.take l.length (l.map f) = l.map f
    exact List.take_of_length_le (by rw [List.length_map]; exact Nat.le_refl _)
theorem zip_next {f : Run → D} : ∀ {l : List Run} {d : D}, d ∈ zipD (l.map f) ((l.drop 1).map f) → ∃ i r u, l[i]? = some r ∧ l[i + 1]? = some u ∧ d = .tup [f r, f u]
  | [], d, h => by cases h
  | [a], d, h => by cases h
  | a :: b :: l, d, h => by
    have h2 : d = .tup [f a, f b] ∨ d ∈ zipD ((b :: l).map f) (((b :: l).drop 1).map f) := List.mem_cons.mp h
    rcases h2 with e | h2
    · exact ⟨0, a, b, rfl, rfl, e⟩
    · obtain ⟨i, r, u, h3, h4, h5⟩ := zip_next h2
      exact ⟨i + 1, r, u, h3, h4, h5⟩
theorem dss_box {X : Cx} {st : Stmt} {sts : List Stmt} {ρ : Ro} {S : Sto} {E : DEnds} (h : DS X st ρ S { E with nx := fun r s => Box (DSs X sts r s E) }) : DSs X (st :: sts) ρ S E :=
  ds_cons (h.mono (fun _ _ z => z.get) (fun _ _ z => z) (fun _ _ z => z) (fun _ _ z => z))
theorem nrm_runs : ∀ l : List Run, nrmL (l.map rn) = l.map rn
  | [] => by simp [nrmL]
  | t :: l => by
    rw [List.map_cons]
    unfold nrmL
    rw [nrm_runs l]
    rw [show nrm (rn t) = rn t by simp [nrm, nrmL]]
theorem fit_runs : ∀ l : List Run, fitL 1 (l.map rn) = true
  | [] => by simp [fitL]
  | t :: l => by
    rw [List.map_cons]
    unfold fitL
    rw [fit_runs l]
    rfl
theorem runs_plainT {l : List Run} (h : l.length ≤ 1000) : plainD (.tup (l.map rn)) = true := by
  unfold plainD
  rw [runs_plain, Bool.and_true]
  exact Nat.ble_eq.mpr (le_line (m := 1000) (by rw [List.length_map]; exact h) rfl)
theorem ltr_sRun {a b : Nat} {m : Int} (ha : Ltr a) (hb : Ltr b) : Ltr (sRun a b m).1 := by
  show Ltr (if 0 ≤ m then a else b)
  split
  · exact ha
  · exact hb
theorem ltr_rows {x y z : Int} : LetR (rowsOf x y z) := by
  have r : Ltr 114 := .inl rfl
  have u : Ltr 117 := .inr (.inl rfl)
  have l : Ltr 108 := .inr (.inr (.inl rfl))
  have d : Ltr 100 := .inr (.inr (.inr rfl))
  unfold rowsOf
  intro t ht
  split at ht
  · simp only [List.cons_append, List.nil_append, List.mem_cons, List.not_mem_nil, or_false] at ht
    rcases ht with rfl | rfl | rfl | rfl | rfl | rfl
    · exact ltr_sRun u d
    · exact ltr_sRun r l
    · exact r
    · exact ltr_sRun u d
    · exact l
    · exact ltr_sRun d u
  · simp only [List.append_nil, List.mem_cons, List.not_mem_nil, or_false] at ht
    rcases ht with rfl | rfl
    · exact ltr_sRun u d
    · exact ltr_sRun r l
theorem rows_len {x y z : Int} : (rowsOf x y z).length ≤ 6 := by
  unfold rowsOf
  split <;> simp
theorem le_line6 {n : Nat} (h : n ≤ 1000000) : n ≤ sizeLine := le_line h rfl
theorem lt_line6 {n : Nat} (h : n ≤ 1000000) : n < sizeLine := lt_line h rfl
section
variable {X : Cx} {S : Sto} {Φ : D → Sto → Prop}
theorem do_p7 (q : Φ (.int 10000000) S) : DO X (binaryOp .Pow) (.int 10) (.int 7) S Φ := do_pow ⟨by decide, by decide, by decide⟩ q
theorem do_p8 (q : Φ (.int 100000000) S) : DO X (binaryOp .Pow) (.int 10) (.int 8) S Φ := do_pow ⟨by decide, by decide, by decide⟩ q
theorem do_p18 (q : Φ (.int 1000000000000000000) S) : DO X (binaryOp .Pow) (.int 10) (.int 18) S Φ := do_pow ⟨by decide, by decide, by decide⟩ q
theorem do_p20 (q : Φ (.int 100000000000000000000) S) : DO X (binaryOp .Pow) (.int 10) (.int 20) S Φ := do_pow ⟨by decide, by decide, by decide⟩ q
theorem do_p29 (q : Φ (.int 100000000000000000000000000000) S) : DO X (binaryOp .Pow) (.int 10) (.int 29) S Φ := do_pow ⟨by decide, by decide, by decide⟩ q
end
theorem Bd.emod {n : Nat} {x y : Int} (h0 : 0 < y) (h : Bd n y) : Bd n (x % y) := Bd.lt2 (Int.emod_nonneg _ (by omega)) (Int.emod_lt_of_pos _ h0) h
theorem LenD.nil {S : Sto} {g : D} {n : Nat} (h : LenD [] g n) : LenD S g n := by
  cases g with
  | cell p =>
    obtain ⟨l, m, _⟩ := h
    cases m
  | _ => exact h
theorem IxD.nil {S : Sto} {g e : D} {i : D} (h : IxD [] g i e) : IxD S g i e := by
  cases i with
  | int i =>
    cases g with
    | cell p =>
      obtain ⟨l, m, _⟩ := h
      cases m
    | _ => exact h
  | _ => cases g <;> exact (show False from h).elim
abbrev fLead (x y z p q s : Int) : D := t3 (p + x + -p) (q + y + -q) (s + z + p * y + (p * q - s) + (p + x) * -q)
theorem str_one {c : Nat} {cs : List Nat} : (⟨#[c]⟩ : Str) ++ wd cs = wd (c :: cs) := by
  show (⟨#[c] ++ cs.toArray⟩ : Str) = _
  congr 1
  simp
theorem str_nil {x : Str} : x ++ (Str.ofString "") = x := by
  obtain ⟨a⟩ := x
  show (⟨a ++ (Str.ofString "").cps⟩ : Str) = _
  have e : (Str.ofString "").cps = #[] := by rfl
  rw [e, Array.append_empty]
theorem sjoin_wd : ∀ cs : List Nat, Str.join (Str.ofString "") (cs.map fun c => (⟨#[c]⟩ : Str)) = wd cs
  | [] => rfl
  | [c] => rfl
  | c :: d :: cs => by
    show (⟨#[c]⟩ : Str) ++ (Str.ofString "") ++ Str.join (Str.ofString "") ((d :: cs).map fun c => (⟨#[c]⟩ : Str)) = _
    rw [sjoin_wd (d :: cs), str_nil, str_one]
theorem join_wd (cs : List Nat) : Txt.join (Str.ofString "") (cs.map fun c => (⟨#[c]⟩ : Str)) = wd cs := by
  show Builtin.Str.glued (Str.ofString "") _ = _
  rw [StrLaws.glued_eq_join]
  exact sjoin_wd cs
theorem sum_ones : ∀ cs : List Nat, ((cs.map fun c => (⟨#[c]⟩ : Str)).map (·.length)).sum = cs.length
  | [] => rfl
  | c :: cs => by
    have := sum_ones cs
    simp only [List.map_cons, List.sum_cons, List.length_cons, this]
    show 1 + cs.length = cs.length + 1
    omega
theorem zip_self : ∀ {l : List D} {d : D}, d ∈ zipD l l → ∃ x, x ∈ l ∧ d = .tup [x, x]
  | [], d, h => by cases h
  | a :: l, d, h => by
    have h2 : d = .tup [a, a] ∨ d ∈ zipD l l := List.mem_cons.mp h
    rcases h2 with e | h2
    · exact ⟨a, List.mem_cons_self, e⟩
    · obtain ⟨x, h3, h4⟩ := zip_self h2
      exact ⟨x, List.mem_cons_of_mem _ h3, h4⟩
theorem noFrz_in {l : List D} (h : noFrzL l = true) : ∀ d, d ∈ l → noFrz d = true := fun d hd => by
  induction l with
  | nil => cases hd
  | cons c l ih =>
    unfold noFrzL at h
    rw [Bool.and_eq_true] at h
    rcases List.mem_cons.mp hd with e | e
    · rw [e]; exact h.1
    · exact ih h.2 e
theorem all_true {α : Type} (l : List α) : (l.map fun _ => true).all id = true := by
  rw [List.all_map, List.all_eq_true]
  intro t _
  rfl
theorem ds_retCN {X : Cx} {ρ : Ro} {S S0 : Sto} {Φ : List D → Sto → Prop} {e : Expr} {pos : Pos} {nx bk ct : Ro → Sto → Prop} (h : DN X e ρ S fun l S1 => ∀ c, RetC S0 Φ (.cell c) (S1 ++ [(c, l)])) : DS X (.Return (some e) pos) ρ S ⟨nx, RetC S0 Φ, bk, ct⟩ := ds_retCell h
theorem atI_ok {α : Type} {l : List α} {k : Int} (h0 : 0 ≤ k) (h : k < l.length) : ∃ x, l[k.toNat]? = some x ∧ atI l k = some x := by
  have hk : k.toNat < l.length := by omega
  refine ⟨l[k.toNat], List.getElem?_eq_getElem hk, ?_⟩
  unfold atI ixN
  rw [if_pos h0, if_pos h]
  exact List.getElem?_eq_getElem hk
theorem ixN_ok {n : Nat} {k : Int} (h0 : 0 ≤ k) (h : k < n) : ixN n k = some k.toNat := by
  unfold ixN
  rw [if_pos h0, if_pos h]
theorem enum_ints : ∀ {is : List Int} {n : Nat} {d : D}, d ∈ enumD n (is.map D.int) → ∃ (j : Nat) (x : Int), d = .tup [.int (j : Int), .int x] ∧ n ≤ j ∧ j < n + is.length
  | [], n, d, h => by cases h
  | a :: l, n, d, h => by
    have h2 : d = .tup [.int (n : Int), .int a] ∨ d ∈ enumD (n + 1) (l.map D.int) := List.mem_cons.mp h
    rw [List.length_cons]
    rcases h2 with e | h2
    · exact ⟨n, a, e, Nat.le_refl _, by omega⟩
    · obtain ⟨j, x, e, h3, h4⟩ := enum_ints h2
      exact ⟨j, x, e, by omega, by omega⟩
theorem cut_hi {is : List Int} {n : Int} (h : 0 ≤ n) : ∃ js : List Int, cutD (is.map D.int) none (some n) = js.map D.int ∧ js.length = min n.toNat is.length := by
  unfold cutD
  rw [← List.map_drop, ← List.map_take]
  refine ⟨_, rfl, ?_⟩
  have e1 : HT.sIx (is.map D.int).length 0 none = 0 := rfl
  have e2 : HT.sIx (is.map D.int).length (is.map D.int).length (some n) = min n.toNat (is.map D.int).length := by
    show (if n < 0 then _ else _) = _
    rw [if_neg (by omega)]
  rw [e1, e2, List.length_take, List.length_drop, List.length_map]
  omega
theorem cut_mid {is : List Int} {n m : Int} (h : 0 ≤ n) : ∃ js : List Int, cutD (is.map D.int) (some n) (some m) = js.map D.int ∧ js.length ≤ is.length - n.toNat := by
  unfold cutD
  rw [← List.map_drop, ← List.map_take]
  refine ⟨_, rfl, ?_⟩
  have e1 : HT.sIx (is.map D.int).length 0 (some n) = min n.toNat (is.map D.int).length := by
    show (if n < 0 then _ else _) = _
    rw [if_neg (by omega)]
  rw [e1, List.length_take, List.length_drop, List.length_map]
  omega
theorem DN.mono {X : Cx} {ρ : Ro} {S : Sto} {e : Expr} {Φ Ψ : List D → Sto → Prop} (h : DN X e ρ S Φ) (k : ∀ l S1, Φ l S1 → Ψ l S1) : DN X e ρ S Ψ := fun Zh pins s σ H Q I E P => h Zh pins s σ H Q I E fun c vs H' l S' k1 g s1 hc h1 r q => P c vs H' l S' k1 g s1 hc h1 r (k _ _ q)
theorem int_mem {js : List Int} {k : Nat} {d : D} (h : (js.map D.int)[k]? = some d) : ∃ x, d = .int x := by
  rw [List.getElem?_map] at h
  cases e : js[k]? with
  | none => rw [e] at h; cases h
  | some x =>
    rw [e] at h
    exact ⟨x, (Option.some.inj h).symm⟩
end Ar
namespace Ar
open PySem PySem.Spec PyProof.Rows L2
/-! ### text[::-1] -/
theorem pe_revS {X : Cx} {e : Expr} {te : TE} {k : Nat} {p1 p2 p3 pos : Pos} (he : PE X e te) : PE X (.Subscript e (.Slice none none (some (.UnaryOp .USub (.Constant (.int 1) k p1) p2)) p3) pos) (fun σ H Q => te σ H fun x H1 => ∃ z, x = .str z ∧ z.length ≤ sizeLine ∧ Q (.str ⟨z.cps.toList.reverse.toArray⟩) H1) := by
  refine ⟨fun pins s σ H Q I h => ?_⟩
  refine Subscript_ (thn (he.run pins s σ H _ I h) fun v s1 ⟨x, H1, I1, r1, q1⟩ => ?_)
  obtain ⟨z, ex, hz, q⟩ := q1
  subst ex
  obtain ⟨t, rfl⟩ := r1
  have hst : PO X (some (.UnaryOp .USub (.Constant (.int 1) k p1) p2)) (tPart (tUn (rU fun i => .int (-i)) (tC (.int 1)))) := po_some (pe_un un_neg pe_int)
  refine wpAny_Slice (thn (po_none.run pins s1 σ H1 (fun o H2 => o = none ∧ H2 = H1) I1 ⟨rfl, rfl⟩) fun vl s2 ⟨l, H2, I2, pl, el, e2⟩ => ?_)
  subst el e2
  refine thn (po_none.run pins s2 σ H2 (fun o H3 => o = none ∧ H3 = H2) I2 ⟨rfl, rfl⟩) fun vu s3 ⟨u, H3, I3, pu, eu, e3⟩ => ?_
  subst eu e3
  refine thn (hst.run pins s3 σ H3 (fun o H4 => o = some (-1) ∧ H4 = H3) I3 ⟨1, rfl, -1, rfl, rfl, rfl⟩) fun vs s4 ⟨o, H4, I4, ps, eo, e4⟩ => ?_
  subst eo e4
  have I5 : Inv X pins σ H4 { s4 with heap := s4.heap.push { cls := .type "slice", data := .fields #[vl, vu, vs] } } := I4.kept (t' := s4.toks) fun b ob q => Heap.get?_push_of_some _ q
  show wpAny (model X.prog X.w) X.A (subscriptTail e (.Slice none none (some (.UnaryOp .USub (.Constant (.int 1) k p1) p2)) p3) (.str z t) (.ref s4.heap.objs.size)) (EP X pins σ Q) X.xe { s4 with heap := s4.heap.push { cls := .type "slice", data := .fields #[vl, vu, vs] } }
  refine tail_any (ops := [.str z t, .ref s4.heap.objs.size]) (typeIs_str _ _ _) (PySem.F.slot_str_getitem.lookup) ?_ (by with_unfolding_all rfl)
  obtain ⟨l, rfl, hl⟩ := IsPart.raw pl
  obtain ⟨u, rfl, hu⟩ := IsPart.raw pu
  obtain ⟨st, rfl, hs⟩ := IsPart.raw ps
  cases l with
  | some l => cases hl
  | none =>
    cases u with
    | some u => cases hu
    | none =>
      cases st with
      | none => cases hs
      | some st =>
        obtain ⟨i, ti⟩ := st
        have hi : i = -1 := Option.some.inj hs
        subst hi
        obtain ⟨os, hos, hcs, hds⟩ := Heap.IsSliceOf.new s4.heap (partValue none) (partValue none) (partValue (some (-1, ti)))
        refine wpAny_getItem_str_slice (l := none) (u := none) (st := some (-1, ti)) ⟨os, hos, hcs, hds⟩ rfl ?_
        have e1 : (slicePicked z none none (some (-1, ti))).filterMap (z.cps[·]?) = z.cps.toList.reverse := by
          unfold slicePicked
          show (Builtin.Str.strSliceIndices none none (-1) z.length).filterMap (z.cps[·]?) = _
          rw [picked_rev, filterMap_get _ _ (fun i hi => by
            obtain ⟨k, hk, rfl⟩ := List.mem_map.mp hi
            have := List.mem_range.mp hk
            show z.length - 1 - k < z.length
            omega)]
          rw [List.map_map]
          apply List.ext_getElem
          · simp [Str.length]
          · intro j h1 h2
            have hj : j < z.cps.size := by simpa [Str.length] using h1
            simp only [List.getElem_map, List.getElem_range, Function.comp_apply, List.getElem_reverse, Array.getElem_toList, Array.length_toList]
            show z.cps.getD (z.cps.size - 1 - j) 0 = _
            simp [Array.getD, show z.cps.size - 1 - j < z.cps.size by omega]
        unfold sliceMade
        rw [e1]
        rw [if_neg (by simp)]
        exact ⟨by show z.cps.toList.reverse.toArray.size ≤ _; rw [List.size_toArray, List.length_reverse, Array.length_toList]; exact hz, .str _, H4, I5.tok _, ⟨_, rfl⟩, q⟩
section
variable {X : Cx} {ρ : Ro} {S : Sto} {Φ : D → Sto → Prop} {P : Program} {w : World} {K : PySem.W.Frag} {mg : Str → Option Value} {base : Heap} {tb : List (Str × Nat)} {names : List (Str × NameKind)} {k : Nat} {pos p1 p2 p3 : Pos} {e : Expr} {kk : Nat}
theorem de_revS (h : DE X e ρ S fun d S1 => ∃ z, d = .str z ∧ z.length ≤ sizeLine ∧ Φ (.str ⟨z.cps.toList.reverse.toArray⟩) S1) : DE X (.Subscript e (.Slice none none (some (.UnaryOp .USub (.Constant (.int 1) kk p1) p2)) p3) pos) ρ S Φ := DE.of (pe_revS pe_w) fun Zh σ H Q E P => h.bind E fun v H1 d S1 k1 g1 E1 r1 h1 => by
  obtain ⟨z, rfl, hz, q⟩ := h1
  exact ⟨z, r1.str, hz, (P.next k1 g1).here E1.st rep_str q⟩
/-! ### {"a": "b", ..}[e], four pairs -/
theorem dlit4 {a1 a2 a3 a4 b1 b2 b3 b4 : Str} {i1 i2 i3 i4 j1 j2 j3 j4 : Nat} {s1 s2 s3 s4 t1 t2 t3 t4 dp : Pos} : PE X (.Dict [some (.Constant (.str a1) i1 s1), some (.Constant (.str a2) i2 s2), some (.Constant (.str a3) i3 s3), some (.Constant (.str a4) i4 s4)] [.Constant (.str b1) j1 t1, .Constant (.str b2) j2 t2, .Constant (.str b3) j3 t3, .Constant (.str b4) j4 t4] dp)
   (tDisp [(tC (.str a1), tC (.str b1)), (tC (.str a2), tC (.str b2)), (tC (.str a3), tC (.str b3)), (tC (.str a4), tC (.str b4))]) :=
  pe_disp (pps_cons pe_str pe_str (pps_cons pe_str pe_str (pps_cons pe_str pe_str (pps_cons pe_str pe_str pps_nil)))) rfl rfl (List.cons_ne_nil _ _) (Nat.le_of_ble_eq_true rfl)
theorem disp4 {a1 a2 a3 a4 b1 b2 b3 b4 : Str} {σ : L2.St} {H : Hp} {Q : VK} (h : ∀ p, H p = none → Q (.ref p) (upd (upd H p (.dK [])) p (.dK (mergeK [] [(Sum.inr a1, V.str b1), (Sum.inr a2, V.str b2), (Sum.inr a3, V.str b3), (Sum.inr a4, V.str b4)])))) :
  tDisp [(tC (.str a1), tC (.str b1)), (tC (.str a2), tC (.str b2)), (tC (.str a3), tC (.str b3)), (tC (.str a4), tC (.str b4))] σ H Q := fun p hp => ⟨upd_same, [(Sum.inr a1, V.str b1), (Sum.inr a2, V.str b2), (Sum.inr a3, V.str b3), (Sum.inr a4, V.str b4)], rfl, Nat.le_of_ble_eq_true rfl, h p hp⟩
/-! ### {"a": "b", ..}[e], four pairs -/
theorem tA {o : Expr} {td : TE} (p0 : PE X o td) (hs : NoSl e) (hu : X.A.units + 1 < cLine) : PE X (.Subscript o e pos) (tDGet td (tW X e)) := pe_dget hu p0 pe_w hs
theorem tB {o : Expr} {td : TE} (p0 : PE X o td) (hs : NoSl e) (hu : X.A.units + 1 < cLine) (h : ∀ Zh σ H Q, Ev X.K Zh H σ ρ S → Post X.K Zh H S Φ Q → tDGet td (tW X e) σ H Q) : DE X (.Subscript o e pos) ρ S Φ := DE.of (tA p0 hs hu) h
theorem de_dlit4 {a1 a2 a3 a4 b1 b2 b3 b4 : Str} {i1 i2 i3 i4 j1 j2 j3 j4 : Nat} {s1 s2 s3 s4 t1 t2 t3 t4 dp : Pos} (A : At X P w K mg base tb names k) (hs : NoSl e)
    (h : DE X e ρ S fun d S1 => ∃ z r, d = .str z ∧ valV (mergeK [] [(Sum.inr a1, V.str b1), (Sum.inr a2, V.str b2), (Sum.inr a3, V.str b3), (Sum.inr a4, V.str b4)]) (Sum.inr z) = some (V.str r) ∧ Φ (.str r) S1) :
    DE X (.Subscript (.Dict [some (.Constant (.str a1) i1 s1), some (.Constant (.str a2) i2 s2), some (.Constant (.str a3) i3 s3), some (.Constant (.str a4) i4 s4)] [.Constant (.str b1) j1 t1, .Constant (.str b2) j2 t2, .Constant (.str b3) j3 t3, .Constant (.str b4) j4 t4] dp) e pos) ρ S Φ := by
  have hu : X.A.units + 1 < cLine := Nat.lt_of_le_of_lt (Nat.add_le_add_left (Nat.le_of_ble_eq_true rfl) _) A.room.units
  have p0 := @dlit4 X a1 a2 a3 a4 b1 b2 b3 b4 i1 i2 i3 i4 j1 j2 j3 j4 s1 s2 s3 s4 t1 t2 t3 t4 dp
  generalize Expr.Dict _ _ _ = o at p0 ⊢
  refine tB p0 hs hu fun Zh σ H Q E P => ?_
  generalize hm : mergeK [] [(Sum.inr a1, V.str b1), (Sum.inr a2, V.str b2), (Sum.inr a3, V.str b3), (Sum.inr a4, V.str b4)] = m at h
  refine disp4 fun p hp => ?_
  rw [hm]
  have g0 : Grow (keys S) H (upd (upd H p (.dK [])) p (.dK m)) := fun b x n hb => by
    rw [upd_ne (ne_of_none hb hp), upd_ne (ne_of_none hb hp)]
    exact hb
  have st1 := E.st.keep (H' := upd (upd H p (.dK [])) p (.dK m)) fun b x hb => by
    rw [upd_ne (ne_of_none hb hp), upd_ne (ne_of_none hb hp)]
    exact hb
  have hpk : p ∉ keys S := fun m => by
    obtain ⟨vs, e1⟩ := E.st.zl p m
    rw [hp] at e1
    cases e1
  refine h.bind (E.next rfl g0 st1) fun v H1 d S1 k1 g1 E1 r1 h1 => ?_
  obtain ⟨z, r, rfl, hz, q⟩ := h1
  refine ⟨p, .str r, rfl, ?_, ((P.next rfl g0).next k1 g1).here E1.st rep_str q⟩
  rw [r1.str, ← hz]
  exact DGet.k (k := Sum.inr z) (g1 _ _ hpk upd_same)
end
end Ar
namespace Ar
open PySem PySem.Spec PyProof.Rows L2
/-! ### the plain law of k03 -/
abbrev Pr (k : Int) : Int := k * (k - 1) / 2
theorem pr_two (k : Int) : 2 * Pr k = k * (k - 1) := by
  have h : k * (k - 1) % 2 = 0 := by
    have h2 : k % 2 = 0 ∨ k % 2 = 1 := by omega
    rw [Int.mul_emod]
    rcases h2 with h2 | h2
    · rw [h2, Int.zero_mul]
      rfl
    · have : (k - 1) % 2 = 0 := by omega
      rw [this, Int.mul_zero]
      rfl
  show 2 * (k * (k - 1) / 2) = _
  omega
theorem pr_add (a b : Int) : Pr (a + b) = Pr a + Pr b + a * b := by
  have h1 := pr_two (a + b)
  have h2 := pr_two a
  have h3 := pr_two b
  have h : 2 * Pr (a + b) = 2 * (Pr a + Pr b + a * b) := by grind
  omega
theorem pr_three (a : Int) : Pr (3 * a) = 3 * Pr a + 3 * (a * a) := by
  have h1 := pr_two (3 * a)
  have h2 := pr_two a
  have h : 2 * Pr (3 * a) = 2 * (3 * Pr a + 3 * (a * a)) := by grind
  omega
theorem pr_neg (a : Int) : Pr (-a) = Pr a + a := by
  have h1 := pr_two (-a)
  have h2 := pr_two a
  have h : 2 * Pr (-a) = 2 * (Pr a + a) := by grind
  omega
/-! runs that do a deed -/
theorem doR_append : ∀ (l m : List Run) (t : T3), doR (l ++ m) t = doR m (doR l t)
  | [], m, t => rfl
  | r :: l, m, t => doR_append l m _
/-- two runs with one letter do as one -/
theorem doR_two {c : Nat} {a b : Int} {l : List Run} {t : T3} (h : Ltr c) : doR ((c, a + b) :: l) t = doR ((c, a) :: (c, b) :: l) t := by
  obtain ⟨x, y, z⟩ := t
  simp only [doR]
  congr 1
  rcases h with rfl | rfl | rfl | rfl <;> simp [dx, dy] <;> grind
theorem doR_tog : ∀ (l acc : List Run), LetR l → (∀ r, r ∈ l → 0 ≤ r.2) → LetR acc → doR (runTog acc l) (0, 0, 0) = doR (acc ++ l) (0, 0, 0)
  | [], acc, _, _, _ => by simp [runTog]
  | r :: l, acc, hl, h0, ha => by
    have hl' : LetR l := fun u hu => hl u (List.mem_cons_of_mem _ hu)
    have h0' : ∀ u, u ∈ l → 0 ≤ u.2 := fun u hu => h0 u (List.mem_cons_of_mem _ hu)
    have hr : Ltr r.1 := hl r List.mem_cons_self
    by_cases hk : 0 < r.2
    · rcases nil_or_last acc with rfl | ⟨ini, u, rfl⟩
      · rw [runTog_nil hk, doR_tog l [r] hl' h0' (fun v hv => by rw [List.mem_singleton.mp hv]; exact hr)]
        rfl
      · by_cases e : u.1 = r.1
        · rw [runTog_eq hk e, doR_tog l _ hl' h0' (fun v hv => by
            rcases List.mem_append.mp hv with q | q
            · exact ha v (List.mem_append_left _ q)
            · rw [List.mem_singleton.mp q]
              exact hr)]
          simp only [List.append_assoc, List.cons_append, List.nil_append, doR_append]
          show doR ((r.1, u.2 + r.2) :: l) _ = doR (u :: r :: l) _
          rw [doR_two hr]
          obtain ⟨a, b⟩ := u
          obtain ⟨c, d⟩ := r
          cases (show a = c from e)
          rfl
        · rw [runTog_ne hk e, doR_tog l _ hl' h0' (fun v hv => by
            rcases List.mem_append.mp hv with q | q
            · exact ha v q
            · rw [List.mem_singleton.mp q]
              exact hr)]
          rw [List.append_assoc]
          rfl
    · have hz : r.2 = 0 := by
        have := h0 r List.mem_cons_self
        omega
      rw [runTog_skip hk, doR_tog l acc hl' h0' ha, doR_append, doR_append]
      obtain ⟨a, b⟩ := r
      cases (show b = 0 from hz)
      show _ = doR l _
      simp
theorem rows_do (x y z : Int) : doR (rowsOf x y z) (0, 0, 0) = (x, y, z) := by
  unfold rowsOf sRun
  by_cases hx : 0 ≤ x <;> by_cases hy : 0 ≤ y <;> by_cases hz : 0 ≤ z <;> by_cases h0 : z = 0 <;> simp [hx, hy, hz, h0, doR, dx, dy] <;> grind
def Nb (l : List Nat) : Prop := ∀ (i : Nat) (a b : Nat), l[i]? = some a → l[i + 1]? = some b → a ≠ b
theorem nb_snoc {ini : List Nat} {a b : Nat} (h : Nb (ini ++ [a])) (hab : a ≠ b) : Nb (ini ++ [a] ++ [b]) := fun i c d h1 h2 => by
  by_cases hi : i + 1 < (ini ++ [a]).length
  · rw [List.getElem?_append_left (by omega)] at h1
    rw [List.getElem?_append_left hi] at h2
    exact h i c d h1 h2
  · have hl : i + 1 < (ini ++ [a] ++ [b]).length := (List.getElem?_eq_some_iff.mp h2).1
    simp only [List.length_append, List.length_cons, List.length_nil] at hi hl
    have hi2 : i = ini.length := by omega
    subst hi2
    have e1 : (ini ++ [a] ++ [b])[ini.length]? = some a := by
      rw [List.getElem?_append_left (by simp), List.getElem?_append_right (Nat.le_refl _), Nat.sub_self]
      rfl
    have e2 : (ini ++ [a] ++ [b])[ini.length + 1]? = some b := by
      rw [List.getElem?_append_right (by simp)]
      simp
    rw [e1] at h1
    rw [e2] at h2
    cases h1
    cases h2
    exact hab
structure Gd (N : Nat) (l : List Run) : Prop where
  each : ∀ r, r ∈ l → Ltr r.1 ∧ 0 < r.2 ∧ Bd N r.2
  nb : Nb (l.map (·.1))
theorem tog_good : ∀ (l acc : List Run) (N : Nat), (∀ r, r ∈ l → Ltr r.1 ∧ Bd N r.2) → Gd N acc → Gd (N + l.length) (runTog acc l) ∧ (runTog acc l).length ≤ acc.length + l.length
  | [], acc, N, _, ha => ⟨by simpa [runTog] using ha, by simp [runTog]⟩
  | r :: l, acc, N, hl, ha => by
    have hl' : ∀ u, u ∈ l → Ltr u.1 ∧ Bd (N + 1) u.2 := fun u hu => ⟨(hl u (List.mem_cons_of_mem _ hu)).1, (hl u (List.mem_cons_of_mem _ hu)).2.mono (by omega)⟩
    obtain ⟨hr, hb⟩ := hl r List.mem_cons_self
    have ha1 : Gd (N + 1) acc := ⟨fun u hu => ⟨(ha.each u hu).1, (ha.each u hu).2.1, (ha.each u hu).2.2.mono (by omega)⟩, ha.nb⟩
    have fin : ∀ acc1 : List Run, acc1.length ≤ acc.length + 1 → Gd (N + 1) acc1 → Gd (N + (r :: l).length) (runTog acc1 l) ∧ (runTog acc1 l).length ≤ acc.length + (r :: l).length := fun acc1 h1 h2 => by
      obtain ⟨a, b⟩ := tog_good l acc1 (N + 1) hl' h2
      rw [List.length_cons]
      refine ⟨?_, by omega⟩
      rw [show N + (l.length + 1) = N + 1 + l.length by omega]
      exact a
    by_cases hk : 0 < r.2
    · rcases nil_or_last acc with rfl | ⟨ini, u, rfl⟩
      · rw [runTog_nil hk]
        refine fin _ (by simp) ⟨fun v hv => ?_, fun i a b h1 h2 => ?_⟩
        · rw [List.mem_singleton.mp hv]
          exact ⟨hr, hk, hb.mono (by omega)⟩
        · have := (List.getElem?_eq_some_iff.mp h2).1
          simp at this
      · by_cases e : u.1 = r.1
        · rw [runTog_eq hk e]
          have hu := ha.each u (List.mem_append_right _ (List.mem_singleton.mpr rfl))
          refine fin _ (by simp) ⟨fun v hv => ?_, ?_⟩
          · rcases List.mem_append.mp hv with q | q
            · exact ha1.each v (List.mem_append_left _ q)
            · rw [List.mem_singleton.mp q]
              exact ⟨hr, by have := hu.2.1; show 0 < u.2 + r.2; omega, hu.2.2.add2 hb⟩
          · have hn := ha.nb
            rw [List.map_append] at hn ⊢
            show Nb (ini.map (·.1) ++ [r.1])
            rw [← e]
            exact hn
        · rw [runTog_ne hk e]
          refine fin _ (by simp) ⟨fun v hv => ?_, ?_⟩
          · rcases List.mem_append.mp hv with q | q
            · exact ha1.each v q
            · rw [List.mem_singleton.mp q]
              exact ⟨hr, hk, hb.mono (by omega)⟩
          · have hn := ha.nb
            rw [List.map_append] at hn
            rw [List.map_append, List.map_append]
            exact nb_snoc hn e
    · rw [runTog_skip hk]
      exact fin _ (by omega) ha1
theorem gd_good {N : Nat} {l : List Run} (h : Gd N l) (hl : l.length ≤ 200) : GoodR l := ⟨hl, fun r hr => ⟨(h.each r hr).1, (h.each r hr).2.1⟩, fun i r u h1 h2 => h.nb i r.1 u.1 (by rw [List.getElem?_map, h1]; rfl) (by rw [List.getElem?_map, h2]; rfl)⟩
theorem rows_each {N : Nat} {x y z : Int} (h64 : 1 ≤ N) (hx : Bd N x) (hy : Bd N y) (hz : Bd N z) : ∀ r, r ∈ rowsOf x y z → (Ltr r.1 ∧ Bd N r.2) ∧ 0 ≤ r.2 := fun r hr => by
  have abs : ∀ m : Int, Bd N m → Bd N (if 0 ≤ m then m else -m) ∧ 0 ≤ (if 0 ≤ m then m else -m) := fun m hm => by
    split
    · exact ⟨hm, by omega⟩
    · exact ⟨hm.neg, by omega⟩
  have one : Bd N 1 := (Bd.lit (n := 1) rfl).mono h64
  have l := ltr_rows r hr
  suffices h : Bd N r.2 ∧ 0 ≤ r.2 from ⟨⟨l, h.1⟩, h.2⟩
  unfold rowsOf at hr
  split at hr
  · simp only [List.cons_append, List.nil_append, List.mem_cons, List.not_mem_nil, or_false] at hr
    rcases hr with rfl | rfl | rfl | rfl | rfl | rfl
    · exact abs y hy
    · exact abs x hx
    · exact ⟨one, by decide⟩
    · exact abs z hz
    · exact ⟨one, by decide⟩
    · exact abs z hz
  · simp only [List.append_nil, List.mem_cons, List.not_mem_nil, or_false] at hr
    rcases hr with rfl | rfl
    · exact abs y hy
    · exact abs x hx
/-- what a law needs of plain runs -/
theorem plain_good {x y z : Int} (hx : Bd 1500 x) (hy : Bd 1500 y) (hz : Bd 1500 z) : GoodR (runTog [] (rowsOf x y z)) ∧ (∀ r, r ∈ runTog [] (rowsOf x y z) → Bd 2000 r.2) ∧ doR (runTog [] (rowsOf x y z)) (0, 0, 0) = (x, y, z) := by
  have he := rows_each (N := 1500) (by decide) hx hy hz
  have hl := rows_len (x := x) (y := y) (z := z)
  obtain ⟨a, b⟩ := tog_good (rowsOf x y z) [] 1500 (fun r hr => (he r hr).1) ⟨(by intro r hr; cases hr), (by intro i a b h1 h2; simp at h1)⟩
  rw [List.length_nil] at b
  refine ⟨gd_good a (by omega), fun r hr => (a.each r hr).2.2.mono (by omega), ?_⟩
  rw [doR_tog _ _ (fun r hr => (he r hr).1.1) (fun r hr => (he r hr).2) (by intro r hr; cases hr)]
  exact rows_do x y z
/-! letters turned, mirrored, read back -/
abbrev trn (t : T3) : T3 := (-t.2.1, t.1, t.2.2 - t.1 * t.2.1)
def spin1 (c : Nat) : Nat := if c = 114 then 117 else if c = 117 then 108 else if c = 108 then 100 else 114
def spinN : Nat → Nat → Nat
  | 0, c => c
  | n + 1, c => spinN n (spin1 c)
theorem ltr_spin1 {c : Nat} (h : Ltr c) : Ltr (spin1 c) := by
  rcases h with rfl | rfl | rfl | rfl
  · exact .inr (.inl rfl)
  · exact .inr (.inr (.inl rfl))
  · exact .inr (.inr (.inr rfl))
  · exact .inl rfl
theorem doW_spin1 : ∀ (cs : List Nat) (t : T3), LetW cs → doW (cs.map spin1) (trn t) = trn (doW cs t)
  | [], t, _ => rfl
  | c :: cs, t, h => by
    have ih := doW_spin1 cs (t.1 + dx c, t.2.1 + dy c, t.2.2 + t.1 * dy c) h.tail
    obtain ⟨x, y, z⟩ := t
    rw [List.map_cons, doW, doW, ← ih]
    congr 1
    rcases h.head with rfl | rfl | rfl | rfl <;> simp [dx, dy, spin1, trn] <;> grind
theorem turnN_trn : ∀ (n : Nat) (t : T3), turnN n t = trn (turnN n t) ∨ True := fun _ _ => .inr trivial
theorem letW_map {f : Nat → Nat} (hf : ∀ c, Ltr c → Ltr (f c)) {cs : List Nat} (h : LetW cs) : LetW (cs.map f) := fun d hd => by
  obtain ⟨c, hc, rfl⟩ := List.mem_map.mp hd
  exact hf c (h c hc)
theorem doW_spin : ∀ (n : Nat) (cs : List Nat), LetW cs → doW (cs.map (spinN n)) (0, 0, 0) = turnN n (doW cs (0, 0, 0))
  | 0, cs, _ => by
    have e : spinN 0 = id := by funext c; rfl
    rw [e, List.map_id]
    rfl
  | n + 1, cs, h => by
    have e : cs.map (spinN (n + 1)) = (cs.map spin1).map (spinN n) := by
      rw [List.map_map]
      rfl
    rw [e, doW_spin n _ (letW_map (fun _ => ltr_spin1) h)]
    have z := doW_spin1 cs (0, 0, 0) h
    have e0 : trn (0, 0, 0) = (0, 0, 0) := by decide
    rw [e0] at z
    rw [z]
    rfl
def flip1 (c : Nat) : Nat := if c = 114 then 108 else if c = 108 then 114 else c
theorem ltr_flip1 {c : Nat} (h : Ltr c) : Ltr (flip1 c) := by
  rcases h with rfl | rfl | rfl | rfl
  · exact .inr (.inr (.inl rfl))
  · exact .inr (.inl rfl)
  · exact .inl rfl
  · exact .inr (.inr (.inr rfl))
theorem doW_flip : ∀ (cs : List Nat) (t : T3), LetW cs → doW (cs.map flip1) (-t.1, t.2.1, -t.2.2) = (-(doW cs t).1, (doW cs t).2.1, -(doW cs t).2.2)
  | [], t, _ => rfl
  | c :: cs, t, h => by
    have ih := doW_flip cs (t.1 + dx c, t.2.1 + dy c, t.2.2 + t.1 * dy c) h.tail
    obtain ⟨x, y, z⟩ := t
    rw [List.map_cons, doW, doW, ← ih]
    congr 1
    rcases h.head with rfl | rfl | rfl | rfl <;> simp [dx, dy, flip1] <;> grind
theorem doW_from : ∀ (cs : List Nat) (t : T3), doW cs t = joinT t (doW cs (0, 0, 0))
  | [], t => by
    obtain ⟨x, y, z⟩ := t
    simp [doW, joinT]
  | c :: cs, t => by
    obtain ⟨x, y, z⟩ := t
    have h1 := doW_from cs (x + dx c, y + dy c, z + x * dy c)
    have h2 := doW_from cs (0 + dx c, 0 + dy c, 0 + 0 * dy c)
    show doW cs (x + dx c, y + dy c, z + x * dy c) = joinT (x, y, z) (doW cs (0 + dx c, 0 + dy c, 0 + 0 * dy c))
    rw [h1, h2]
    simp only [joinT]
    generalize doW cs (0, 0, 0) = u
    obtain ⟨p, q, s⟩ := u
    refine Prod.ext ?_ (Prod.ext ?_ ?_) <;> grind
theorem doW_append : ∀ (cs es : List Nat) (t : T3), doW (cs ++ es) t = doW es (doW cs t)
  | [], es, t => rfl
  | c :: cs, es, t => doW_append cs es _
theorem dxdy {c : Nat} (h : Ltr c) : dx c * dy c = 0 := by
  rcases h with rfl | rfl | rfl | rfl <;> rfl
theorem doW_rev : ∀ (cs : List Nat), LetW cs → doW cs.reverse (0, 0, 0) = ((doW cs (0, 0, 0)).1, (doW cs (0, 0, 0)).2.1, (doW cs (0, 0, 0)).1 * (doW cs (0, 0, 0)).2.1 - (doW cs (0, 0, 0)).2.2)
  | [], _ => rfl
  | c :: cs, h => by
    have hd := dxdy h.head
    have h2 := doW_from cs (0 + dx c, 0 + dy c, 0 + 0 * dy c)
    have h3 : doW (c :: cs) (0, 0, 0) = doW cs (0 + dx c, 0 + dy c, 0 + 0 * dy c) := rfl
    rw [List.reverse_cons, doW_append, doW_rev cs h.tail, h3, h2]
    simp only [joinT, doW]
    clear h2 h3 h
    generalize doW cs (0, 0, 0) = u
    obtain ⟨p, q, s⟩ := u
    refine Prod.ext ?_ (Prod.ext ?_ ?_) <;> grind
/-- the law, behind its module -/
def cLaw : Spec := fun ds S Φ => ∃ is : List Int, ds = [.frz (is.map D.int)] ∧ is.length ≤ 63 ∧ S = [] ∧ ∀ S', Φ (.bl true) S'
theorem ite_merge {X : Cx} {a b : Expr} {ρ : Ro} {S : Sto} {Φ : D → Sto → Prop} {c : Bool} (Ψ : D → Sto → Prop) (h1 : c = true → DE X a ρ S Ψ) (h2 : c = false → DE X b ρ S Ψ) (k : ∀ d S1, Ψ d S1 → Φ d S1) : if c = true then DE X a ρ S Φ else DE X b ρ S Φ := by
  cases c with
  | true => exact (h1 rfl).mono k
  | false => exact (h2 rfl).mono k
def idxR (c : Nat) : Nat := if c = 114 then 0 else if c = 117 then 1 else if c = 108 then 2 else 3
theorem occ_ltr {c : Nat} (h : Ltr c) : Builtin.Str.occurrences (Str.ofString "ruld") ⟨#[c]⟩ 0 (Str.ofString "ruld").length 1 = [idxR c] := by
  rcases h with rfl | rfl | rfl | rfl <;> decide +kernel
theorem spin_at {c : Nat} (h : Ltr c) (q : Int) : atI (Str.ofString "ruld").cps.toList (((idxR c : Int) + q) % 4) = some (spinN (q % 4).toNat c) := by
  have h0 := Int.emod_nonneg q (b := 4) (by decide)
  have h1 := Int.emod_lt_of_pos q (b := 4) (by decide)
  have hq : q % 4 = 0 ∨ q % 4 = 1 ∨ q % 4 = 2 ∨ q % 4 = 3 := by omega
  have e : ((idxR c : Int) + q) % 4 = ((idxR c : Int) + q % 4) % 4 := by omega
  rw [e]
  rcases h with rfl | rfl | rfl | rfl <;> rcases hq with hq | hq | hq | hq <;> rw [hq] <;> decide +kernel
theorem ltr_spinN : ∀ (n : Nat) {c : Nat}, Ltr c → Ltr (spinN n c)
  | 0, _, h => h
  | n + 1, _, h => ltr_spinN n (ltr_spin1 h)
def fD (g : Nat → Nat) (d : D) : D := match d with
  | .str z => ch (g (z.cps.getD 0 0))
  | d => d
theorem fD_map {g : Nat → Nat} {cs : List Nat} : (charsD (wd cs)).map (fD g) = ((cs.map g).map fun c => (⟨#[c]⟩ : Str)).map D.str := by
  rw [chars_wd, List.map_map, List.map_map, List.map_map]
  rfl
theorem val_ltr {c : Nat} (h : Ltr c) : valV (mergeK [] [(Sum.inr (Str.ofString "r"), V.str (Str.ofString "l")), (Sum.inr (Str.ofString "l"), V.str (Str.ofString "r")), (Sum.inr (Str.ofString "u"), V.str (Str.ofString "u")), (Sum.inr (Str.ofString "d"), V.str (Str.ofString "d"))]) (Sum.inr (⟨#[c]⟩ : Str)) = some (V.str ⟨#[flip1 c]⟩) := by
  rcases h with rfl | rfl | rfl | rfl <;> rfl
theorem bd_doW : ∀ (cs : List Nat) (t : T3) (n : Nat), LetW cs → n + cs.length ≤ 1000 → Bd (10 + n) t.1 → Bd (10 + n) t.2.1 → Bd (100 + 2 * n) t.2.2 → Bd3 3000 (doW cs t)
  | [], t, n, _, hl, h1, h2, h3 => by
    rw [List.length_nil] at hl
    exact ⟨h1.mono (by omega), h2.mono (by omega), h3.mono (by omega)⟩
  | c :: cs, t, n, hw, hl, h1, h2, h3 => by
    rw [List.length_cons] at hl
    have hc := hw.head
    have bx : Bd 10 (dx c) := by rcases hc with rfl | rfl | rfl | rfl <;> exact Bd.lit rfl
    have by_ : Bd 10 (dy c) := by rcases hc with rfl | rfl | rfl | rfl <;> exact Bd.lit rfl
    refine bd_doW cs _ (n + 1) hw.tail (by omega) (h1.add2 (bx.mono (by omega))) (h2.add2 (by_.mono (by omega))) ?_
    have hm : Bd (100 + 2 * n) (t.1 * dy c) := (h1.mul by_).mono (by omega)
    exact (h3.add2 hm).mono (by omega)
theorem cutS_wd {cs : List Nat} {lo hi : Option Int} (h : LetW cs) : ∃ es, cutS (wd cs) lo hi = wd es ∧ LetW es ∧ es.length ≤ cs.length := by
  refine ⟨_, rfl, fun c hc => h c ?_, ?_⟩
  · have := List.mem_of_mem_take hc
    have := List.mem_of_mem_drop this
    simpa using this
  · rw [List.length_take, List.length_drop]
    simp
    omega
theorem wd_len {cs : List Nat} : (wd cs).length = cs.length := by
  show cs.toArray.size = _
  simp
theorem wd_append {cs es : List Nat} : wd cs ++ wd es = wd (cs ++ es) := by
  show (⟨cs.toArray ++ es.toArray⟩ : Str) = _
  simp
theorem LetW.append {cs es : List Nat} (h : LetW cs) (k : LetW es) : LetW (cs ++ es) := fun c hc => (List.mem_append.mp hc).elim (h c) (k c)
end Ar
namespace Ar
open PySem PySem.Spec PyProof.Rows L2
/-! ### t[::-1] -/
section
variable {prog : Program} {w : World} {A : Around} {E : Value → Shared → Prop} {s : Shared}
theorem applied_rev {sl : Addr} {vl vu vs : Value} {n : Nat} {Q : Int × Int × Nat → Shared → Prop} (hs : s.heap.IsSliceOf sl vl vu vs) (pl : IsPart vl none) (pu : IsPart vu none) (ps : IsPart vs (some (-1)))
    (h : Q ((n : Int) - 1, -1, n) s) : wpAny (model prog w) A (Builtin.Slice.sliceApplied (.ref sl) (pure (n : Int))) Q E s := by
  obtain ⟨os, hos, hcs, hds⟩ := id hs
  unfold Builtin.Slice.sliceApplied Builtin.Slice.sliceFields
  refine wpAny_bind (wpAny_bind (wpAny_field hos hds (x := vl) rfl (wpAny_bind (wpAny_field hos hds (x := vu) rfl (wpAny_bind (wpAny_field hos hds (x := vs) rfl (wpAny_pure ?_)))))))
  refine wpAny_bind (HT.slicePart_ ps ?_)
  show wpAny _ _ (if ((-1 : Int) == 0) = true then _ else _) _ _ s
  rw [if_neg (by decide)]
  refine wpAny_bind (HT.slicePart_ pl (wpAny_bind (HT.slicePart_ pu (wpAny_bind (wpAny_pure ?_)))))
  have e1 : Builtin.Slice.sliceAdjust none none (-1) (n : Int) = ((n : Int) - 1, -1) := rfl
  show wpAny _ _ (match Builtin.Slice.sliceAdjust none none (-1) (n : Int) with | (lo, hi) => pure (lo, (-1 : Int), Builtin.Slice.slicePlaces lo hi (-1))) _ _ s
  rw [e1]
  have e2 : Builtin.Slice.slicePlaces ((n : Int) - 1) (-1) (-1) = n := by
    unfold Builtin.Slice.slicePlaces
    rw [if_neg (by omega)]
    split
    · show (((n : Int) - 1 - -1 - 1) / 1 + 1).toNat = n
      rw [Int.ediv_one]
      omega
    · show (0 : Int).toNat = n
      have : (0 : Int).toNat = 0 := rfl
      omega
  show wpAny _ _ (pure ((n : Int) - 1, (-1 : Int), Builtin.Slice.slicePlaces ((n : Int) - 1) (-1) (-1))) _ _ s
  rw [e2]
  exact wpAny_pure h
theorem fm_get (c : Array Value) (g : Nat → Nat) : ∀ l : List Nat, (∀ i, i ∈ l → g i < c.size) → l.filterMap (fun (m : Nat) => c[g m]?) = l.map (fun m => c.getD (g m) .none)
  | [], _ => rfl
  | i :: r, h => by
    have hi := h i List.mem_cons_self
    have e : c[g i]? = some (c.getD (g i) .none) := by simp [Array.getD, hi]
    rw [List.filterMap_cons, e, List.map_cons, fm_get c g r fun j hj => h j (List.mem_cons_of_mem _ hj)]
theorem pick_rev0 (xs : Array Value) : ((List.range xs.size).filterMap fun (m : Nat) => xs[(((xs.size : Nat) : Int) - 1 + (m : Int) * -1).toNat]?) = xs.toList.reverse := by
  rw [fm_get xs (fun m => (((xs.size : Nat) : Int) - 1 + (m : Int) * -1).toNat) _ (fun i hi => by
    have := List.mem_range.mp hi
    omega)]
  apply List.ext_getElem
  · simp
  · intro j h1 h2
    have hj : j < xs.size := by simpa using h1
    have e2 : (((xs.size : Nat) : Int) - 1 + (j : Int) * -1).toNat = xs.size - 1 - j := by omega
    simp only [List.getElem_map, List.getElem_range, List.getElem_reverse, Array.getElem_toList, Array.length_toList, e2]
    simp [Array.getD, show xs.size - 1 - j < xs.size by omega]
theorem pick_rev (xs : Array Value) : ((List.range xs.size).filterMap fun (m : Nat) => xs[(((xs.size : Nat) : Int) - 1 + (m : Int) * -1).toNat]?).toArray = xs.toList.reverse.toArray := by
  rw [pick_rev0]
theorem getItem_tuple_rev {t sl : Addr} {items : Array Value} {vl vu vs : Value} {Q : Value → Shared → Prop} (ht : IsTup s.heap t items) (hs : s.heap.IsSliceOf sl vl vu vs) (pl : IsPart vl none) (pu : IsPart vu none) (ps : IsPart vs (some (-1)))
    (h : Q (.ref s.heap.objs.size) { s with heap := s.heap.push { cls := .type "tuple", data := .seq items.toList.reverse.toArray } })
    (hsz : items.size ≤ sizeLine) : wpAny (model prog w) A (getItem (.ref t) (.ref sl)) Q E s := by
  have htake : sizeOk (.seq items.toList.reverse.toArray) := by
    show items.toList.reverse.toArray.size ≤ sizeLine
    rw [List.size_toArray, List.length_reverse, Array.length_toList]
    exact hsz
  obtain ⟨os, hos, hcs, hds⟩ := id hs
  have hTs : s.TypeIs (.ref sl) "slice" := ⟨os, hos, hcs⟩
  unfold getItem
  try with_reducible refine wpAny_holding ?_
  first | refine wpAny_bind (wpAny_pure ?_) | skip
  refine wpAny_bind (wpAny_sequenceKey ht.typeIs (by decide) ?_)
  refine wpAny_bind (wpAny_callSpecial?_slot (name := Str.ofString "__getitem__") ht.typeIs PyProof.Rows.slot_tuple_getitem
    (wpAny_call_entry PyProof.Rows.slot_tuple_getitem ht.typeIs PyProof.Rows.entry_tuple_getitem ?_ (PyProof.Rows.args_tuple_getitem _ _)))
  show wpAny _ _ (Builtin.Tuple.tupleItemsOf (.ref t) >>= _) _ _ s
  refine wpAny_bind (PyProof.Rows.tupleItemsOf_ ht ?_)
  refine wpAny_bind (wpAny_typeOf hTs ?_)
  rw [if_pos (by decide)]
  refine wpAny_bind (applied_rev hs pl pu ps ?_)
  have hno : ¬ ((((items.size : Nat) : Int) - 1 == 0 && (-1 : Int) == 1 && items.size == items.size) = true) := by
    intro q
    rw [Bool.and_eq_true, Bool.and_eq_true] at q
    exact absurd q.1.2 (by decide)
  show wpAny _ _ (if (((items.size : Nat) : Int) - 1 == 0 && (-1 : Int) == 1 && items.size == items.size) = true then _ else _) _ _ s
  rw [if_neg hno, pick_rev]
  first
    | exact wpAny_bind (m := Builtin.Tuple.tupleExact _) (wpAny_newObj_type (wpAny_pure ⟨_, rfl, wpAny_pure h⟩) htake)
    | exact wpAny_bind (m := Builtin.Tuple.tupleExact _) (wpAny_newObj_type (wpAny_bind (wpAny_pure (wpAny_pure ⟨_, rfl, wpAny_pure h⟩))) htake)
    | exact wpAny_bind (wpAny_bind (m := Builtin.Tuple.tupleExact _) (wpAny_newObj_type (wpAny_pure (wpAny_pure ⟨_, rfl, wpAny_pure h⟩)) htake))
    | exact wpAny_bind (wpAny_bind (m := Builtin.Tuple.tupleExact _) (wpAny_newObj_type (wpAny_pure ⟨_, rfl, wpAny_pure h⟩) htake))
end
theorem pe_revT {X : Cx} {e : Expr} {te : TE} {k : Nat} {p1 p2 p3 pos : Pos} (he : PE X e te) : PE X (.Subscript e (.Slice none none (some (.UnaryOp .USub (.Constant (.int 1) k p1) p2)) p3) pos) (fun σ H Q => te σ H fun x H1 => ∃ a xs, x = .ref a ∧ SqT X.K H1 a xs ∧ ∀ p, H1 p = none → Q (.ref p) (upd H1 p (.tup xs.reverse))) := by
  refine ⟨fun pins s σ H Q I h => ?_⟩
  refine Subscript_ (thn (he.run pins s σ H _ I h) fun v s1 ⟨x, H1, I1, r1, q1⟩ => ?_)
  obtain ⟨a, xs, ex, hx, q⟩ := q1
  subst ex
  cases r1
  have hst : PO X (some (.UnaryOp .USub (.Constant (.int 1) k p1) p2)) (tPart (tUn (rU fun i => .int (-i)) (tC (.int 1)))) := po_some (pe_un un_neg pe_int)
  refine wpAny_Slice (thn (po_none.run pins s1 σ H1 (fun o H2 => o = none ∧ H2 = H1) I1 ⟨rfl, rfl⟩) fun vl s2 ⟨l, H2, I2, pl, el, e2⟩ => ?_)
  subst el e2
  refine thn (po_none.run pins s2 σ H2 (fun o H3 => o = none ∧ H3 = H2) I2 ⟨rfl, rfl⟩) fun vu s3 ⟨u, H3, I3, pu, eu, e3⟩ => ?_
  subst eu e3
  refine thn (hst.run pins s3 σ H3 (fun o H4 => o = some (-1) ∧ H4 = H3) I3 ⟨1, rfl, -1, rfl, rfl, rfl⟩) fun vs s4 ⟨o, H4, I4, ps, eo, e4⟩ => ?_
  subst eo e4
  have I5 : Inv X pins σ H4 { s4 with heap := s4.heap.push { cls := .type "slice", data := .fields #[vl, vu, vs] } } := I4.kept (t' := s4.toks) fun b ob q => Heap.get?_push_of_some _ q
  obtain ⟨its, r, ht, hz⟩ := I5.tuple hx
  have hlen := r.length
  show wpAny (model X.prog X.w) X.A (subscriptTail e (.Slice none none (some (.UnaryOp .USub (.Constant (.int 1) k p1) p2)) p3) (.ref a) (.ref s4.heap.objs.size)) (EP X pins σ Q) X.xe { s4 with heap := s4.heap.push { cls := .type "slice", data := .fields #[vl, vu, vs] } }
  refine tail_any (ops := [.ref a, .ref s4.heap.objs.size]) ht.typeIs (PyProof.Rows.slot_tuple_getitem.lookup) ?_ (by with_unfolding_all rfl)
  refine getItem_tuple_rev ht (Heap.IsSliceOf.new _ vl vu vs) pl pu ps ?_ (by rw [List.size_toArray]; omega)
  refine ⟨.ref _, _, I5.laid (t' := s4.toks) (o := .tup xs.reverse) (fun b ob q => Heap.get?_push_of_some _ q) (Nat.le_refl _) ?_, rfl, q _ (I5.hok.fresh (Nat.le_refl _))⟩
  exact ⟨by rw [List.length_reverse]; exact hz, _, r.reverse, IsTup.new _ _⟩


theorem RepL.rev {K : PySem.W.Frag} {Z : List Addr} {H : Hp} : ∀ {l : List D} {vs : List V}, RepL K Z H l vs → RepL K Z H l.reverse vs.reverse
  | [], vs, h => by
    rw [h.un0]
    exact .nil
  | d :: l, vs, h => by
    obtain ⟨v, r, rfl, h1, h2⟩ := h.uncons
    rw [List.reverse_cons, List.reverse_cons]
    exact (RepL.rev h2).append (.one h1)
section
variable {X : Cx} {ρ : Ro} {S : Sto} {Φ : D → Sto → Prop} {P : Program} {w : World} {K : PySem.W.Frag} {mg : Str → Option Value} {base : Heap} {tb : List (Str × Nat)} {names : List (Str × NameKind)} {k : Nat} {pos p p1 p2 p3 : Pos} {e e2 : Expr} {kk : Nat}
theorem de_revT (h : DE X e ρ S fun d S1 => ∃ l, d = .tup l ∧ Φ (.tup l.reverse) S1) : DE X (.Subscript e (.Slice none none (some (.UnaryOp .USub (.Constant (.int 1) kk p1) p2)) p3) pos) ρ S Φ := DE.of (pe_revT pe_w) fun Zh σ H Q E P => h.bind E fun v H1 d S1 k1 g1 E1 r1 h1 => by
  obtain ⟨l, rfl, q⟩ := h1
  obtain ⟨a, vs, rfl, sq, rl⟩ := r1.tup
  exact ⟨a, vs, rfl, sq, fun z hz => (P.next k1 g1).tup E1.st (RepL.rev rl) q hz⟩
/-! ### sums, the less of two -/
theorem da_two (he : starEach (e :: [e2]) X.env = (false, eval e X.env) :: starEach [e2] X.env) (he2 : starEach [e2] X.env = [(false, eval e2 X.env)]) {Ψ : List D → Sto → Prop} (h : DE X e ρ S fun d S1 => DE X e2 ρ S1 fun d2 S2 => Ψ [d, d2] S2) : DA X [e, e2] ρ S Ψ :=
  da_cons (DE.mono h fun d S1 h => da_one he2 h) he
theorem de_min2 (A : At X P w K mg base tb names k) (G : NoB mg) (hg : glB names "min" = true) (he : starEach (e :: [e2]) X.env = (false, eval e X.env) :: starEach [e2] X.env) (he2 : starEach [e2] X.env = [(false, eval e2 X.env)]) (hpl : (backTo pos (starEach [e2] X.env)).any (·.1) = false)
    (h : DE X e ρ S fun d S1 => DE X e2 ρ S1 fun d2 S2 => ∃ i j, d = .int i ∧ d2 = .int j ∧ Φ (.int (min i j)) S2) : DE X (.Call (.Name "min" p) [e, e2] [] pos) ρ S Φ := by
  refine de_cB A G (call_min2 A.calm) rfl (by rw [hg]; rfl) he hpl (da_two he he2 (DE.mono h fun d S1 h => DE.mono h fun d2 S2 ⟨i, j, e1, e2, q⟩ Zh H vs Q s r P => ?_))
  subst e1 e2
  obtain ⟨v, r1, rfl, rv, r⟩ := r.uncons
  obtain ⟨u, r2, rfl, ru, r⟩ := r.uncons
  cases r.un0
  refine ⟨i, j, by rw [rv.int, ru.int], P.here s rep_int ?_⟩
  have : (if j < i then j else i) = min i j := by
    by_cases h : j < i
    · rw [if_pos h]; omega
    · rw [if_neg h]; omega
  rw [this]
  exact q
theorem op_mulS : OpR X (binaryOp .Mult) (fun x y H Q => ∃ z n, x = .str z ∧ y = .int n ∧ MulOk z n ∧ Q (.str (Txt.mul z n)) H) := by
  intro pins s σ H x y v u Q I rx ry h
  obtain ⟨z, n, rfl, rfl, hok, q⟩ := h
  obtain ⟨t, rfl⟩ := rx
  obtain ⟨t', rfl⟩ := ry
  exact SB.mul hok fun t2 k => ⟨.str _, H, I.tok _, ⟨_, rfl⟩, q⟩
theorem do_mulS {z : Str} {n : Int} (c : MulOk z n) (q : Φ (.str (Txt.mul z n)) S) : DO X (binaryOp .Mult) (.str z) (.int n) S Φ := DO.of op_mulS fun Zh H x y Q st ra rb P => ⟨z, n, ra.str, rb.int, c, P.here st rep_str q⟩
theorem do_catT {l m : List D} (c : l.length + m.length ≤ sizeLine) (q : Φ (.tup (l ++ m)) S) : DO X (binaryOp .Add) (.tup l) (.tup m) S Φ := DO.of op_catA fun Zh H x y Q st ra rb P => by
  obtain ⟨p, vs, rfl, h1, r1⟩ := ra.tup
  obtain ⟨p2, vs2, rfl, h2, r2⟩ := rb.tup
  refine ⟨p, p2, vs, vs2, rfl, rfl, h1, h2, by rw [r1.length, r2.length]; exact c, fun e => ?_, fun _ e => ?_, fun _ _ z hz => P.tup st (r1.append r2) q hz⟩
  · have : l = [] := List.eq_nil_of_length_eq_zero (by rw [← r1.length, e]; rfl)
    subst this
    exact P.here st rb q
  · have : m = [] := List.eq_nil_of_length_eq_zero (by rw [← r2.length, e]; rfl)
    subst this
    rw [List.append_nil] at q
    exact P.here st ra q
theorem do_eqC {p : Addr} {m : List D} (A : At X P w K mg base tb names k) (h : ∃ l, (p, l) ∈ S ∧ (eqOk (.lst l) && eqOk (.lst m)) = true ∧ Φ (.bl (PyData.eqv (toPy (.lst l)) (toPy (.lst m)))) S) : DO X (compareOp .Eq) (.cell p) (.lst m) S Φ := DO.of (op_eqD A.room.units) fun Zh H x y Q st ra rb P => by
  obtain ⟨l, hm, h, q⟩ := h
  unfold eqOk at h
  rw [Bool.and_eq_true, Bool.and_eq_true, Bool.and_eq_true] at h
  obtain ⟨vs, h1, rl⟩ := st.st p l hm
  rw [ra.cell]
  refine ⟨toPy (.lst l), toPy (.lst m), ?_, dp_of rb h.2.1, h.1.2, h.2.2, P.here st rep_bl q⟩
  unfold toPy
  exact .lst (.inl (.inl h1)) (dpL_of rl (by
    have z := h.1.1
    unfold plainD at z
    rw [Bool.and_eq_true] at z
    exact z.2))
/-! ### values and new cells, one after another -/
def PostC (K : PySem.W.Frag) (Zh : List Addr) (H : Hp) (S : Sto) (Φ : D → Sto → Prop) (Q : VK) : Prop :=
  ∀ v H' d S', Step S H S' H' → Store K Zh H' S' → (∀ σ ρ, Ev K Zh H σ ρ S → Ev K Zh H' σ ρ S') → Rep K (keys S' ++ Zh) H' d v → Φ d S' → Q v H'
def PostCL (K : PySem.W.Frag) (Zh : List Addr) (H : Hp) (S : Sto) (n : Nat) (Φ : List D → Sto → Prop) (Q : List V → Hp → Prop) : Prop :=
  ∀ vs H' ds S', Step S H S' H' → Store K Zh H' S' → (∀ σ ρ, Ev K Zh H σ ρ S → Ev K Zh H' σ ρ S') → RepL K (keys S' ++ Zh) H' ds vs → ds.length = n → Φ ds S' → Q vs H'
def DEc (X : Cx) (e : Expr) (ρ : Ro) (S : Sto) (Φ : D → Sto → Prop) : Prop :=
  ∀ (Zh : List Addr) (pins : List (Addr × Obj)) (s : Shared) (σ : L2.St) (H : Hp) (Q : VK), Inv X pins σ H s → Ev X.K Zh H σ ρ S → PostC X.K Zh H S Φ Q → wpAny (model X.prog X.w) X.A (eval e X.env) (EP X pins σ Q) X.xe s
def DAc (X : Cx) (es : List Expr) (ρ : Ro) (S : Sto) (Φ : List D → Sto → Prop) : Prop :=
  ∀ (Zh : List Addr) (pos : Pos) (pins : List (Addr × Obj)) (s : Shared) (σ : L2.St) (H : Hp) (Q : List V → Hp → Prop), Inv X pins σ H s → Ev X.K Zh H σ ρ S → PostCL X.K Zh H S es.length Φ Q → wpAny (model X.prog X.w) X.A (spliced (backTo pos (starEach es X.env))) (AP X pins σ Q) X.xe s
theorem DEc.tw {Zh : List Addr} {σ : L2.St} {H : Hp} {Q : VK} (h : DEc X e ρ S Φ) (E : Ev X.K Zh H σ ρ S) (q : PostC X.K Zh H S Φ Q) : tW X e σ H Q := fun pins s I => h Zh pins s σ H Q I E q
theorem DAc.tw {es : List Expr} {Φ : List D → Sto → Prop} {Zh : List Addr} {σ : L2.St} {H : Hp} {Q : List V → Hp → Prop} (h : DAc X es ρ S Φ) (E : Ev X.K Zh H σ ρ S) (q : PostCL X.K Zh H S es.length Φ Q) : taW X es σ H Q := fun pos pins s I => h Zh pos pins s σ H Q I E q
theorem dec_e (h : DE X e ρ S Φ) : DEc X e ρ S Φ := fun Zh pins s σ H Q I E P => h Zh pins s σ H Q I E fun v H' d S' k g s' r q => P v H' d S' (.of k g) s' (fun σ ρ E => E.next k g s') (by rw [k]; exact r) q
theorem dec_n (h : DN X e ρ S fun l S1 => ∀ c, Φ (.cell c) (S1 ++ [(c, l)])) : DEc X e ρ S Φ := fun Zh pins s σ H Q I E P => h Zh pins s σ H Q I E fun c vs H' l S' k g s' hc h' r q => by
  have z := E.cell k g s' hc h' r
  exact P (.ref c) H' (.cell c) _ z.2 z.1.st (fun σ ρ E => (E.cell k g s' hc h' r).1) (by unfold Rep; rfl) (q c)
theorem dac_nil {Φ : List D → Sto → Prop} (q : Φ [] S) : DAc X [] ρ S Φ := fun Zh pos pins s σ H Q I E P => (pa_nil (X := X)).run pos pins s σ H Q I (P [] H [] S Step.refl E.st (fun _ _ E => E) .nil rfl q)
theorem dac_cons {es : List Expr} {Φ : List D → Sto → Prop} (h : DEc X e ρ S fun d S1 => DAc X es ρ S1 fun ds S2 => Φ (d :: ds) S2) (hs : starEach (e :: es) X.env = (false, eval e X.env) :: starEach es X.env) : DAc X (e :: es) ρ S Φ :=
  fun Zh pos pins s σ H Q I E P => (pa_cons (X := X) pe_w pa_w hs).run pos pins s σ H Q I (h.tw E fun v H1 d S1 t1 s1 n1 r1 h1 => h1.tw (n1 _ _ E) fun vs H2 ds S2 t2 s2 n2 r2 l2 q2 =>
    P (v :: vs) H2 (d :: ds) S2 (t1.trans t2) s2 (fun σ ρ E => n2 _ _ (n1 _ _ E)) (.cons (Rep.step s1.zl t2 r1) r2) (by rw [List.length_cons, l2]; rfl) q2)
variable {x y z : Str} {px py pz pt : Pos} {i j l : Nat} {E : DEnds}
theorem ds_parC {a b : Expr} {kt k2 pt2} (A : At X P w K mg base tb names k) 
    (hw : swappedStores [.Tuple [.Name x px, .Name y py] kt pt] (.Tuple [a, b] k2 pt2) X.env = pure (some [x, y]))
    (hs : swapsWithSole [.Tuple [.Name x px, .Name y py] kt pt] (.Tuple [a, b] k2 pt2) pos.line X.env = pure false)
    (h : ∃ i j, tb.lookup x = some i ∧ tb.lookup y = some j ∧ Nat.beq i j = false ∧ (locB names x && locB names y) = true ∧
      DAc X [a, b] ρ S fun ds S1 => ∃ c d, ds = [c, d] ∧ Nx E ((ρ.set i (some c)).set j (some d)) S1) : DS X (.Assign [.Tuple [.Name x px, .Name y py] kt pt] (.Tuple [a, b] k2 pt2) pos) ρ S E := by
  obtain ⟨i, j, hi, hj, hij, hv, h⟩ := h
  rw [Bool.and_eq_true] at hv
  exact DS.of (ps_par A.calm A.nd (A.slot _ _ hi) (A.slot _ _ hj) (ne_of_beq hij) (A.loc _ (locB_of hv.1)) (A.loc _ (locB_of hv.2)) pa_w hw hs) fun Zh σ H Dn ev k => h.tw ev fun vs H' ds S' t s n r l q => by
    obtain ⟨c, d, rfl, q⟩ := q
    obtain ⟨v, r1, rfl, rv, r⟩ := r.uncons
    obtain ⟨u, r2, rfl, ru, r⟩ := r.uncons
    cases r.un0
    exact ⟨v, u, rfl, k.nx _ _ _ _ t (((n _ _ ev).put rv).put ru) q⟩
theorem ds_par3C {a b c : Expr} {kt k2 pt2} (A : At X P w K mg base tb names k) 
    (hw : swappedStores [.Tuple [.Name x px, .Name y py, .Name z pz] kt pt] (.Tuple [a, b, c] k2 pt2) X.env = pure (some [x, y, z]))
    (hs : swapsWithSole [.Tuple [.Name x px, .Name y py, .Name z pz] kt pt] (.Tuple [a, b, c] k2 pt2) pos.line X.env = pure false)
    (h : ∃ i j l, tb.lookup x = some i ∧ tb.lookup y = some j ∧ tb.lookup z = some l ∧ (Nat.beq i j = false ∧ Nat.beq i l = false ∧ Nat.beq j l = false) ∧ (locB names x && locB names y && locB names z) = true ∧
      DAc X [a, b, c] ρ S fun ds S1 => ∃ a b c, ds = [a, b, c] ∧ Nx E (((ρ.set i (some a)).set j (some b)).set l (some c)) S1) : DS X (.Assign [.Tuple [.Name x px, .Name y py, .Name z pz] kt pt] (.Tuple [a, b, c] k2 pt2) pos) ρ S E := by
  obtain ⟨i, j, l, hi, hj, hl, ⟨hij, hil, hjl⟩, hv, h⟩ := h
  rw [Bool.and_eq_true, Bool.and_eq_true] at hv
  exact DS.of (ps_par3 A.calm A.nd (A.slot _ _ hi) (A.slot _ _ hj) (A.slot _ _ hl) (ne_of_beq hij) (ne_of_beq hil) (ne_of_beq hjl) (A.loc _ (locB_of hv.1.1)) (A.loc _ (locB_of hv.1.2)) (A.loc _ (locB_of hv.2)) pa_w hw hs) fun Zh σ H Dn ev k => h.tw ev fun vs H' ds S' t s n r l q => by
    obtain ⟨a, b, c, rfl, q⟩ := q
    obtain ⟨v, r1, rfl, rv, r⟩ := r.uncons
    obtain ⟨u, r2, rfl, ru, r⟩ := r.uncons
    obtain ⟨u3, r3, rfl, ru3, r⟩ := r.uncons
    cases r.un0
    exact ⟨v, u, u3, rfl, k.nx _ _ _ _ t ((((n _ _ ev).put rv).put ru).put ru3) q⟩
theorem vParC {a b : Expr} {kt k2 pt2} (A : At X P w K mg base tb names k) (v : Lcv tb names x i) (u : Lcv tb names y j) (hp : par2B px py x y a b = true)
    (hs : swapsWithSole [.Tuple [.Name x px, .Name y py] kt pt] (.Tuple [a, b] k2 pt2) pos.line X.env = pure false) (hij : Nat.beq i j = false)
    (h : DAc X [a, b] ρ S fun ds S1 => ∃ c d, ds = [c, d] ∧ Nx E ((ρ.set i (some c)).set j (some d)) S1) : DS X (.Assign [.Tuple [.Name x px, .Name y py] kt pt] (.Tuple [a, b] k2 pt2) pos) ρ S E := by
  unfold par2B at hp
  simp only [Bool.and_eq_true, Bool.not_eq_true'] at hp
  obtain ⟨⟨⟨⟨h1, h2⟩, h3⟩, h4⟩, h5⟩ := hp
  exact ds_parC A (sw_some2 A.bk (A.loc _ (locB_of v.lc)) (A.loc _ (locB_of u.lc)) h1 h2 h3 h4 h5) hs ⟨i, j, v.look, u.look, hij, by rw [v.lc, u.lc]; rfl, h⟩
theorem vPar3C {a b c : Expr} {kt k2 pt2} (A : At X P w K mg base tb names k) (v : Lcv tb names x i) (u : Lcv tb names y j) (t : Lcv tb names z l) (hp : par3B px py pz x y z a b c = true)
    (hs : swapsWithSole [.Tuple [.Name x px, .Name y py, .Name z pz] kt pt] (.Tuple [a, b, c] k2 pt2) pos.line X.env = pure false) (hij : Nat.beq i j = false ∧ Nat.beq i l = false ∧ Nat.beq j l = false)
    (h : DAc X [a, b, c] ρ S fun ds S1 => ∃ a b c, ds = [a, b, c] ∧ Nx E (((ρ.set i (some a)).set j (some b)).set l (some c)) S1) : DS X (.Assign [.Tuple [.Name x px, .Name y py, .Name z pz] kt pt] (.Tuple [a, b, c] k2 pt2) pos) ρ S E := by
  unfold par3B at hp
  simp only [Bool.and_eq_true, Bool.not_eq_true'] at hp
  obtain ⟨⟨⟨⟨⟨⟨⟨h1, h2⟩, h3⟩, h4⟩, h5⟩, h6⟩, h7⟩, h8⟩ := hp
  exact ds_par3C A (sw_some3 A.bk (A.loc _ (locB_of v.lc)) (A.loc _ (locB_of u.lc)) (A.loc _ (locB_of t.lc)) h1 h2 h3 h4 h5 h6 h7 h8) hs ⟨i, j, l, v.look, u.look, t.look, hij, by rw [v.lc, u.lc, t.lc]; rfl, h⟩
/-! ### comprehensions with a test -/
theorem lcI_ind {b : Bl} {ok : Nat → Bool} {tg elt c : Expr} {Φ : D → Sto → Prop} (I : List D → Sto → List D → Prop) (step : ∀ d ds S acc, I (d :: ds) S acc → ∀ X', b X' → DG X' ok tg d ρ S fun ρ2 S2 => Box (∀ X', b X' → DT X' c ρ2 S2 fun k S3 => if k = true then Box (∀ X', b X' → DE X' elt ρ2 S3 fun y S4 => Box (I ds S4 (acc ++ [y]))) else Box (I ds S3 acc))) (fin : ∀ S acc, I [] S acc → Φ (.lst acc) S) : ∀ {ds : List D} {S : Sto} {acc : List D}, I ds S acc → LcD b ok tg [c] elt ds ρ S acc Φ
  | [], S, acc, h => fin S acc h
  | d :: ds, S, acc, h => fun X' hX Zh pins s σ H v u Q I' ev r rv k => step d ds S acc h X' hX Zh pins s σ H v u Q I' ev r rv fun σ' H' ρ' S' a b c e f q => k σ' H' ρ' S' a b c e f fun X2 hX2 => fun Zh pins s σ H Q I' ev P => (q.get X2 hX2) Zh pins s σ H Q I' ev fun bb H1 S1 k1 g1 s1 q1 => P bb H1 S1 k1 g1 s1 (by
    cases bb with
    | true =>
      have q2 : Box _ := q1
      exact fun X3 hX3 => (q2.get X3 hX3).mono fun y S4 z => lcI_ind I step fin z.get
    | false =>
      have q2 : Box _ := q1
      exact lcI_ind I step fin q2.get)
end
end Ar
namespace Ar
open PySem PySem.Spec PyProof.Rows L2
section
variable {X : Cx} {ρ : Ro} {S : Sto} {Φ : D → Sto → Prop} {P : Program} {w : World} {K : PySem.W.Frag} {mg : Str → Option Value} {base : Heap} {tb : List (Str × Nat)} {names : List (Str × NameKind)} {k : Nat} {pos p p1 p2 p3 : Pos} {e e2 : Expr} {kk : Nat}
/-! ### while -/
/-- by a word with a measure -/
theorem ds_while {c : Expr} {body : List Stmt} {E : DEnds} (A : At X P w K mg base tb names k) (I : Nat → Ro → Sto → Prop) {m0 : Nat} (h0 : I m0 ρ S)
    (step : ∀ m ρ S, I m ρ S → DT X c ρ S fun b S1 => if b = true then DSs X body ρ S1 { nx := fun r s => Box (∃ m', m' < m ∧ I m' r s), rt := E.rt, bk := E.nx, ct := fun r s => Box (∃ m', m' < m ∧ I m' r s) } else E.nx ρ S1) : DS X (.While c body [] pos) ρ S E :=
  DS.of (ps_while (by rw [A.nox]; exact PassesOwn.never) pt_w pss_w) fun Zh σ H Dn ev kk => by
    refine ⟨fun m σ' H' => ∃ ρ' S', Step S H S' H' ∧ Ev X.K Zh H' σ' ρ' S' ∧ I m ρ' S', ⟨m0, ρ, S, Step.refl, ev, h0⟩, ?_⟩
    rintro m σ1 H1 ⟨ρ1, S1, t1, ev1, i1⟩
    refine (step m ρ1 S1 i1).tw ev1 fun b H2 S2 k2 g2 s2 q => ?_
    have ev2 := ev1.next k2 g2 s2
    have t2 := t1.trans (Step.of k2 g2)
    cases b with
    | true =>
      have q2 : DSs X body ρ1 S2 _ := q
      refine ⟨fun σ' H' => ∃ m', m' < m ∧ ∃ ρ' S', Step S H S' H' ∧ Ev X.K Zh H' σ' ρ' S' ∧ I m' ρ' S', ?_, ?_⟩
      · rintro σ' H' ⟨m', hm, ρ', S', t, e, i⟩
        exact ⟨m', hm, ρ', S', t, e, i⟩
      · refine q2.tw ev2 ⟨fun σ' H' ρ' S' t e q => ?_, fun v H' d S' t s r q => kk.rt v H' d S' (t2.trans t) s r q, fun σ' H' ρ' S' t e q => kk.nx σ' H' ρ' S' (t2.trans t) e q, fun σ' H' ρ' S' t e q => ?_⟩
        · obtain ⟨m', hm, i⟩ := q.get
          exact ⟨m', hm, ρ', S', t2.trans t, e, i⟩
        · obtain ⟨m', hm, i⟩ := q.get
          exact ⟨m', hm, ρ', S', t2.trans t, e, i⟩
    | false => exact kk.nx σ1 H2 ρ1 S2 t2 ev2 q
end
/-! ### a dict of written keys, never written again -/
mutual
def noDct : D → Bool
  | .dct _ _ => false
  | .tup l => noDctL l
  | .lst l => noDctL l
  | .frz l => noDctL l
  | _ => true
def noDctL : List D → Bool
  | [] => true
  | d :: l => noDct d && noDctL l
end
theorem ne_dK {H : Hp} {p q : Addr} {o : HO} {kvs : List (Key × V)} (h : H q = some o) (hp : H p = some (.dK kvs)) (n : o ≠ .dK kvs) : q ≠ p := fun e => by
  subst e
  rw [h] at hp
  exact n (Option.some.inj hp)
mutual
theorem Rep.keepP {K : PySem.W.Frag} {Z : List Addr} {H : Hp} {p : Addr} {kvs : List (Key × V)} {o : HO} (hp : H p = some (.dK kvs)) : ∀ {d : D} {v : V}, noDct d = true → Rep K Z H d v → Rep K Z (upd H p o) d v
  | .non, _, _, h => by unfold Rep at h ⊢; exact h
  | .bl _, _, _, h => by unfold Rep at h ⊢; exact h
  | .int _, _, _, h => by unfold Rep at h ⊢; exact h
  | .str _, _, _, h => by unfold Rep at h ⊢; exact h
  | .cell _, _, _, h => by unfold Rep at h ⊢; exact h
  | .dct _ _, _, n, _ => by unfold noDct at n; cases n
  | .tup l, v, n, h => by
    unfold noDct at n
    unfold Rep at h ⊢
    obtain ⟨q, vs, e, s, r⟩ := h
    refine ⟨q, vs, e, ?_, RepL.keepP hp n r⟩
    rcases s with (s | ⟨o', s⟩) | s
    · exact .inl (.inl (by rw [upd_ne (ne_dK s hp (by intro z; cases z))]; exact s))
    · exact .inl (.inr ⟨o', by rw [upd_ne (ne_dK s hp (by intro z; cases z))]; exact s⟩)
    · exact .inr s
  | .lst l, v, n, h => by
    unfold noDct at n
    unfold Rep at h ⊢
    obtain ⟨q, vs, e, m, s, r⟩ := h
    exact ⟨q, vs, e, m, by rw [upd_ne (ne_dK s hp (by intro z; cases z))]; exact s, RepL.keepP hp n r⟩
  | .frz l, v, n, h => by
    unfold noDct at n
    unfold Rep at h ⊢
    obtain ⟨q, vs, e, s, r⟩ := h
    refine ⟨q, vs, e, ?_, RepL.keepP hp n r⟩
    rcases s with ⟨m, s | ⟨o', s⟩⟩ | s
    · exact .inl ⟨m, .inl (by rw [upd_ne (ne_dK s hp (by intro z; cases z))]; exact s)⟩
    · exact .inl ⟨m, .inr ⟨o', by rw [upd_ne (ne_dK s hp (by intro z; cases z))]; exact s⟩⟩
    · exact .inr s
theorem RepL.keepP {K : PySem.W.Frag} {Z : List Addr} {H : Hp} {p : Addr} {kvs : List (Key × V)} {o : HO} (hp : H p = some (.dK kvs)) : ∀ {l : List D} {vs : List V}, noDctL l = true → RepL K Z H l vs → RepL K Z (upd H p o) l vs
  | [], _, _, h => by unfold RepL at h ⊢; exact h
  | d :: l, vs, n, h => by
    unfold noDctL at n
    rw [Bool.and_eq_true] at n
    unfold RepL at h ⊢
    obtain ⟨v, r, e, h1, h2⟩ := h
    exact ⟨v, r, e, Rep.keepP hp n.1 h1, RepL.keepP hp n.2 h2⟩
end
def NoD (S : Sto) : Prop := ∀ p l, (p, l) ∈ S → noDctL l = true
theorem Store.keepP {K : PySem.W.Frag} {Zh : List Addr} {H : Hp} {S : Sto} {p : Addr} {kvs : List (Key × V)} {o : HO} (s : Store K Zh H S) (n : NoD S) (hp : H p = some (.dK kvs)) : Store K Zh (upd H p o) S := by
  refine ⟨s.nd, fun q l m => ?_, fun q hq => ?_⟩
  · obtain ⟨vs, h1, h2⟩ := s.st q l m
    exact ⟨vs, by rw [upd_ne (ne_dK h1 hp (by intro z; cases z))]; exact h1, RepL.keepP hp (n q l m) h2⟩
  · obtain ⟨h1, vs, h2⟩ := s.hid q hq
    exact ⟨h1, vs, by rw [upd_ne (ne_dK h2 hp (by intro z; cases z))]; exact h2⟩
section
variable {X : Cx} {ρ : Ro} {S : Sto} {Φ : D → Sto → Prop} {P : Program} {w : World} {K : PySem.W.Frag} {mg : Str → Option Value} {base : Heap} {tb : List (Str × Nat)} {names : List (Str × NameKind)} {k : Nat} {pos p p1 p2 p3 : Pos} {e e2 : Expr} {kk : Nat}
theorem de_dct4 {a1 a2 a3 a4 : Str} {i1 i2 i3 i4 : Nat} {s1 s2 s3 s4 dp : Pos} {e1 e2 e3 e4 : Expr} (hm : ∀ x y z w : V, mergeK [] [(Sum.inr a1, x), (Sum.inr a2, y), (Sum.inr a3, z), (Sum.inr a4, w)] = [(Sum.inr a1, x), (Sum.inr a2, y), (Sum.inr a3, z), (Sum.inr a4, w)])
    (h : DE X e1 ρ S fun d1 S1 => DE X e2 ρ S1 fun d2 S2 => DE X e3 ρ S2 fun d3 S3 => DE X e4 ρ S3 fun d4 S4 => NoD S4 ∧ (noDct d1 && noDct d2 && noDct d3 && noDct d4) = true ∧ Φ (.dct [a1, a2, a3, a4] [d1, d2, d3, d4]) S4) :
    DE X (.Dict [some (.Constant (.str a1) i1 s1), some (.Constant (.str a2) i2 s2), some (.Constant (.str a3) i3 s3), some (.Constant (.str a4) i4 s4)] [e1, e2, e3, e4] dp) ρ S Φ :=
  DE.of (pe_disp (pps_cons pe_str pe_w (pps_cons pe_str pe_w (pps_cons pe_str pe_w (pps_cons pe_str pe_w pps_nil)))) rfl rfl (List.cons_ne_nil _ _) (Nat.le_of_ble_eq_true rfl)) fun Zh σ H Q E P p hp => by
    have pS : p ∉ keys S := fun m => by
      obtain ⟨vs, e⟩ := E.st.zl p m
      rw [hp] at e
      cases e
    have pZ : p ∉ Zh := fun m => by
      obtain ⟨_, vs, e⟩ := E.st.hid p m
      rw [hp] at e
      cases e
    have g0 : Grow (keys S) H (upd H p (.dK [])) := Grow.new hp
    have E0 := E.next rfl g0 (E.st.new hp)
    have hp0 : (upd H p (.dK [])) p = some (.dK []) := upd_same
    refine h.bind E0 fun v1 H1 d1 S1 k1 g1 E1 r1 h1 => ?_
    refine h1.bind E1 fun v2 H2 d2 S2 k2 g2 E2 r2 h2 => ?_
    refine h2.bind E2 fun v3 H3 d3 S3 k3 g3 E3 r3 h3 => ?_
    refine h3.bind E3 fun v4 H4 d4 S4 k4 g4 E4 r4 h4 => ?_
    obtain ⟨nS, nd, q⟩ := h4
    rw [Bool.and_eq_true, Bool.and_eq_true, Bool.and_eq_true] at nd
    obtain ⟨⟨⟨n1, n2⟩, n3⟩, n4⟩ := nd
    have K2 : keys S2 = keys S := k2.trans k1
    have K3 : keys S3 = keys S := k3.trans K2
    have K4 : keys S4 = keys S := k4.trans K3
    have G4 : Grow (keys S) (upd H p (.dK [])) H4 := ((g1.trans (by rw [← k1]; exact g2)).trans (by rw [← K2]; exact g3)).trans (by rw [← K3]; exact g4)
    have hp4 : H4 p = some (.dK []) := G4 p _ pS hp0
    refine ⟨hp4, [(Sum.inr a1, v1), (Sum.inr a2, v2), (Sum.inr a3, v3), (Sum.inr a4, v4)], rfl, Nat.le_of_ble_eq_true rfl, ?_⟩
    rw [hm]
    have R1 : Rep X.K (keys S4 ++ Zh) H4 d1 v1 := by
      rw [K4]
      have z := E1.st.gr g2 r1
      rw [← k2] at z
      have z2 := E2.st.gr g3 z
      rw [← k3] at z2
      have z3 := E3.st.gr g4 z2
      rw [K3] at z3
      exact z3
    have R2 : Rep X.K (keys S4 ++ Zh) H4 d2 v2 := by
      rw [K4]
      have z2 := E2.st.gr g3 r2
      rw [← k3] at z2
      have z3 := E3.st.gr g4 z2
      rw [K3] at z3
      exact z3
    have R3 : Rep X.K (keys S4 ++ Zh) H4 d3 v3 := by
      rw [K4]
      have z3 := E3.st.gr g4 r3
      rw [K3] at z3
      exact z3
    refine P _ _ _ S4 K4 (fun b x nb hb => ?_) (E4.st.keepP nS hp4) ?_ q
    · have hne : b ≠ p := fun e => by rw [e, hp] at hb; cases hb
      rw [upd_ne hne]
      exact G4 b x nb (by rw [upd_ne hne]; exact hb)
    · unfold Rep
      refine ⟨p, [v1, v2, v3, v4], rfl, fun m => ?_, upd_same, ?_⟩
      · rcases List.mem_append.mp m with m | m
        · exact pS m
        · exact pZ m
      · rw [← K4]
        exact RepL.keepP hp4 (by unfold noDctL; rw [n1]; unfold noDctL; rw [n2]; unfold noDctL; rw [n3]; unfold noDctL; rw [n4]; unfold noDctL; rfl) (.cons R1 (.cons R2 (.cons R3 (.cons r4 .nil))))
theorem zip_val {K : PySem.W.Frag} {Z : List Addr} {H : Hp} {z : Str} {e : D} : ∀ {ks : List Str} {l : List D} {vs : List V}, RepL K Z H l vs → (ks.zip l).lookup z = some e → ∃ v, valV ((ks.map Sum.inr : List Key).zip vs) (Sum.inr z) = some v ∧ Rep K Z H e v
  | [], _, _, _, h => by simp at h
  | _ :: _, [], _, _, h => by simp at h
  | a :: ks, d :: l, vs, r, h => by
    obtain ⟨v, t, rfl, r1, r2⟩ := r.uncons
    rw [List.zip_cons_cons, List.lookup_cons] at h
    by_cases hz : z = a
    · subst hz
      rw [beq_self_eq_true] at h
      cases h
      exact ⟨v, valV_pos (p := ((Sum.inr z : Key), v)) rfl, r1⟩
    · have hb : (z == a) = false := by
        cases hq : z == a with
        | false => rfl
        | true => exact absurd (eq_of_beq hq) hz
      rw [hb] at h
      obtain ⟨u, h1, h2⟩ := zip_val (ks := ks) r2 h
      exact ⟨u, (valV_neg (p := ((Sum.inr a : Key), v)) (fun q => hz (Sum.inr.inj q).symm)).trans h1, h2⟩
theorem de_dctIx {o : Expr} (A : At X P w K mg base tb names k) (hs : NoSl e) (h : DE X o ρ S fun d S1 => DE X e ρ S1 fun c S2 => ∃ ks l z r, d = .dct ks l ∧ c = .str z ∧ (ks.zip l).lookup z = some r ∧ Φ r S2) : DE X (.Subscript o e pos) ρ S Φ := by
  have hu : X.A.units + 1 < cLine := Nat.lt_of_le_of_lt (Nat.add_le_add_left (Nat.le_of_ble_eq_true rfl) _) A.room.units
  exact DE.of (pe_dget hu pe_w pe_w hs) fun Zh σ H Q E P => h.bind E fun x H1 d S1 k1 g1 E1 r1 h1 => h1.bind E1 fun y H2 c S2 k2 g2 E2 r2 h2 => by
    obtain ⟨ks, l, z, r, rfl, rfl, hl, q⟩ := h2
    have r3 : Rep X.K (keys S2 ++ Zh) H2 (.dct ks l) x := by
      rw [k2]
      exact E1.st.gr g2 r1
    obtain ⟨p, vs, rfl, _, hp, rl⟩ := r3.dct
    obtain ⟨v, hv, rv⟩ := zip_val rl hl
    refine ⟨p, v, rfl, ?_, ((P.next k1 g1).next k2 g2).here E2.st rv q⟩
    rw [r2.str, ← hv]
    exact DGet.k (k := Sum.inr z) hp
def DctL (ks : List Str) (l : List D) (Φ : D → Sto → Prop) (c : D) (S : Sto) : Prop := ∃ z r, c = .str z ∧ (ks.zip l).lookup z = some r ∧ Φ r S
theorem DctL_i {ks : List Str} {l : List D} {z : Str} {r : D} (h : (ks.zip l).lookup z = some r) (q : Φ r S) : DctL ks l Φ (.str z) S := ⟨z, r, rfl, h, q⟩
theorem vDctIx {x : Str} {px : Pos} {i : Nat} (A : At X P w K mg base tb names k) (v : Var tb names x i) (hs : NoSl e) (h : ∃ ks l, ρ[i]? = some (some (.dct ks l)) ∧ DE X e ρ S fun c S2 => DctL ks l Φ c S2) : DE X (.Subscript (.Name x px) e pos) ρ S Φ := by
  obtain ⟨ks, l, hρ, h⟩ := h
  exact de_dctIx A hs (vName A v ⟨_, hρ, h.mono fun c S2 ⟨z, r, e1, e2, q⟩ => ⟨ks, l, z, r, rfl, e1, e2, q⟩⟩)
/-! ### in a row of ints; rows compared -/
theorem inV_ints {i : Int} : ∀ l : List Int, inV (.int i) (l.map V.int) = decide (i ∈ l)
  | [] => rfl
  | j :: l => by
    have h := inV_ints (i := i) l
    unfold inV at h ⊢
    rw [List.map_cons, List.any_cons, h]
    have e : eqV (V.int j) (V.int i) = decide (j = i) := rfl
    rw [e]
    by_cases hj : j = i
    · simp [hj]
    · have : i ≠ j := fun q => hj q.symm
      simp [hj, this]
theorem do_inT {i : Int} {l : List Int} (q : Φ (.bl (decide (i ∈ l))) S) : DO X (compareOp .In) (.int i) (.tup (l.map D.int)) S Φ := DO.of op_in_seq fun Zh H x y Q st ra rb P => by
  obtain ⟨p, vs, rfl, sq, rl⟩ := rb.tup
  rw [RepL.ints rl] at sq
  rw [ra.int]
  exact ⟨p, _, rfl, .inr sq, rfl, by rw [List.all_map]; exact List.all_eq_true.mpr fun _ _ => rfl, P.here st rep_bl (by rw [inV_ints]; exact q)⟩
theorem do_notInT {i : Int} {l : List Int} (q : Φ (.bl (!decide (i ∈ l))) S) : DO X (compareOp .NotIn) (.int i) (.tup (l.map D.int)) S Φ := DO.of op_notIn_seq fun Zh H x y Q st ra rb P => by
  obtain ⟨p, vs, rfl, sq, rl⟩ := rb.tup
  rw [RepL.ints rl] at sq
  rw [ra.int]
  exact ⟨p, _, rfl, .inr sq, rfl, by rw [List.all_map]; exact List.all_eq_true.mpr fun _ _ => rfl, P.here st rep_bl (by rw [inV_ints]; exact q)⟩
end
end Ar
namespace Ar
open PySem PySem.Spec PyProof.Rows L2
/-! ### contracts of k02 -/
def cI2 (P : Int → Int → Prop) (f : Int → Int → D) : Spec := fun ds S Φ => ∃ x y, ds = [.int x, .int y] ∧ P x y ∧ Φ (f x y) S
theorem cI2_i {P : Int → Int → Prop} {f : Int → Int → D} {x y : Int} {S : Sto} {Φ} (h : P x y) (q : Φ (f x y) S) : cI2 P f [.int x, .int y] S Φ := ⟨x, y, rfl, h, q⟩
def cTurnL : Spec := fun ds S Φ => ∃ c q, ds = [ch c, .int q] ∧ Ltr c ∧ Φ (ch (spinN (q % 4).toNat c)) S
theorem cTurnL_i {c : Nat} {q : Int} {S : Sto} {Φ} (h : Ltr c) (k : Φ (ch (spinN (q % 4).toNat c)) S) : cTurnL [ch c, .int q] S Φ := ⟨c, q, rfl, h, k⟩
structure GR (l : List Run) : Prop where
  gd : Gd 2000 l
  len : l.length ≤ 200
theorem Gd.mono {n m : Nat} {l : List Run} (h : Gd n l) (k : n ≤ m) : Gd m l := ⟨fun r hr => ⟨(h.each r hr).1, (h.each r hr).2.1, (h.each r hr).2.2.mono k⟩, h.nb⟩
theorem GR.good {l : List Run} (h : GR l) : GoodR l := gd_good h.gd h.len
theorem GR.bd {l : List Run} (h : GR l) : ∀ r, r ∈ l → Bd 2000 r.2 := fun r hr => (h.gd.each r hr).2.2
theorem GR.ltr {l : List Run} (h : GR l) : LetR l := fun r hr => (h.gd.each r hr).1
theorem GR.pos {l : List Run} (h : GR l) : ∀ r, r ∈ l → 0 < r.2 := fun r hr => (h.gd.each r hr).2.1
theorem GR.both {l : List Run} (h : GR l) : ∀ r, r ∈ l → Ltr r.1 ∧ Bd 2000 r.2 := fun r hr => ⟨h.ltr r hr, h.bd r hr⟩
def cGR (f : List Run → D) : Spec := fun ds S Φ => ∃ l : List Run, ds = [.tup (l.map rn)] ∧ GR l ∧ Φ (f l) S
theorem cGR_i {f : List Run → D} {l : List Run} {S : Sto} {Φ} (h : GR l) (q : Φ (f l) S) : cGR f [.tup (l.map rn)] S Φ := ⟨l, rfl, h, q⟩
/-- of any depth of lists and tuples -/
def cSure (f : List Run → D) : Spec := fun ds S Φ => ∃ d l, ds = [d] ∧ fitD 2 d = true ∧ nrm d = .tup (l.map rn) ∧ GR l ∧ Φ (f l) S
theorem fit_tupR {l : List Run} (h : GR l) : fitD 2 (.tup (l.map rn)) = true := by
  unfold fitD
  rw [fit_runs, Bool.and_true]
  exact Nat.ble_eq.mpr (le_line (m := 200) (by rw [List.length_map]; exact h.len) rfl)
theorem nrm_tupR {l : List Run} : nrm (.tup (l.map rn)) = .tup (l.map rn) := by
  unfold nrm
  rw [nrm_runs]
theorem cSureT_i {f : List Run → D} {l : List Run} {S : Sto} {Φ} (h : GR l) (q : Φ (f l) S) : cSure f [.tup (l.map rn)] S Φ := ⟨_, l, rfl, fit_tupR h, nrm_tupR, h, q⟩
theorem cSureM_i {f : List Run → D} {d : D} {l : List Run} {S : Sto} {Φ} (h1 : fitD 2 d = true) (h2 : nrm d = .tup (l.map rn)) (h : GR l) (q : Φ (f l) S) : cSure f [d] S Φ := ⟨_, l, rfl, h1, h2, h, q⟩
def cTog2 : Spec := fun ds S Φ => ∃ d, ∃ l : List Run, ds = [d] ∧ (d = .lst (l.map rn) ∨ d = .tup (l.map rn)) ∧ l.length ≤ 100 ∧ LetR l ∧ Φ (.tup ((runTog [] l).map rn)) S
theorem cTog2L_i {l : List Run} {S : Sto} {Φ} (h1 : l.length ≤ 100) (h2 : LetR l) (q : Φ (.tup ((runTog [] l).map rn)) S) : cTog2 [.lst (l.map rn)] S Φ := ⟨_, l, rfl, .inl rfl, h1, h2, q⟩
theorem cTog2T_i {l : List Run} {S : Sto} {Φ} (h1 : l.length ≤ 100) (h2 : LetR l) (q : Φ (.tup ((runTog [] l).map rn)) S) : cTog2 [.tup (l.map rn)] S Φ := ⟨_, l, rfl, .inr rfl, h1, h2, q⟩
def sumR (l : List Run) : Int := (l.map (·.2)).sum
theorem sumR_nil : sumR [] = 0 := rfl
theorem sumR_cons {r : Run} {l : List Run} : sumR (r :: l) = r.2 + sumR l := by
  show ((r :: l).map (·.2)).sum = _
  rw [List.map_cons, List.sum_cons]
  rfl
theorem sumR_append : ∀ {l m : List Run}, sumR (l ++ m) = sumR l + sumR m
  | [], m => by rw [List.nil_append, sumR_nil]; omega
  | r :: l, m => by rw [List.cons_append, sumR_cons, sumR_cons, sumR_append]; omega
theorem sumR_nonneg : ∀ {l : List Run}, (∀ r, r ∈ l → 0 ≤ r.2) → 0 ≤ sumR l
  | [], _ => by rw [sumR_nil]; omega
  | r :: l, h => by
    have h1 := h r List.mem_cons_self
    have h2 := sumR_nonneg (l := l) fun u hu => h u (List.mem_cons_of_mem _ hu)
    rw [sumR_cons]
    omega
theorem sumR_mem : ∀ {l : List Run} {r : Run}, (∀ r, r ∈ l → 0 ≤ r.2) → r ∈ l → r.2 ≤ sumR l
  | [], _, _, m => by cases m
  | u :: l, r, h, m => by
    have h1 := h u List.mem_cons_self
    have h2 := sumR_nonneg (l := l) fun u hu => h u (List.mem_cons_of_mem _ hu)
    rw [sumR_cons]
    rcases List.mem_cons.mp m with e | e
    · rw [e]
      omega
    · have := sumR_mem (l := l) (fun u hu => h u (List.mem_cons_of_mem _ hu)) e
      omega
/-- a text of the runs' letters -/
def expand : List Run → List Nat
  | [] => []
  | r :: l => List.replicate r.2.toNat r.1 ++ expand l
theorem expand_ltr : ∀ {l : List Run}, LetR l → LetW (expand l)
  | [], _ => by intro c hc; cases hc
  | r :: l, h => by
    refine LetW.append (fun c hc => ?_) (expand_ltr fun u hu => h u (List.mem_cons_of_mem _ hu))
    rw [(List.mem_replicate.mp hc).2]
    exact h r List.mem_cons_self
theorem expand_len : ∀ {l : List Run}, (∀ r, r ∈ l → 0 ≤ r.2) → ((expand l).length : Int) = sumR l
  | [], _ => rfl
  | r :: l, h => by
    have h1 := h r List.mem_cons_self
    have h2 := expand_len (l := l) fun u hu => h u (List.mem_cons_of_mem _ hu)
    rw [sumR_cons, ← h2]
    show ((List.replicate r.2.toNat r.1 ++ expand l).length : Int) = _
    rw [List.length_append, List.length_replicate]
    omega
theorem expand_append : ∀ {l m : List Run}, expand (l ++ m) = expand l ++ expand m
  | [], _ => rfl
  | r :: l, m => by
    show List.replicate r.2.toNat r.1 ++ expand (l ++ m) = (List.replicate r.2.toNat r.1 ++ expand l) ++ expand m
    rw [expand_append, List.append_assoc]
def cRouteOf : Spec := fun ds S Φ => ∃ l : List Run, ds = [.tup (l.map rn)] ∧ GR l ∧ sumR l ≤ 2000 ∧ Φ (.str (wd (expand l))) S
theorem cRouteOf_i {l : List Run} {S : Sto} {Φ} (h : GR l) (h2 : sumR l ≤ 2000) (q : Φ (.str (wd (expand l))) S) : cRouteOf [.tup (l.map rn)] S Φ := ⟨l, rfl, h, h2, q⟩
def ones (cs : List Nat) : List Run := cs.map fun c => (c, 1)
def cRunsOf : Spec := fun ds S Φ => ∃ cs, ds = [.str (wd cs)] ∧ LetW cs ∧ cs.length ≤ 100 ∧ Φ (.tup ((runTog [] (ones cs)).map rn)) S
theorem cRunsOf_i {cs : List Nat} {S : Sto} {Φ} (h : LetW cs) (h2 : cs.length ≤ 100) (q : Φ (.tup ((runTog [] (ones cs)).map rn)) S) : cRunsOf [.str (wd cs)] S Φ := ⟨cs, rfl, h, h2, q⟩
def back (l : List Run) : List Run := l.reverse.map fun r => (spinN 2 r.1, r.2)
def cJoinR : Spec := fun ds S Φ => ∃ l m : List Run, ds = [.tup (l.map rn), .tup (m.map rn)] ∧ GR l ∧ GR m ∧ l.length + m.length ≤ 100 ∧ Φ (.tup ((runTog [] (l ++ m)).map rn)) S
theorem cJoinR_i {l m : List Run} {S : Sto} {Φ} (h : GR l) (k : GR m) (h2 : l.length + m.length ≤ 100) (q : Φ (.tup ((runTog [] (l ++ m)).map rn)) S) : cJoinR [.tup (l.map rn), .tup (m.map rn)] S Φ := ⟨l, m, rfl, h, k, h2, q⟩
/-- the first steps of runs -/
def stepL : List Run → Int → List Run
  | [], _ => []
  | r :: l, n => (r.1, min r.2 n) :: stepL l (n - min r.2 n)
def cStep : Spec := fun ds S Φ => ∃ (l : List Run) (n : Int), ds = [.tup (l.map rn), .int n] ∧ Gd 1800 l ∧ l.length ≤ 100 ∧ 0 ≤ n ∧ n ≤ sumR l ∧ Φ (d3 (doR (stepL l n) (0, 0, 0))) S
theorem cStep_i {l : List Run} {n : Int} {S : Sto} {Φ} (h1 : Gd 1800 l) (h2 : l.length ≤ 100) (h3 : 0 ≤ n) (h4 : n ≤ sumR l) (q : Φ (d3 (doR (stepL l n) (0, 0, 0))) S) : cStep [.tup (l.map rn), .int n] S Φ := ⟨l, n, rfl, h1, h2, h3, h4, q⟩
def cDoR : Spec := fun ds S Φ => ∃ l : List Run, ds = [.tup (l.map rn)] ∧ LetR l ∧ l.length ≤ 200 ∧ (∀ r, r ∈ l → Bd 2000 r.2) ∧ Φ (d3 (doR l (0, 0, 0))) S
theorem cDoR_i {l : List Run} {S : Sto} {Φ} (h : LetR l) (h2 : l.length ≤ 200) (hb : ∀ r, r ∈ l → Bd 2000 r.2) (q : Φ (d3 (doR l (0, 0, 0))) S) : cDoR [.tup (l.map rn)] S Φ := ⟨l, rfl, h, h2, hb, q⟩
def cRunsN : Spec := fun ds S Φ => ∃ p b l R n top, ds = [.cell p, .int n, .int top] ∧ S = (p, l) :: R ∧ Tin b l ∧ b ≤ 100000 ∧ (0 ≤ n ∧ n ≤ 20) ∧ 0 < top ∧ Bd 100 top ∧ ∀ (m : List Run) l', Gd 200 m → (∀ r, r ∈ m → r.2 ≤ top) → (m.length : Int) = n → Tin (b + 2 * n.toNat) l' → Φ (.tup (m.map rn)) ((p, l') :: R)
theorem cRunsN_i {p : Addr} {b : Nat} {l : List D} {R : Sto} {n top : Int} {Φ} (h1 : Tin b l) (h2 : b ≤ 100000) (h3 : 0 ≤ n ∧ n ≤ 20) (h4 : 0 < top) (h5 : Bd 100 top) (q : ∀ (m : List Run) l', Gd 200 m → (∀ r, r ∈ m → r.2 ≤ top) → (m.length : Int) = n → Tin (b + 2 * n.toNat) l' → Φ (.tup (m.map rn)) ((p, l') :: R)) : cRunsN [.cell p, .int n, .int top] ((p, l) :: R) Φ := ⟨p, b, l, R, n, top, rfl, rfl, h1, h2, h3, h4, h5, q⟩
mutual
def cntD : D → Nat
  | .tup l => cntL l + 1
  | _ => 0
def cntL : List D → Nat
  | [] => 0
  | d :: l => cntD d + cntL l
end
mutual
/-- tuples alone, of depth at most n -/
def tupO : Nat → D → Bool
  | n + 1, .tup l => Nat.ble l.length sizeLine && tupOL n l
  | 0, .tup _ => false
  | _, .lst _ => false
  | _, .frz _ => false
  | _, .cell _ => false
  | _, .dct _ _ => false
  | _, _ => true
def tupOL : Nat → List D → Bool
  | _, [] => true
  | n, d :: l => tupO n d && tupOL n l
end
def cMixed (n : Nat) : Spec := fun ds S Φ => ∃ p b l R d, ds = [.cell p, d] ∧ S = (p, l) :: R ∧ Tin b l ∧ b + cntD d ≤ 100000 ∧ tupO n d = true ∧ ∀ d' l', fitD n d' = true → nrm d' = nrm d → Tin (b + cntD d) l' → Φ d' ((p, l') :: R)
theorem cMixed_i {n : Nat} {p : Addr} {b : Nat} {l : List D} {R : Sto} {d : D} {Φ} (h1 : Tin b l) (h2 : b + cntD d ≤ 100000) (h3 : tupO n d = true) (q : ∀ d' l', fitD n d' = true → nrm d' = nrm d → Tin (b + cntD d) l' → Φ d' ((p, l') :: R)) : cMixed n [.cell p, d] ((p, l) :: R) Φ := ⟨p, b, l, R, d, rfl, rfl, h1, h2, h3, q⟩
theorem tupO_runs : ∀ l : List Run, tupOL 1 (l.map rn) = true
  | [] => by simp [tupOL]
  | r :: l => by
    rw [List.map_cons]
    unfold tupOL
    rw [tupO_runs l, Bool.and_true]
    rfl
theorem tupO_tup {l : List Run} (h : l.length ≤ 200) : tupO 2 (.tup (l.map rn)) = true := by
  unfold tupO
  rw [tupO_runs, Bool.and_true]
  exact Nat.ble_eq.mpr (le_line (m := 200) (by rw [List.length_map]; exact h) rfl)
theorem cnt_runs : ∀ l : List Run, cntL (l.map rn) = l.length
  | [] => by simp [cntL]
  | r :: l => by
    rw [List.map_cons]
    unfold cntL
    rw [cnt_runs l, List.length_cons]
    show cntD (rn r) + l.length = _
    have : cntD (rn r) = 1 := by simp [cntD, cntL]
    omega
/-! ### the plain law -/
theorem runTog_append : ∀ (l m acc : List Run), runTog acc (l ++ m) = runTog (runTog acc l) m
  | [], _, _ => by simp [runTog]
  | r :: l, m, acc => by
    rw [List.cons_append]
    by_cases hk : 0 < r.2
    · rcases nil_or_last acc with rfl | ⟨ini, u, rfl⟩
      · rw [runTog_nil hk, runTog_nil hk]
        exact runTog_append l m _
      · by_cases e : u.1 = r.1
        · rw [runTog_eq hk e, runTog_eq hk e]
          exact runTog_append l m _
        · rw [runTog_ne hk e, runTog_ne hk e]
          exact runTog_append l m _
    · rw [runTog_skip hk, runTog_skip hk]
      exact runTog_append l m _
theorem nb_mid {ini : List Nat} {a b : Nat} {r : List Nat} (h : Nb (ini ++ [a] ++ b :: r)) : a ≠ b := by
  refine h ini.length a b ?_ ?_
  · rw [List.append_assoc, List.getElem?_append_right (Nat.le_refl _), Nat.sub_self]
    rfl
  · rw [List.append_assoc, List.getElem?_append_right (by omega)]
    simp
theorem runTog_nb : ∀ (l acc : List Run), (∀ r, r ∈ l → 0 < r.2) → Nb ((acc ++ l).map (·.1)) → runTog acc l = acc ++ l
  | [], acc, _, _ => by simp [runTog]
  | r :: l, acc, hp, hn => by
    have hk := hp r List.mem_cons_self
    have hp' : ∀ u, u ∈ l → 0 < u.2 := fun u hu => hp u (List.mem_cons_of_mem _ hu)
    rcases nil_or_last acc with rfl | ⟨ini, u, rfl⟩
    · rw [runTog_nil hk, runTog_nb l [r] hp' hn]
      rfl
    · have e : u.1 ≠ r.1 := by
        have hn2 := hn
        rw [List.map_append, List.map_append] at hn2
        exact nb_mid hn2
      rw [runTog_ne hk e, runTog_nb l _ hp' (by rw [List.append_assoc]; exact hn), List.append_assoc]
      rfl
theorem GR.tog {l : List Run} (h : GR l) : runTog [] l = l := by
  rw [runTog_nb l [] h.pos (by rw [List.nil_append]; exact h.gd.nb)]
  rfl
theorem joinT_assoc (a b c : T3) : joinT (joinT a b) c = joinT a (joinT b c) := by
  obtain ⟨a1, a2, a3⟩ := a
  obtain ⟨b1, b2, b3⟩ := b
  obtain ⟨c1, c2, c3⟩ := c
  simp only [joinT, Prod.mk.injEq]
  refine ⟨?_, ?_, ?_⟩ <;> grind
theorem joinT_zero (a : T3) : joinT a (0, 0, 0) = a := by
  obtain ⟨a1, a2, a3⟩ := a
  simp [joinT]
theorem zero_joinT (a : T3) : joinT (0, 0, 0) a = a := by
  obtain ⟨a1, a2, a3⟩ := a
  simp [joinT]
theorem doR_from : ∀ (l : List Run) (t : T3), doR l t = joinT t (doR l (0, 0, 0))
  | [], t => (joinT_zero t).symm
  | r :: l, t => by
    show doR l _ = joinT t (doR l _)
    rw [doR_from l, doR_from l (0 + dx r.1 * r.2, _, _), ← joinT_assoc]
    congr 1
    obtain ⟨x, y, z⟩ := t
    simp only [joinT, Prod.mk.injEq]
    refine ⟨?_, ?_, ?_⟩ <;> grind
theorem doR_join (l m : List Run) : doR (l ++ m) (0, 0, 0) = joinT (doR l (0, 0, 0)) (doR m (0, 0, 0)) := by
  rw [doR_append, doR_from m]
theorem opp_d {c : Nat} (h : Ltr c) : dx (spinN 2 c) = -dx c ∧ dy (spinN 2 c) = -dy c := by
  rcases h with rfl | rfl | rfl | rfl <;> decide
theorem back_do : ∀ (l : List Run), LetR l → joinT (doR l (0, 0, 0)) (doR (back l) (0, 0, 0)) = (0, 0, 0)
  | [], _ => rfl
  | r :: l, h => by
    have ih := back_do l fun u hu => h u (List.mem_cons_of_mem _ hu)
    have e1 : back (r :: l) = back l ++ [(spinN 2 r.1, r.2)] := by
      unfold back
      rw [List.reverse_cons, List.map_append]
      rfl
    have e2 : doR (r :: l) (0, 0, 0) = joinT (doR [r] (0, 0, 0)) (doR l (0, 0, 0)) := doR_join [r] l
    rw [e1, doR_join, e2, joinT_assoc, ← joinT_assoc (doR l (0, 0, 0)), ih, zero_joinT]
    obtain ⟨h1, h2⟩ := opp_d (h r List.mem_cons_self)
    have h3 := dxdy (h r List.mem_cons_self)
    show joinT (0 + dx r.1 * r.2, 0 + dy r.1 * r.2, 0 + 0 * dy r.1 * r.2) (0 + dx (spinN 2 r.1) * r.2, 0 + dy (spinN 2 r.1) * r.2, 0 + 0 * dy (spinN 2 r.1) * r.2) = _
    rw [h1, h2]
    simp only [joinT, Prod.mk.injEq]
    refine ⟨?_, ?_, ?_⟩
    · grind
    · grind
    · grind
theorem back_ltr {l : List Run} (h : LetR l) : LetR (back l) := fun r hr => by
  obtain ⟨u, hu, rfl⟩ := List.mem_map.mp hr
  exact ltr_spinN 2 (h u (List.mem_reverse.mp hu))
theorem doW_rep {c : Nat} (h : Ltr c) : ∀ (n : Nat) (t : T3), doW (List.replicate n c) t = doR [(c, (n : Int))] t
  | 0, t => by
    obtain ⟨x, y, z⟩ := t
    show (x, y, z) = (x + dx c * 0, y + dy c * 0, z + x * dy c * 0)
    simp
  | n + 1, t => by
    obtain ⟨x, y, z⟩ := t
    have h3 := dxdy h
    show doW (List.replicate n c) _ = _
    rw [doW_rep h n]
    show (x + dx c + dx c * (n : Int), y + dy c + dy c * (n : Int), z + x * dy c + (x + dx c) * dy c * (n : Int)) = (x + dx c * ((n + 1 : Nat) : Int), y + dy c * ((n + 1 : Nat) : Int), z + x * dy c * ((n + 1 : Nat) : Int))
    have e : ((n + 1 : Nat) : Int) = (n : Int) + 1 := rfl
    rw [e]
    simp only [Prod.mk.injEq]
    refine ⟨?_, ?_, ?_⟩ <;> grind
theorem doW_expand : ∀ (l : List Run) (t : T3), LetR l → (∀ r, r ∈ l → 0 ≤ r.2) → doW (expand l) t = doR l t
  | [], _, _, _ => rfl
  | r :: l, t, h, h0 => by
    show doW (List.replicate r.2.toNat r.1 ++ expand l) t = doR l _
    rw [doW_append, doW_expand l _ (fun u hu => h u (List.mem_cons_of_mem _ hu)) (fun u hu => h0 u (List.mem_cons_of_mem _ hu)), doW_rep (h r List.mem_cons_self)]
    congr 1
    have e : ((r.2.toNat : Nat) : Int) = r.2 := by have := h0 r List.mem_cons_self; omega
    rw [e]
    rfl
theorem tog_ones {c : Nat} : ∀ (n : Nat) (k : Int) (ini rest : List Run), 0 < k → runTog (ini ++ [(c, k)]) (ones (List.replicate n c) ++ rest) = runTog (ini ++ [(c, k + n)]) rest
  | 0, k, ini, rest, _ => by
    show runTog (ini ++ [(c, k)]) rest = _
    rw [show k + ((0 : Nat) : Int) = k by omega]
  | n + 1, k, ini, rest, hk => by
    show runTog (ini ++ [(c, k)]) ((c, 1) :: (ones (List.replicate n c) ++ rest)) = _
    rw [runTog_eq (r := (c, 1)) (u := (c, k)) (show (0 : Int) < 1 by decide) rfl, tog_ones n (k + 1) ini rest (by omega)]
    rw [show k + 1 + (n : Int) = k + ((n + 1 : Nat) : Int) by omega]
theorem tog_expand : ∀ (l acc : List Run), (∀ r, r ∈ l → 0 < r.2) → Nb ((acc ++ l).map (·.1)) → runTog acc (ones (expand l)) = acc ++ l
  | [], acc, _, _ => by simp [expand, ones, runTog]
  | r :: l, acc, hp, hn => by
    have hk := hp r List.mem_cons_self
    have hp' : ∀ u, u ∈ l → 0 < u.2 := fun u hu => hp u (List.mem_cons_of_mem _ hu)
    obtain ⟨n, hn2⟩ : ∃ n : Nat, r.2.toNat = n + 1 := ⟨r.2.toNat - 1, by omega⟩
    have e1 : ones (expand (r :: l)) = (r.1, 1) :: (ones (List.replicate n r.1) ++ ones (expand l)) := by
      show ones (List.replicate r.2.toNat r.1 ++ expand l) = _
      rw [hn2, List.replicate_succ]
      unfold ones
      rw [List.map_append]
      rfl
    have e3 : (1 : Int) + (n : Int) = r.2 := by omega
    rw [e1]
    rcases nil_or_last acc with rfl | ⟨ini, u, rfl⟩
    · rw [runTog_nil (r := (r.1, 1)) (show (0 : Int) < 1 by decide)]
      show runTog ([] ++ [(r.1, 1)]) _ = _
      rw [tog_ones n 1 [] _ (by decide), e3]
      show runTog [r] _ = _
      rw [tog_expand l [r] hp' hn]
      rfl
    · have e : u.1 ≠ r.1 := by
        have hn2 := hn
        rw [List.map_append, List.map_append] at hn2
        exact nb_mid hn2
      rw [runTog_ne (r := (r.1, 1)) (show (0 : Int) < 1 by decide) e, tog_ones n 1 _ _ (by decide), e3]
      show runTog (ini ++ [u] ++ [r]) _ = _
      rw [tog_expand l _ hp' (by rw [List.append_assoc]; exact hn), List.append_assoc]
      rfl
theorem GR.word {l : List Run} (h : GR l) : runTog [] (ones (expand l)) = l := by
  rw [tog_expand l [] h.pos (by rw [List.nil_append]; exact h.gd.nb)]
  rfl
theorem doR_zeros : ∀ (l : List Run) (t : T3), doR (l.map fun r => (r.1, 0)) t = t
  | [], _ => rfl
  | r :: l, t => by
    obtain ⟨x, y, z⟩ := t
    show doR (l.map fun r => (r.1, 0)) (x + dx r.1 * 0, y + dy r.1 * 0, z + x * dy r.1 * 0) = _
    rw [doR_zeros l]
    simp
theorem stepL_zero : ∀ (l : List Run), (∀ r, r ∈ l → 0 < r.2) → stepL l 0 = l.map fun r => (r.1, 0)
  | [], _ => rfl
  | r :: l, h => by
    have hk := h r List.mem_cons_self
    have ih := stepL_zero l fun u hu => h u (List.mem_cons_of_mem _ hu)
    show (r.1, min r.2 0) :: stepL l (0 - min r.2 0) = (r.1, 0) :: _
    rw [show min r.2 0 = 0 by omega, show (0 : Int) - 0 = 0 by rfl, ih]
theorem stepL_all : ∀ (l : List Run), (∀ r, r ∈ l → 0 < r.2) → stepL l (sumR l) = l
  | [], _ => rfl
  | r :: l, h => by
    have hk := h r List.mem_cons_self
    have hp' : ∀ u, u ∈ l → 0 < u.2 := fun u hu => h u (List.mem_cons_of_mem _ hu)
    have ih := stepL_all l hp'
    have h0 := sumR_nonneg (l := l) fun u hu => Int.le_of_lt (hp' u hu)
    show (r.1, min r.2 (sumR (r :: l))) :: stepL l (sumR (r :: l) - min r.2 (sumR (r :: l))) = r :: l
    rw [sumR_cons, show min r.2 (r.2 + sumR l) = r.2 by omega, show r.2 + sumR l - r.2 = sumR l by omega, ih]
theorem stepL_mid : ∀ (a : List Run) (r : Run) (z : List Run) (n : Int), (∀ u, u ∈ a ++ r :: z → 0 < u.2) → 0 ≤ n → n ≤ r.2 → stepL (a ++ r :: z) (sumR a + n) = a ++ (r.1, n) :: z.map fun r => (r.1, 0)
  | [], r, z, n, h, h0, h1 => by
    show (r.1, min r.2 (sumR [] + n)) :: stepL z (sumR [] + n - min r.2 (sumR [] + n)) = _
    rw [sumR_nil, show (0 : Int) + n = n by omega, show min r.2 n = n by omega, show n - n = 0 by omega, stepL_zero z fun u hu => h u (List.mem_cons_of_mem _ hu)]
    rfl
  | v :: a, r, z, n, h, h0, h1 => by
    have hp' : ∀ u, u ∈ a ++ r :: z → 0 < u.2 := fun u hu => h u (List.mem_cons_of_mem _ hu)
    have hv := h v List.mem_cons_self
    have h2 := sumR_nonneg (l := a) fun u hu => Int.le_of_lt (hp' u (List.mem_append_left _ hu))
    show (v.1, min v.2 (sumR (v :: a) + n)) :: stepL (a ++ r :: z) (sumR (v :: a) + n - min v.2 (sumR (v :: a) + n)) = _
    rw [sumR_cons, show min v.2 (v.2 + sumR a + n) = v.2 by omega, show v.2 + sumR a + n - v.2 = sumR a + n by omega, stepL_mid a r z n hp' h0 h1]
    rfl
theorem expand_take (a : List Run) (r : Run) (z : List Run) (n : Int) (h : ∀ u, u ∈ a ++ r :: z → 0 < u.2) (h0 : 0 ≤ n) (h1 : n ≤ r.2) : (expand (a ++ r :: z)).take (sumR a + n).toNat = expand (a ++ [(r.1, n)]) := by
  have ha : ∀ u, u ∈ a → 0 ≤ u.2 := fun u hu => Int.le_of_lt (h u (List.mem_append_left _ hu))
  have hl := expand_len ha
  have h2 := sumR_nonneg ha
  rw [expand_append, expand_append, List.take_append]
  have e1 : (sumR a + n).toNat = (expand a).length + n.toNat := by omega
  rw [e1, List.take_of_length_le (by omega), show (expand a).length + n.toNat - (expand a).length = n.toNat by omega]
  congr 1
  show (List.replicate r.2.toNat r.1 ++ expand z).take n.toNat = List.replicate n.toNat r.1 ++ []
  rw [List.append_nil, List.take_append, List.length_replicate, List.take_replicate, show n.toNat - r.2.toNat = 0 by omega, List.take_zero, List.append_nil, show min n.toNat r.2.toNat = n.toNat by omega]
theorem split_at {l : List Run} {k : Nat} {r : Run} (h : l[k]? = some r) : l = l.take k ++ r :: l.drop (k + 1) := by
  obtain ⟨hk, e⟩ := List.getElem?_eq_some_iff.mp h
  have : l.drop k = r :: l.drop (k + 1) := by rw [List.drop_eq_getElem_cons hk, e]
  rw [← this, List.take_append_drop]
theorem mul_one_sign {c : Nat} {n : Int} (h0 : 0 ≤ n) (h1 : n ≤ 100000) : MulOk ⟨#[c]⟩ n ∧ Txt.mul ⟨#[c]⟩ n = wd (List.replicate n.toNat c) := by
  refine ⟨⟨?_, fun h2 h3 => ?_, fun h2 h3 => ?_⟩, ?_⟩
  · rw [Bool.or_eq_false_iff]
    exact ⟨decide_eq_false (by omega), decide_eq_false (by omega)⟩
  · show ¬ ((1 : Int) > (2 ^ 63 - 1) / n)
    have : 1 ≤ (2 ^ 63 - 1) / n := by
      rw [Int.le_ediv_iff_mul_le (by omega)]
      omega
    omega
  · show Builtin.Str.tooLong (1 * n.toNat) = false
    unfold Builtin.Str.tooLong
    rw [decide_eq_false]
    have e := sizeLine_eq
    omega
  · unfold Txt.mul
    by_cases h2 : n < 1
    · rw [if_pos h2]
      have : n = 0 := by omega
      subst this
      rfl
    · rw [if_neg h2]
      split
      · rename_i h3
        have h4 : n = 1 := by
          rw [Bool.or_eq_true] at h3
          rcases h3 with h3 | h3
          · exact eq_of_beq h3
          · cases h3
        subst h4
        rfl
      · congr 1
        generalize n.toNat = m
        have go : ∀ (m : Nat) (acc : Array Nat), (List.replicate m (#[c] : Array Nat)).foldl (· ++ ·) acc = acc ++ (List.replicate m c).toArray := by
          intro m
          induction m with
          | zero => intro acc; simp
          | succ m ih =>
            intro acc
            rw [List.replicate_succ, List.foldl_cons, ih, List.replicate_succ]
            apply Array.ext'
            simp
        rw [go]
        simp
end Ar
namespace Ar
open PySem PySem.Spec PyProof.Rows L2
/-! ### helps for k02's walk -/
theorem ones_ltr {cs : List Nat} (h : LetW cs) : LetR (ones cs) := fun r hr => by
  obtain ⟨c, hc, rfl⟩ := List.mem_map.mp hr
  exact h c hc
theorem gd_nil {n : Nat} : Gd n [] := ⟨(by intro r hr; cases hr), (by intro i a b h1 h2; simp at h1)⟩
theorem ones_len {cs : List Nat} (h : LetW cs) : (runTog [] (ones cs)).length ≤ cs.length := by
  have := (tog_good (ones cs) [] 2000 (fun r hr => by
    obtain ⟨c, hc, rfl⟩ := List.mem_map.mp hr
    exact ⟨h c hc, Bd.lit (n := 2000) rfl⟩) gd_nil).2
  unfold ones at this ⊢
  rw [List.length_map] at this
  simpa using this
theorem ones_rn {cs : List Nat} : (charsD (wd cs)).map (fun d => D.tup [d, .int 1]) = (ones cs).map rn := by
  rw [chars_wd]
  unfold ones
  rw [List.map_map, List.map_map]
  rfl
def sndD : D → D
  | .tup [_, b] => b
  | d => d
theorem snd_rn {l : List Run} : (l.map rn).map sndD = (l.map (·.2)).map D.int := by
  rw [List.map_map, List.map_map]
  rfl
def mulD : D → D
  | .tup [.str z, .int n] => .str (Txt.mul z n)
  | d => d
theorem mul_rn {l : List Run} (h : ∀ r, r ∈ l → 0 ≤ r.2 ∧ r.2 ≤ 100000) : (l.map rn).map mulD = (l.map fun r => wd (List.replicate r.2.toNat r.1)).map D.str := by
  rw [List.map_map, List.map_map]
  refine List.map_congr_left fun r hr => ?_
  obtain ⟨h1, h2⟩ := h r hr
  show D.str (Txt.mul ⟨#[r.1]⟩ r.2) = _
  rw [(mul_one_sign h1 h2).2]
  rfl
theorem exp_sum : ∀ l : List Run, ((l.map fun r => wd (List.replicate r.2.toNat r.1)).map (·.length)).sum = (expand l).length
  | [] => rfl
  | r :: l => by
    rw [List.map_cons, List.map_cons, List.sum_cons, exp_sum l, wd_len]
    show _ = (List.replicate r.2.toNat r.1 ++ expand l).length
    rw [List.length_append]
theorem sjoin_exp : ∀ l : List Run, Str.join (Str.ofString "") (l.map fun r => wd (List.replicate r.2.toNat r.1)) = wd (expand l)
  | [] => rfl
  | [r] => by
    show wd (List.replicate r.2.toNat r.1) = wd (List.replicate r.2.toNat r.1 ++ [])
    rw [List.append_nil]
  | r :: u :: l => by
    have h := sjoin_exp (u :: l)
    rw [List.map_cons] at h
    show wd (List.replicate r.2.toNat r.1) ++ (Str.ofString "") ++ Str.join (Str.ofString "") (wd (List.replicate u.2.toNat u.1) :: l.map _) = _
    rw [h, str_nil, wd_append]
    rfl
theorem join_exp (l : List Run) : Txt.join (Str.ofString "") (l.map fun r => wd (List.replicate r.2.toNat r.1)) = wd (expand l) := by
  show Builtin.Str.glued (Str.ofString "") _ = _
  rw [StrLaws.glued_eq_join]
  exact sjoin_exp l
def backD : D → D
  | .tup [.str z, n] => .tup [ch (spinN 2 (z.cps.getD 0 0)), n]
  | d => d
theorem back_rn {l : List Run} : (l.map rn).reverse.map backD = (back l).map rn := by
  unfold back
  rw [← List.map_reverse, List.map_map, List.map_map]
  rfl
theorem stepL_ltr : ∀ {l : List Run} (n : Int), LetR l → LetR (stepL l n)
  | [], _, _ => by intro r hr; cases hr
  | u :: l, n, h => fun r hr => by
    rcases List.mem_cons.mp hr with e | e
    · rw [e]
      exact h u List.mem_cons_self
    · exact stepL_ltr _ (fun v hv => h v (List.mem_cons_of_mem _ hv)) r e
theorem stepL_each : ∀ {l : List Run} {n : Int}, Gd 1800 l → 0 ≤ n → ∀ r, r ∈ stepL l n → 0 ≤ r.2 ∧ Bd 1800 r.2
  | [], _, _, _ => by intro r hr; cases hr
  | u :: l, n, h, h0 => fun r hr => by
    obtain ⟨_, hu, hb⟩ := h.each u List.mem_cons_self
    rcases List.mem_cons.mp hr with e | e
    · rw [e]
      exact ⟨by show 0 ≤ min u.2 n; omega, Bd.le (y := u.2) (by show 0 ≤ min u.2 n; omega) (by show min u.2 n ≤ u.2; omega) hb⟩
    · refine stepL_each (l := l) ⟨fun v hv => h.each v (List.mem_cons_of_mem _ hv), fun i a b h1 h2 => ?_⟩ (by omega) r e
      have h3 := h.nb
      rw [List.map_cons] at h3
      exact h3 (i + 1) a b (by rw [List.getElem?_cons_succ]; exact h1) (by rw [List.getElem?_cons_succ]; exact h2)
theorem step_good {l : List Run} {n : Int} (hg : Gd 1800 l) (hz : (stepL l n).length ≤ 100) (h0 : 0 ≤ n) : doR (runTog [] (stepL l n)) (0, 0, 0) = doR (stepL l n) (0, 0, 0) ∧ (∀ r, r ∈ runTog [] (stepL l n) → Ltr r.1 ∧ Bd 2000 r.2) ∧ (runTog [] (stepL l n)).length ≤ 200 := by
  have hl : LetR l := fun r hr => (hg.each r hr).1
  have hw := stepL_ltr n hl
  have he := stepL_each hg h0
  obtain ⟨a, b⟩ := tog_good (stepL l n) [] 1800 (fun r hr => ⟨hw r hr, (he r hr).2⟩) gd_nil
  rw [List.length_nil] at b
  exact ⟨doR_tog _ _ hw (fun r hr => (he r hr).1) (by intro r hr; cases hr), fun r hr => ⟨(a.each r hr).1, (a.each r hr).2.2.mono (by omega)⟩, by omega⟩
theorem do_p21 {X : Cx} {S : Sto} {Φ : D → Sto → Prop} (q : Φ (.int 1000000000000000000000) S) : DO X (binaryOp .Pow) (.int 10) (.int 21) S Φ := do_pow ⟨by decide, by decide, by decide⟩ q
theorem fitL_snoc {n : Nat} : ∀ {l : List D} {d : D}, fitL n l = true → fitD n d = true → fitL n (l ++ [d]) = true
  | [], d, _, h => by
    show fitL n [d] = true
    unfold fitL
    rw [h]
    unfold fitL
    rfl
  | c :: l, d, h, k => by
    unfold fitL at h
    rw [Bool.and_eq_true] at h
    show fitL n (c :: (l ++ [d])) = true
    unfold fitL
    rw [h.1, fitL_snoc h.2 k]
    rfl
theorem nrmL_append {l m : List D} : nrmL (l ++ m) = nrmL l ++ nrmL m := by
  rw [nrmL_map, nrmL_map, nrmL_map, List.map_append]
theorem tupO_in {n : Nat} {l : List D} (h : tupOL n l = true) : ∀ d, d ∈ l → tupO n d = true := fun d hd => by
  induction l with
  | nil => cases hd
  | cons c l ih =>
    unfold tupOL at h
    rw [Bool.and_eq_true] at h
    rcases List.mem_cons.mp hd with e | e
    · rw [e]; exact h.1
    · exact ih h.2 e
theorem asg_par3l {X : Cx} {t a b : Expr} {es : List Expr} {k2 : Nat} {q p2 pos : Pos} {ρ : Ro} {S : Sto} {E : DEnds} (h : DS X (.Assign [t] (.Tuple [a, b, .List es q] k2 p2) pos) ρ S E) : DS X (.Assign [t] (.Tuple [a, b, .List es q] k2 p2) pos) ρ S E := h
theorem asg_par2l {X : Cx} {t a : Expr} {es : List Expr} {k2 : Nat} {q p2 pos : Pos} {ρ : Ro} {S : Sto} {E : DEnds} (h : DS X (.Assign [t] (.Tuple [a, .List es q] k2 p2) pos) ρ S E) : DS X (.Assign [t] (.Tuple [a, .List es q] k2 p2) pos) ρ S E := h
theorem asg_par3a {X : Cx} {t a b : Expr} {es : List Expr} {k2 : Nat} {q p2 pos : Pos} {ρ : Ro} {S : Sto} {E : DEnds} (h : DS X (.Assign [t] (.Tuple [.List es q, a, b] k2 p2) pos) ρ S E) : DS X (.Assign [t] (.Tuple [.List es q, a, b] k2 p2) pos) ρ S E := h
def goodsF (acc : List Run) (m : List Nat) : List Nat := m.filter fun o => match acc.getLast? with | some u => !decide (o = u.1) | none => true
theorem goodsF_nil {m : List Nat} : goodsF [] m = m := by
  unfold goodsF
  exact List.filter_eq_self.mpr fun _ _ => rfl
theorem goodsF_last {ini : List Run} {u : Run} {m : List Nat} : goodsF (ini ++ [u]) m = m.filter fun o => !decide (o = u.1) := by
  unfold goodsF
  rw [List.getLast?_concat]
theorem goodsF_mem {acc : List Run} {o : Nat} (h : o ∈ goodsF acc [114, 117, 108, 100]) : Ltr o ∧ ∀ ini u, acc = ini ++ [u] → u.1 ≠ o := by
  unfold goodsF at h
  obtain ⟨h1, h2⟩ := List.mem_filter.mp h
  refine ⟨?_, fun ini u e => ?_⟩
  · simp only [List.mem_cons, List.not_mem_nil, or_false] at h1
    exact h1
  · subst e
    rw [List.getLast?_concat] at h2
    simp only [Bool.not_eq_true', decide_eq_false_iff_not] at h2
    exact fun q => h2 q.symm
theorem goodsF_len {acc : List Run} (h : LetR acc) : 1 ≤ (goodsF acc [114, 117, 108, 100]).length ∧ (goodsF acc [114, 117, 108, 100]).length ≤ 4 := by
  rcases nil_or_last acc with rfl | ⟨ini, u, rfl⟩
  · rw [goodsF_nil]
    exact ⟨by decide, by decide⟩
  · rw [goodsF_last]
    rcases h u (List.mem_append_right _ (List.mem_singleton.mpr rfl)) with e | e | e | e <;> rw [e] <;> exact ⟨by decide, by decide⟩
theorem atI_map {α β : Type} {f : α → β} {l : List α} {i : Int} {e : α} (h : atI l i = some e) : atI (l.map f) i = some (f e) := by
  unfold atI at h ⊢
  rw [List.length_map]
  cases hj : ixN l.length i with
  | none => rw [hj] at h; cases h
  | some j =>
    rw [hj] at h
    show (l.map f)[j]? = _
    have h2 : l[j]? = some e := h
    rw [List.getElem?_map, h2]
    rfl
theorem gd_snoc {n : Nat} {acc : List Run} {o : Nat} {k : Int} (h : Gd n acc) (ho : Ltr o) (hk : 0 < k) (hb : Bd n k) (hn : ∀ ini u, acc = ini ++ [u] → u.1 ≠ o) : Gd n (acc ++ [(o, k)]) := by
  refine ⟨fun r hr => ?_, ?_⟩
  · rcases List.mem_append.mp hr with q | q
    · exact h.each r q
    · rw [List.mem_singleton.mp q]
      exact ⟨ho, hk, hb⟩
  · rcases nil_or_last acc with rfl | ⟨ini, u, rfl⟩
    · intro i a b h1 h2
      have := (List.getElem?_eq_some_iff.mp h2).1
      simp at this
    · have h2 := h.nb
      rw [List.map_append] at h2
      rw [List.map_append, List.map_append]
      exact nb_snoc h2 (hn ini u rfl)
end Ar
namespace Ar
open PySem PySem.Spec PyProof.Rows L2
/-! ### helps for the law of k02 -/
theorem Gd.gr {n : Nat} {l : List Run} (h : Gd n l) (k : n ≤ 2000) (hl : l.length ≤ 200) : GR l := ⟨h.mono k, hl⟩
theorem cGoodRG_i {f : List Run → D} {l : List Run} {S : Sto} {Φ} (h : GR l) (q : Φ (f l) S) : cGoodR f [.tup (l.map rn)] S Φ := ⟨l, rfl, h.good, h.bd, q⟩
/-- all counts many times -/
def sc (K : Int) (l : List Run) : List Run := l.map fun r => (r.1, r.2 * K)
def scD (K : Int) : D → D
  | .tup [z, .int n] => .tup [z, .int (n * K)]
  | d => d
theorem sc_rn {K : Int} {l : List Run} : (l.map rn).map (scD K) = (sc K l).map rn := by
  unfold sc
  rw [List.map_map, List.map_map]
  rfl
theorem gd_sc {K : Int} {l : List Run} (h : Gd 200 l) (hK : 0 < K) (hb : Bd 90 K) : Gd 300 (sc K l) := by
  refine ⟨fun r hr => ?_, ?_⟩
  · obtain ⟨u, hu, rfl⟩ := List.mem_map.mp hr
    obtain ⟨h1, h2, h3⟩ := h.each u hu
    exact ⟨h1, Int.mul_pos h2 hK, (h3.mul hb).mono (by decide)⟩
  · have h2 := h.nb
    unfold sc
    rw [List.map_map]
    exact h2
theorem nb_rev {l : List Nat} (h : Nb l) : Nb l.reverse := fun i a b h1 h2 => by
  have hb := (List.getElem?_eq_some_iff.mp h2).1
  rw [List.length_reverse] at hb
  rw [List.getElem?_reverse (by omega)] at h1 h2
  have e : l.length - 1 - i = l.length - 1 - (i + 1) + 1 := by omega
  rw [e] at h1
  exact fun q => h _ b a h2 h1 q.symm
theorem spin_inj {a b : Nat} (ha : Ltr a) (hb : Ltr b) (h : a ≠ b) : spinN 2 a ≠ spinN 2 b := by
  rcases ha with rfl | rfl | rfl | rfl <;> rcases hb with rfl | rfl | rfl | rfl <;> first | exact absurd rfl h | decide
theorem gd_back {n : Nat} {l : List Run} (h : Gd n l) : Gd n (back l) := by
  refine ⟨fun r hr => ?_, ?_⟩
  · obtain ⟨u, hu, rfl⟩ := List.mem_map.mp hr
    obtain ⟨h1, h2, h3⟩ := h.each u (List.mem_reverse.mp hu)
    exact ⟨ltr_spinN 2 h1, h2, h3⟩
  · have h2 := nb_rev h.nb
    unfold back
    rw [List.map_map]
    intro i a b q1 q2
    rw [← List.map_reverse] at h2
    rw [List.getElem?_map, Option.map_eq_some_iff] at q1 q2
    obtain ⟨u, hu, rfl⟩ := q1
    obtain ⟨v, hv, rfl⟩ := q2
    have m1 := (h.each u (List.mem_reverse.mp (List.mem_of_getElem? hu))).1
    have m2 := (h.each v (List.mem_reverse.mp (List.mem_of_getElem? hv))).1
    exact spin_inj m1 m2 (h2 i u.1 v.1 (by rw [List.getElem?_map, hu]; rfl) (by rw [List.getElem?_map, hv]; rfl))
theorem back_len {l : List Run} : (back l).length = l.length := by
  unfold back
  rw [List.length_map, List.length_reverse]
theorem gd_tog {n : Nat} {l m : List Run} (h : Gd n l) (k : Gd n m) : Gd (n + (l.length + m.length)) (runTog [] (l ++ m)) ∧ (runTog [] (l ++ m)).length ≤ l.length + m.length := by
  have h0 := tog_good (l ++ m) [] n (fun r hr => (List.mem_append.mp hr).elim (fun q => ⟨(h.each r q).1, (h.each r q).2.2⟩) (fun q => ⟨(k.each r q).1, (k.each r q).2.2⟩)) gd_nil
  rw [List.length_append, List.length_nil, Nat.zero_add] at h0
  exact h0
theorem tog_two {l m : List Run} (h : GR l) : runTog [] (l ++ m) = runTog l m := by
  rw [runTog_append, h.tog]
theorem do_two {l m : List Run} (h : GR l) (k : GR m) : doR (runTog [] (l ++ m)) (0, 0, 0) = joinT (doR l (0, 0, 0)) (doR m (0, 0, 0)) := by
  rw [doR_tog (l ++ m) [] (fun r hr => (List.mem_append.mp hr).elim (h.ltr r) (k.ltr r)) (fun r hr => Int.le_of_lt ((List.mem_append.mp hr).elim (h.pos r) (k.pos r))) (by intro r hr; cases hr), List.nil_append, doR_join]
theorem bd_doR : ∀ (l : List Run) (t : T3) (n : Nat), (∀ r, r ∈ l → Ltr r.1 ∧ Bd 2000 r.2) → n + l.length ≤ 200 → Bd (3000 + n) t.1 → Bd (3000 + n) t.2.1 → Bd (6000 + n) t.2.2 → Bd3 10000 (doR l t)
  | [], t, n, _, hl, h1, h2, h3 => by
    rw [List.length_nil] at hl
    exact ⟨h1.mono (by omega), h2.mono (by omega), h3.mono (by omega)⟩
  | r :: l, t, n, hw, hl, h1, h2, h3 => by
    rw [List.length_cons] at hl
    obtain ⟨hc, hb⟩ := hw r List.mem_cons_self
    have by_ : Bd 2 (dy r.1) := by rcases hc with e | e | e | e <;> rw [e] <;> exact Bd.lit rfl
    have bx : Bd 2 (dx r.1) := by rcases hc with e | e | e | e <;> rw [e] <;> exact Bd.lit rfl
    refine bd_doR l _ (n + 1) (fun u hu => hw u (List.mem_cons_of_mem _ hu)) (by omega) (h1.add2 ((bx.mul hb).mono (by omega))) (h2.add2 ((by_.mul hb).mono (by omega))) ?_
    exact h3.add2 (((h1.mul by_).mul hb).mono (by omega))
theorem bd_gr {l : List Run} (h : GR l) : Bd3 10000 (doR l (0, 0, 0)) := bd_doR l _ 0 h.both (by have := h.len; omega) (Bd.lit rfl) (Bd.lit rfl) (Bd.lit rfl)
theorem val_back {c : Nat} (h : Ltr c) : valV (mergeK [] [(Sum.inr (Str.ofString "r"), V.str (Str.ofString "l")), (Sum.inr (Str.ofString "l"), V.str (Str.ofString "r")), (Sum.inr (Str.ofString "u"), V.str (Str.ofString "d")), (Sum.inr (Str.ofString "d"), V.str (Str.ofString "u"))]) (Sum.inr (⟨#[c]⟩ : Str)) = some (V.str ⟨#[spinN 2 c]⟩) := by
  rcases h with rfl | rfl | rfl | rfl <;> rfl
theorem cutD_hi {α : Type} {f : α → D} {l : List α} {k : Int} (h0 : 0 ≤ k) (h1 : k ≤ l.length) : cutD (l.map f) none (some k) = (l.take k.toNat).map f := by
  unfold cutD
  rw [List.length_map]
  have e1 : HT.sIx l.length 0 none = 0 := rfl
  have e2 : HT.sIx l.length l.length (some k) = k.toNat := by
    unfold HT.sIx
    dsimp only
    (repeat' split) <;> omega
  rw [e1, e2, List.drop_zero, Nat.sub_zero, List.map_take]
theorem cutS_hi {cs : List Nat} {k : Int} (h0 : 0 ≤ k) (h1 : k ≤ cs.length) : cutS (wd cs) none (some k) = wd (cs.take k.toNat) := by
  unfold cutS
  have e0 : (wd cs).length = cs.length := wd_len
  have e1 : HT.sIx cs.length 0 none = 0 := rfl
  have e2 : HT.sIx cs.length cs.length (some k) = k.toNat := by
    unfold HT.sIx
    dsimp only
    (repeat' split) <;> omega
  simp only [e0, e1, e2, List.drop_zero, Nat.sub_zero]
theorem fit2R {l : List Run} (h : l.length ≤ 200) : fitD 2 (.tup (l.map rn)) = true := by
  unfold fitD
  rw [fit_runs, Bool.and_true]
  exact Nat.ble_eq.mpr (le_line (m := 200) (by rw [List.length_map]; exact h) rfl)
theorem noFrz_runs : ∀ l : List Run, noFrzL (l.map rn) = true
  | [] => by simp [noFrzL]
  | r :: l => by
    rw [List.map_cons]
    unfold noFrzL
    rw [noFrz_runs l]
    rfl
theorem noFrzR {l : List Run} : noFrz (.tup (l.map rn)) = true := by
  unfold noFrz
  exact noFrz_runs l
theorem fit_lst {n : Nat} {l : List D} (h : Nat.ble l.length 1000 = true) (k : ∀ d, d ∈ l → fitD n d = true) : fitD (n + 1) (.lst l) = true := by
  unfold fitD
  rw [Bool.and_eq_true]
  refine ⟨Nat.ble_eq.mpr (sz h), ?_⟩
  clear h
  induction l with
  | nil => unfold fitL; rfl
  | cons c l ih =>
    unfold fitL
    rw [k c List.mem_cons_self, ih fun d hd => k d (List.mem_cons_of_mem _ hd)]
    rfl
theorem noFrz_lst {l : List D} (k : ∀ d, d ∈ l → noFrz d = true) : noFrz (.lst l) = true := by
  unfold noFrz
  induction l with
  | nil => unfold noFrzL; rfl
  | cons c l ih =>
    unfold noFrzL
    rw [k c List.mem_cons_self, ih fun d hd => k d (List.mem_cons_of_mem _ hd)]
    rfl
theorem cnt_tup {l : List Run} : cntD (.tup (l.map rn)) = l.length + 1 := by
  conv => { lhs; unfold cntD }
  rw [cnt_runs]
theorem sum_le {l : List Run} {n : Int} (h : ∀ r, r ∈ l → r.2 ≤ n) : sumR l ≤ n * l.length := by
  induction l with
  | nil => rw [sumR_nil]; simp
  | cons r l ih =>
    have h1 := h r List.mem_cons_self
    have h2 := ih fun u hu => h u (List.mem_cons_of_mem _ hu)
    rw [sumR_cons, List.length_cons]
    have e : n * ((l.length + 1 : Nat) : Int) = n * (l.length : Int) + n := by
      rw [Int.natCast_add, Int.mul_add]
      simp
    omega
theorem part_do {m : List Run} {i : Nat} {r : Run} {n : Int} (h : GR m) (e : m[i]? = some r) (h0 : 0 ≤ n) (h1 : n ≤ r.2) : doR (stepL m (sumR (m.take i) + n)) (0, 0, 0) = doR (m.take i ++ [(r.1, n)]) (0, 0, 0) := by
  have hs := split_at e
  have hp : ∀ u, u ∈ m.take i ++ r :: m.drop (i + 1) → 0 < u.2 := fun u hu => h.pos u (by rw [hs]; exact hu)
  have e2 := stepL_mid (m.take i) r (m.drop (i + 1)) n hp h0 h1
  rw [← hs] at e2
  rw [e2, doR_append, doR_append]
  show doR ((r.1, n) :: _) _ = _
  rw [show ((r.1, n) :: (m.drop (i + 1)).map fun r => (r.1, (0 : Int))) = [(r.1, n)] ++ (m.drop (i + 1)).map fun r => (r.1, (0 : Int)) from rfl, doR_append, doR_zeros]
theorem part_word {m : List Run} {i : Nat} {r : Run} {n : Int} (h : GR m) (e : m[i]? = some r) (h0 : 0 ≤ n) (h1 : n ≤ r.2) : doW ((expand m).take (sumR (m.take i) + n).toNat) (0, 0, 0) = doR (m.take i ++ [(r.1, n)]) (0, 0, 0) := by
  have hs := split_at e
  have hp : ∀ u, u ∈ m.take i ++ r :: m.drop (i + 1) → 0 < u.2 := fun u hu => h.pos u (by rw [hs]; exact hu)
  have e2 := expand_take (m.take i) r (m.drop (i + 1)) n hp h0 h1
  rw [← hs] at e2
  have hr := h.ltr r (List.mem_of_getElem? e)
  rw [e2, doW_expand]
  · intro u hu
    rcases List.mem_append.mp hu with q | q
    · exact h.ltr u (List.mem_of_mem_take q)
    · rw [List.mem_singleton.mp q]
      exact hr
  · intro u hu
    rcases List.mem_append.mp hu with q | q
    · exact Int.le_of_lt (h.pos u (List.mem_of_mem_take q))
    · rw [List.mem_singleton.mp q]
      exact h0
theorem part_le {m : List Run} {i : Nat} {r : Run} (h : GR m) (e : m[i]? = some r) : 0 ≤ sumR (m.take i) ∧ sumR (m.take i) + r.2 ≤ sumR m := by
  have hs := split_at e
  have e2 : sumR m = sumR (m.take i) + (r.2 + sumR (m.drop (i + 1))) := by
    conv => { lhs; rw [hs] }
    rw [sumR_append, sumR_cons]
  have h1 := sumR_nonneg (l := m.take i) fun u hu => Int.le_of_lt (h.pos u (List.mem_of_mem_take hu))
  have h2 := sumR_nonneg (l := m.drop (i + 1)) fun u hu => Int.le_of_lt (h.pos u (List.mem_of_mem_drop hu))
  omega
end Ar
namespace Ar
open PySem PySem.Spec PyProof.Rows L2
/-! ### contracts and plain law of k01 -/
abbrev P2 := Int × Int
abbrev prD (p : P2) : D := .tup [.int p.1, .int p.2]
def cor : List Nat → P2 → List P2
  | [], p => [p]
  | c :: cs, p => p :: cor cs (p.1 + dx c, p.2 + dy c)
def sqs : List Nat → Int → List Int
  | [], _ => []
  | c :: cs, x => x * dy c :: sqs cs (x + dx c)
/-- letters with opposite neighbours taken out -/
def bareL : List Nat → List Nat → List Nat
  | acc, [] => acc
  | acc, c :: cs => if acc.getLast? = some (spinN 2 c) then bareL acc.dropLast cs else bareL (acc ++ [c]) cs
def cSpin : Spec := fun ds S Φ => ∃ cs q, ds = [.str (wd cs), .int q] ∧ LetW cs ∧ cs.length ≤ 1000 ∧ Φ (.str (wd (cs.map (spinN (q % 4).toNat)))) S
theorem cSpin_i {cs : List Nat} {q : Int} {S : Sto} {Φ} (h : LetW cs) (h2 : cs.length ≤ 1000) (k : Φ (.str (wd (cs.map (spinN (q % 4).toNat)))) S) : cSpin [.str (wd cs), .int q] S Φ := ⟨cs, q, rfl, h, h2, k⟩
def cClosed : Spec := fun ds S Φ => ∃ cs, ds = [.str (wd cs)] ∧ LetW cs ∧ cs.length ≤ 1000 ∧ (doW cs (0, 0, 0)).1 = 0 ∧ (doW cs (0, 0, 0)).2.1 = 0 ∧ Φ (.int (doW cs (0, 0, 0)).2.2) S
theorem cClosed_i {cs : List Nat} {S : Sto} {Φ} (h : LetW cs) (h2 : cs.length ≤ 1000) (h3 : (doW cs (0, 0, 0)).1 = 0) (h4 : (doW cs (0, 0, 0)).2.1 = 0) (k : Φ (.int (doW cs (0, 0, 0)).2.2) S) : cClosed [.str (wd cs)] S Φ := ⟨cs, rfl, h, h2, h3, h4, k⟩
theorem letW_rev {cs : List Nat} (h : LetW cs) : LetW cs.reverse := fun c hc => h c (List.mem_reverse.mp hc)
theorem letW_spin {cs : List Nat} (n : Nat) (h : LetW cs) : LetW (cs.map (spinN n)) := letW_map (fun _ hc => ltr_spinN n hc) h
theorem letW_flip {cs : List Nat} (h : LetW cs) : LetW (cs.map flip1) := letW_map (fun _ hc => ltr_flip1 hc) h
def mirF (z : Str) : Option D := match z.cps.toList with
  | [114] => some (ch 108)
  | [117] => some (ch 117)
  | [108] => some (ch 114)
  | [100] => some (ch 100)
  | _ => none
theorem mirF_ltr {c : Nat} (h : Ltr c) : mirF ⟨#[c]⟩ = some (ch (flip1 c)) := by
  rcases h with rfl | rfl | rfl | rfl <;> rfl
theorem rev_wd {cs : List Nat} : (⟨(wd cs).cps.toList.reverse.toArray⟩ : Str) = wd cs.reverse := rfl
/-! the walks -/
theorem cor_doW : ∀ (cs : List Nat) (t : T3), (cor cs (t.1, t.2.1)).getLast? = some ((doW cs t).1, (doW cs t).2.1)
  | [], t => rfl
  | c :: cs, t => by
    have ih := cor_doW cs (t.1 + dx c, t.2.1 + dy c, t.2.2 + t.1 * dy c)
    have hne : cor cs (t.1 + dx c, t.2.1 + dy c) ≠ [] := by cases cs <;> simp [cor]
    show ((t.1, t.2.1) :: cor cs (t.1 + dx c, t.2.1 + dy c)).getLast? = _
    rw [List.getLast?_cons_of_ne_nil hne]
    exact ih
theorem sqs_doW : ∀ (cs : List Nat) (t : T3), (doW cs t).2.2 = t.2.2 + (sqs cs t.1).sum
  | [], t => by simp [sqs, doW]
  | c :: cs, t => by
    show (doW cs _).2.2 = _
    rw [sqs_doW cs]
    show t.2.2 + t.1 * dy c + (sqs cs (t.1 + dx c)).sum = t.2.2 + (t.1 * dy c :: sqs cs (t.1 + dx c)).sum
    rw [List.sum_cons]
    omega
/-! taking out pairs of opposite letters -/
theorem spin2 {c : Nat} (h : Ltr c) : spinN 2 (spinN 2 c) = c := by
  rcases h with rfl | rfl | rfl | rfl <;> rfl
theorem bare_ltr : ∀ (cs acc : List Nat), LetW acc → LetW cs → LetW (bareL acc cs)
  | [], acc, h, _ => h
  | c :: cs, acc, h, k => by
    unfold bareL
    split
    · exact bare_ltr cs _ (fun d hd => h d (List.dropLast_sublist _ |>.subset hd)) k.tail
    · exact bare_ltr cs _ (h.append fun d hd => by rw [List.mem_singleton.mp hd]; exact k.head) k.tail
/-- no neighbours that undo each other -/
def Red (l : List Nat) : Prop := ∀ (i : Nat) (a b : Nat), l[i]? = some a → l[i + 1]? = some b → a ≠ spinN 2 b
theorem bare_red : ∀ (cs acc : List Nat), Red (acc ++ cs) → bareL acc cs = acc ++ cs
  | [], acc, _ => by simp [bareL]
  | c :: cs, acc, h => by
    have hn : ¬ acc.getLast? = some (spinN 2 c) := fun e => by
      rcases nil_or_last acc with rfl | ⟨ini, u, rfl⟩
      · simp at e
      · rw [List.getLast?_concat] at e
        refine h ini.length u c ?_ ?_ (Option.some.inj e)
        · rw [List.append_assoc, List.getElem?_append_right (Nat.le_refl _), Nat.sub_self]
          rfl
        · rw [List.append_assoc, List.getElem?_append_right (by omega)]
          simp
    unfold bareL
    rw [if_neg hn, bare_red cs _ (by rw [List.append_assoc]; exact h), List.append_assoc]
    rfl
theorem bareL_hit {acc : List Nat} {c : Nat} {cs : List Nat} (h : acc.getLast? = some (spinN 2 c)) : bareL acc (c :: cs) = bareL acc.dropLast cs := by
  rw [bareL, if_pos h]
theorem bareL_miss {acc : List Nat} {c : Nat} {cs : List Nat} (h : ¬ acc.getLast? = some (spinN 2 c)) : bareL acc (c :: cs) = bareL (acc ++ [c]) cs := by
  rw [bareL, if_neg h]
theorem bareL_append : ∀ (a b acc : List Nat), bareL acc (a ++ b) = bareL (bareL acc a) b
  | [], _, _ => by simp [bareL]
  | c :: a, b, acc => by
    rw [List.cons_append]
    by_cases h : acc.getLast? = some (spinN 2 c)
    · rw [bareL_hit h, bareL_hit h]
      exact bareL_append a b _
    · rw [bareL_miss h, bareL_miss h]
      exact bareL_append a b _
/-- the accumulator has no neighbours that undo each other -/
theorem red_snoc {acc : List Nat} {c : Nat} (h : Red acc) (k : ¬ acc.getLast? = some (spinN 2 c)) : Red (acc ++ [c]) := by
  intro i a b h1 h2 e
  by_cases hi : i + 1 < acc.length
  · rw [List.getElem?_append_left (by omega)] at h1
    rw [List.getElem?_append_left hi] at h2
    exact h i a b h1 h2 e
  · have hl : i + 1 < (acc ++ [c]).length := (List.getElem?_eq_some_iff.mp h2).1
    rw [List.length_append, List.length_singleton] at hl
    have hi2 : i + 1 = acc.length := by omega
    have e2 : b = c := by
      rw [hi2, List.getElem?_append_right (Nat.le_refl _), Nat.sub_self] at h2
      exact (Option.some.inj h2).symm
    rw [List.getElem?_append_left (by omega)] at h1
    apply k
    rw [List.getLast?_eq_getElem?, ← hi2, Nat.add_sub_cancel, h1, e, e2]
theorem red_drop {acc : List Nat} (h : Red acc) : Red acc.dropLast := fun i a b h1 h2 => by
  have g : ∀ (j x : Nat), acc.dropLast[j]? = some x → acc[j]? = some x := fun j x hx => by
    rw [List.getElem?_dropLast] at hx
    split at hx
    · exact hx
    · cases hx
  exact h i a b (g _ _ h1) (g _ _ h2)
theorem red_bare : ∀ (cs acc : List Nat), Red acc → Red (bareL acc cs)
  | [], _, h => h
  | c :: cs, acc, h => by
    by_cases k : acc.getLast? = some (spinN 2 c)
    · rw [bareL_hit k]
      exact red_bare cs _ (red_drop h)
    · rw [bareL_miss k]
      exact red_bare cs _ (red_snoc h k)
theorem red_nil : Red [] := fun i a b h1 _ => by simp at h1
/-- a pair of opposite letters told anywhere changes nothing -/
theorem bare_pair {c : Nat} (hc : Ltr c) (a b : List Nat) (ha : LetW a) : bareL [] (a ++ c :: spinN 2 c :: b) = bareL [] (a ++ b) := by
  rw [bareL_append, bareL_append]
  have hr := red_bare a [] red_nil
  have hw := bare_ltr a [] (by intro d hd; cases hd) ha
  generalize bareL [] a = acc at hr hw
  by_cases k : acc.getLast? = some (spinN 2 c)
  · rw [bareL_hit k]
    rcases nil_or_last acc with rfl | ⟨ini, u, rfl⟩
    · simp at k
    · rw [List.getLast?_concat] at k
      have hu : u = spinN 2 c := Option.some.inj k
      rw [List.dropLast_concat]
      have n2 : ¬ ini.getLast? = some (spinN 2 (spinN 2 c)) := fun e => by
        rcases nil_or_last ini with rfl | ⟨ini2, v, rfl⟩
        · simp at e
        · rw [List.getLast?_concat] at e
          refine hr ini2.length v u ?_ ?_ (by rw [hu]; exact Option.some.inj e)
          · rw [List.append_assoc, List.getElem?_append_right (Nat.le_refl _), Nat.sub_self]
            rfl
          · rw [List.append_assoc, List.getElem?_append_right (by omega)]
            simp
      rw [bareL_miss n2, hu]
  · rw [bareL_miss k, bareL_hit (by rw [List.getLast?_concat, spin2 hc]), List.dropLast_concat]
theorem pair_do {c : Nat} (h : Ltr c) (cs : List Nat) (t : T3) : doW (spinN 2 c :: c :: cs) t = doW cs t := by
  obtain ⟨x, y, z⟩ := t
  show doW cs (x + dx (spinN 2 c) + dx c, y + dy (spinN 2 c) + dy c, z + x * dy (spinN 2 c) + (x + dx (spinN 2 c)) * dy c) = _
  congr 1
  rcases h with rfl | rfl | rfl | rfl <;> simp [dx, dy, spinN, spin1] <;> grind
theorem bare_do : ∀ (cs acc : List Nat), LetW cs → doW (bareL acc cs) (0, 0, 0) = doW (acc ++ cs) (0, 0, 0)
  | [], acc, _ => by simp [bareL]
  | c :: cs, acc, h => by
    by_cases k : acc.getLast? = some (spinN 2 c)
    · rw [bareL_hit k, bare_do cs _ h.tail]
      rcases nil_or_last acc with rfl | ⟨ini, u, rfl⟩
      · simp at k
      · rw [List.getLast?_concat] at k
        rw [List.dropLast_concat, Option.some.inj k, List.append_assoc, doW_append, doW_append]
        exact (pair_do h.head cs _).symm
    · rw [bareL_miss k, bare_do cs _ h.tail, List.append_assoc]
      rfl
theorem hat_do (cs : List Nat) (h : LetW cs) : joinT (doW cs (0, 0, 0)) (doW (cs.reverse.map (spinN 2)) (0, 0, 0)) = (0, 0, 0) := by
  have e := back_do (ones cs) (ones_ltr h)
  have f : ∀ l : List Nat, doR (ones l) (0, 0, 0) = doW l (0, 0, 0) := fun l => by
    have g : ∀ (l : List Nat) (t : T3), doR (ones l) t = doW l t := fun l => by
      induction l with
      | nil => intro t; rfl
      | cons c l ih =>
        intro t
        show doR (ones l) (t.1 + dx c * 1, t.2.1 + dy c * 1, t.2.2 + t.1 * dy c * 1) = doW l _
        rw [Int.mul_one, Int.mul_one, Int.mul_one]
        exact ih _
    exact g l _
  have b : back (ones cs) = ones (cs.reverse.map (spinN 2)) := by
    unfold back ones
    rw [← List.map_reverse, List.map_map, List.map_map]
    rfl
  rw [b, f, f] at e
  exact e
end Ar
namespace Ar
open PySem PySem.Spec PyProof.Rows L2
/-! ### helps for k01's walk -/
theorem charsD_len {cs : List Nat} : (charsD (wd cs)).length = cs.length := by rw [chars_wd, List.length_map]
theorem cut_last {ini : List Nat} {u : Nat} : cutS (wd (ini ++ [u])) (some (-1)) none = wd [u] := by
  unfold cutS
  have e0 : (wd (ini ++ [u])).length = ini.length + 1 := by rw [wd_len, List.length_append, List.length_singleton]
  have e1 : HT.sIx (ini.length + 1) 0 (some (-1)) = ini.length := by
    unfold HT.sIx
    dsimp only
    (repeat' split) <;> omega
  have e2 : HT.sIx (ini.length + 1) (ini.length + 1) none = ini.length + 1 := rfl
  simp only [e0, e1, e2]
  show (⟨(((ini ++ [u]).toArray.toList.drop ini.length).take (ini.length + 1 - ini.length)).toArray⟩ : Str) = wd [u]
  rw [List.toList_toArray, List.drop_left, show ini.length + 1 - ini.length = 1 by omega]
  rfl
theorem cut_last0 : cutS (wd []) (some (-1)) none = wd [] := by
  decide
theorem cut_but {ini : List Nat} {u : Nat} : cutS (wd (ini ++ [u])) none (some (-1)) = wd ini := by
  unfold cutS
  have e0 : (wd (ini ++ [u])).length = ini.length + 1 := by rw [wd_len, List.length_append, List.length_singleton]
  have e1 : HT.sIx (ini.length + 1) (ini.length + 1) (some (-1)) = ini.length := by
    unfold HT.sIx
    dsimp only
    (repeat' split) <;> omega
  have e2 : HT.sIx (ini.length + 1) 0 none = 0 := rfl
  simp only [e0, e1, e2, List.drop_zero, Nat.sub_zero]
  show (⟨((ini ++ [u]).toArray.toList.take ini.length).toArray⟩ : Str) = wd ini
  rw [List.toList_toArray, List.take_left]
theorem cor_len : ∀ (cs : List Nat) (p : P2), (cor cs p).length = cs.length + 1
  | [], _ => rfl
  | c :: cs, p => by
    show (cor cs _).length + 1 = _
    rw [cor_len cs]
    rfl
theorem sqs_len : ∀ (cs : List Nat) (x : Int), (sqs cs x).length = cs.length
  | [], _ => rfl
  | c :: cs, x => by
    show (sqs cs _).length + 1 = _
    rw [sqs_len cs]
    rfl
theorem eqv_p2 {a b c d : Int} : PyData.eqv (toPy (.tup [.int a, .int b])) (toPy (.tup [.int c, .int d])) = decide ((a, b) = (c, d)) := by
  simp only [toPy, toPyL, PyData.eqv, PyData.eqvAll]
  by_cases h1 : a = c <;> by_cases h2 : b = d <;> simp [h1, h2]
section
variable {X : Cx} {S : Sto} {Φ : D → Sto → Prop} {P : Program} {w : World} {K : PySem.W.Frag} {mg : Str → Option Value} {base : Heap} {tb : List (Str × Nat)} {names : List (Str × NameKind)} {k : Nat}
theorem do_eqP2 {a b c d : Int} (A : At X P w K mg base tb names k) (h : Φ (.bl (decide ((a, b) = (c, d)))) S) : DO X (compareOp .Eq) (.tup [.int a, .int b]) (.tup [.int c, .int d]) S Φ := do_eqD A rfl (by rw [eqv_p2]; exact h)
theorem do_neP2 {a b c d : Int} (A : At X P w K mg base tb names k) (h : Φ (.bl (!decide ((a, b) = (c, d)))) S) : DO X (compareOp .NotEq) (.tup [.int a, .int b]) (.tup [.int c, .int d]) S Φ := do_neD A rfl (by rw [eqv_p2]; exact h)
end
theorem cut3 {x y z : D} : cutD [x, y, z] none (some 2) = [x, y] := rfl
theorem do_p12 {X : Cx} {S : Sto} {Φ : D → Sto → Prop} (q : Φ (.int 1000000000000) S) : DO X (binaryOp .Pow) (.int 10) (.int 12) S Φ := do_pow ⟨by decide, by decide, by decide⟩ q
theorem fit_p : ∀ l : List P2, fitL 1 (l.map prD) = true
  | [] => by simp [fitL]
  | r :: l => by
    rw [List.map_cons]
    unfold fitL
    rw [fit_p l, Bool.and_true]
    rfl
theorem fit2P {l : List P2} (h : l.length ≤ 1000) : fitD 2 (.tup (l.map prD)) = true := by
  unfold fitD
  rw [fit_p, Bool.and_true]
  exact Nat.ble_eq.mpr (le_line (m := 1000) (by rw [List.length_map]; exact h) rfl)
theorem fit_i : ∀ l : List Int, fitL 1 (l.map D.int) = true
  | [] => by simp [fitL]
  | r :: l => by
    rw [List.map_cons]
    unfold fitL
    rw [fit_i l, Bool.and_true]
    rfl
theorem fit2I {l : List Int} (h : l.length ≤ 1000) : fitD 2 (.tup (l.map D.int)) = true := by
  unfold fitD
  rw [fit_i, Bool.and_true]
  exact Nat.ble_eq.mpr (le_line (m := 1000) (by rw [List.length_map]; exact h) rfl)
theorem noFrz_p : ∀ l : List P2, noFrzL (l.map prD) = true
  | [] => by simp [noFrzL]
  | r :: l => by
    rw [List.map_cons]
    unfold noFrzL
    rw [noFrz_p l]
    rfl
theorem noFrzP {l : List P2} : noFrz (.tup (l.map prD)) = true := by
  unfold noFrz
  exact noFrz_p l
theorem noFrz_i : ∀ l : List Int, noFrzL (l.map D.int) = true
  | [] => by simp [noFrzL]
  | r :: l => by
    rw [List.map_cons]
    unfold noFrzL
    rw [noFrz_i l]
    rfl
theorem noFrzI {l : List Int} : noFrz (.tup (l.map D.int)) = true := by
  unfold noFrz
  exact noFrz_i l
theorem atI_getLast {α : Type} {l : List α} {x : α} (h : l.getLast? = some x) : atI l (-1) = some x := by
  rcases nil_or_last l with rfl | ⟨ini, u, rfl⟩
  · cases h
  · rw [List.getLast?_concat] at h
    rw [atI_last]
    exact h
theorem bare_len : ∀ (cs acc : List Nat), (bareL acc cs).length ≤ acc.length + cs.length
  | [], acc => by simp [bareL]
  | c :: cs, acc => by
    by_cases k : acc.getLast? = some (spinN 2 c)
    · rw [bareL_hit k]
      have := bare_len cs acc.dropLast
      rw [List.length_dropLast] at this
      rw [List.length_cons]
      omega
    · rw [bareL_miss k]
      have := bare_len cs (acc ++ [c])
      rw [List.length_append, List.length_singleton] at this
      rw [List.length_cons]
      omega
theorem do_addW {X : Cx} {S : Sto} {Φ : D → Sto → Prop} {a b : List Nat} (c : (wd a).length + (wd b).length ≤ sizeLine) (q : Φ (.str (wd (a ++ b))) S) : DO X (binaryOp .Add) (.str (wd a)) (.str (wd b)) S Φ := do_addS c (by rw [wd_append]; exact q)
theorem cWordW_i {p : Addr} {b : Nat} {l : List D} {R : Sto} {n : Int} {Φ} (h : Tin b l) (hb : b ≤ 100000) (h0 : 0 ≤ n) (h1 : n ≤ 1000) (q : ∀ cs l', LetW cs → (cs.length : Int) = n → Tin (b + n.toNat) l' → Φ (.str (wd cs)) ((p, l') :: R)) : cWord [.cell p, .int n] ((p, l) :: R) Φ := ⟨p, b, l, R, n, rfl, rfl, h, hb, h0, h1, q⟩
def repW (n : Nat) (cs : List Nat) : List Nat := (List.replicate n cs).flatten
theorem repW_ltr {n : Nat} {cs : List Nat} (h : LetW cs) : LetW (repW n cs) := fun c hc => by
  obtain ⟨l, hl, hc⟩ := List.mem_flatten.mp hc
  rw [(List.mem_replicate.mp hl).2] at hc
  exact h c hc
theorem repW_len : ∀ (n : Nat) (cs : List Nat), (repW n cs).length = n * cs.length
  | 0, cs => by simp [repW]
  | n + 1, cs => by
    have h := repW_len n cs
    unfold repW at h ⊢
    rw [List.replicate_succ, List.flatten_cons, List.length_append, h, Nat.succ_mul, Nat.add_comm]
theorem mul_wd {cs : List Nat} {n : Int} (h0 : 0 ≤ n) (h1 : n ≤ 1000) (hz : cs.length ≤ 1000) : MulOk (wd cs) n ∧ Txt.mul (wd cs) n = wd (repW n.toNat cs) := by
  have hl : (wd cs).length = cs.length := wd_len
  have hprod : cs.length * n.toNat ≤ 1000 * 1000 := Nat.mul_le_mul hz (by omega)
  refine ⟨⟨?_, fun h2 h3 => ?_, fun h2 h3 => ?_⟩, ?_⟩
  · rw [Bool.or_eq_false_iff]
    exact ⟨decide_eq_false (by omega), decide_eq_false (by omega)⟩
  · rw [hl]
    have : (1000 : Int) ≤ (2 ^ 63 - 1) / n := by
      rw [Int.le_ediv_iff_mul_le (by omega)]
      omega
    omega
  · rw [hl]
    unfold Builtin.Str.tooLong
    rw [decide_eq_false]
    have e := sizeLine_eq
    omega
  · unfold Txt.mul
    by_cases h2 : n < 1
    · rw [if_pos h2]
      have : n = 0 := by omega
      subst this
      rfl
    · rw [if_neg h2]
      have go : ∀ (m : Nat) (acc : Array Nat), (List.replicate m (wd cs).cps).foldl (· ++ ·) acc = acc ++ (repW m cs).toArray := by
        intro m
        induction m with
        | zero => intro acc; simp [repW]
        | succ m ih =>
          intro acc
          rw [List.replicate_succ, List.foldl_cons, ih]
          unfold repW
          rw [List.replicate_succ, List.flatten_cons]
          apply Array.ext'
          simp
      split
      · rename_i h3
        rw [Bool.or_eq_true] at h3
        rcases h3 with h3 | h3
        · have h4 : n = 1 := eq_of_beq h3
          subst h4
          show wd cs = wd (repW 1 cs)
          simp [repW]
        · have h4 : cs.length = 0 := by
            have := eq_of_beq h3
            rw [hl] at this
            exact this
          have h5 : cs = [] := List.eq_nil_of_length_eq_zero h4
          subst h5
          simp [repW]
      · congr 1
        rw [go]
        simp
end Ar
namespace Ar
open PySem PySem.Spec PyProof.Rows L2
open PySem.Builtin PySem.Builtin.Str
/-! ### one pair taken out of a text -/
/-- a pair goes out somewhere, or there is none -/
def Out1 (a b : Nat) (cs es : List Nat) : Prop := (es = cs ∧ ∀ p q, cs ≠ p ++ a :: b :: q) ∨ ∃ p q, cs = p ++ a :: b :: q ∧ es = p ++ q
theorem drop_two {cs : List Nat} {i a b : Nat} (h : (cs.drop i).take 2 = [a, b]) : cs = cs.take i ++ a :: b :: cs.drop (i + 2) := by
  have h1 : cs.drop i = [a, b] ++ (cs.drop i).drop 2 := by rw [← h, List.take_append_drop]
  rw [List.drop_drop] at h1
  conv => lhs; rw [← List.take_append_drop i cs, h1]
  rfl
theorem sub_at {cs : List Nat} {a b i : Nat} : subAt (wd cs) (wd [a, b]) i = true ↔ (cs.drop i).take 2 = [a, b] := by
  unfold subAt
  show ((cs.toArray.extract i (i + 2)) == #[a, b]) = true ↔ _
  rw [beq_iff_eq, ← Array.toList_inj, Array.toList_extract, List.toList_toArray, List.extract_eq_take_drop, show i + 2 - i = 2 by omega]
theorem at_iff {cs : List Nat} {a b i : Nat} : StrLaws.At (wd cs) (wd [a, b]) (wd cs).length i ↔ (cs.drop i).take 2 = [a, b] := by
  unfold StrLaws.At
  rw [sub_at, wd_len, wd_len]
  refine ⟨fun h => h.2, fun h => ⟨?_, h⟩⟩
  have h1 : ((cs.drop i).take 2).length = 2 := by rw [h]; rfl
  rw [List.length_take, List.length_drop] at h1
  show i + 2 ≤ cs.length
  omega
theorem occ_one (x y : Str) {i : Nat} {r : List Nat} (h : occurrences x y 0 x.length 1 = i :: r) : r = [] := by
  have h1 := StrLaws.occ_length_le x y 0 x.length 1
  rw [h, List.length_cons] at h1
  exact List.length_eq_zero_iff.mp (by omega)
/-- what replacing once comes to -/
def rep1 (x y z : Str) : Str := if (occurrences x y 0 x.length 1).isEmpty = true then x else glued z (partsBetween x (occurrences x y 0 x.length 1) y.length)
theorem rep1_wd {cs : List Nat} {a b : Nat} : ∃ es, rep1 (wd cs) (wd [a, b]) (wd []) = wd es ∧ Out1 a b cs es := by
  unfold rep1
  rcases StrLaws.occ_head (wd cs) (wd [a, b]) 1 (Nat.le_refl 1) with ⟨h, hn⟩ | ⟨i, r, h, ha, _⟩
  · rw [h]
    refine ⟨cs, rfl, .inl ⟨rfl, fun p q e => hn p.length (at_iff.mpr ?_)⟩⟩
    rw [e, List.drop_left]
    rfl
  · have h0 := occ_one _ _ h
    subst h0
    rw [h]
    have ha := at_iff.mp ha
    refine ⟨cs.take i ++ cs.drop (i + 2), ?_, .inr ⟨cs.take i, cs.drop (i + 2), drop_two ha, rfl⟩⟩
    show glued (wd []) [strSub (wd cs) 0 i, strSub (wd cs) (i + 2) cs.length] = _
    show (⟨(cs.toArray.extract 0 i ++ #[] ++ cs.toArray.extract (i + 2) cs.length)⟩ : Str) = ⟨_⟩
    congr 1
    apply Array.toList_inj.mp
    rw [Array.toList_append, Array.toList_append, Array.toList_extract, Array.toList_extract, List.toList_toArray, List.extract_eq_take_drop, List.extract_eq_take_drop, List.drop_zero, Nat.sub_zero,
      List.take_of_length_le (i := cs.length - (i + 2)) (by rw [List.length_drop]; omega)]
    simp
theorem out1_len {a b : Nat} {cs es : List Nat} (h : Out1 a b cs es) : es.length ≤ cs.length := by
  rcases h with ⟨h, _⟩ | ⟨p, q, h, h2⟩
  · rw [h]
    omega
  · rw [h, h2, List.length_append, List.length_append, List.length_cons, List.length_cons]
    omega
theorem out1_ltr {a b : Nat} {cs es : List Nat} (h : Out1 a b cs es) (w : LetW cs) : LetW es := by
  rcases h with ⟨h, _⟩ | ⟨p, q, h, h2⟩
  · rw [h]
    exact w
  · subst h h2
    intro d hd
    refine w d ?_
    rw [List.mem_append] at hd ⊢
    rcases hd with hd | hd
    · exact .inl hd
    · exact .inr (List.mem_cons_of_mem _ (List.mem_cons_of_mem _ hd))
theorem out1_bare {a : Nat} {cs es : List Nat} (ha : Ltr a) (h : Out1 a (spinN 2 a) cs es) (w : LetW cs) : bareL [] es = bareL [] cs := by
  rcases h with ⟨h, _⟩ | ⟨p, q, h, h2⟩
  · rw [h]
  · subst h h2
    exact (bare_pair ha p q (fun d hd => w d (List.mem_append_left _ hd))).symm
/-! ### laps -/
/-- one lap: the four pairs in order -/
def Lap (cs es : List Nat) : Prop := ∃ c1 c2 c3, Out1 114 108 cs c1 ∧ Out1 108 114 c1 c2 ∧ Out1 117 100 c2 c3 ∧ Out1 100 117 c3 es
theorem lap_ltr {cs es : List Nat} (h : Lap cs es) (w : LetW cs) : LetW es := by
  obtain ⟨c1, c2, c3, h1, h2, h3, h4⟩ := h
  exact out1_ltr h4 (out1_ltr h3 (out1_ltr h2 (out1_ltr h1 w)))
theorem lap_bare {cs es : List Nat} (h : Lap cs es) (w : LetW cs) : bareL [] es = bareL [] cs := by
  obtain ⟨c1, c2, c3, h1, h2, h3, h4⟩ := h
  have w1 := out1_ltr h1 w
  have w2 := out1_ltr h2 w1
  have w3 := out1_ltr h3 w2
  rw [out1_bare (a := 100) (.inr (.inr (.inr rfl))) h4 w3, out1_bare (a := 117) (.inr (.inl rfl)) h3 w2, out1_bare (a := 108) (.inr (.inr (.inl rfl))) h2 w1, out1_bare (a := 114) (.inl rfl) h1 w]
theorem out1_lt {a b : Nat} {cs es : List Nat} (h : Out1 a b cs es) : es.length < cs.length ∨ (es = cs ∧ ∀ p q, cs ≠ p ++ a :: b :: q) := by
  rcases h with h | ⟨p, q, h, h2⟩
  · exact .inr h
  · refine .inl ?_
    rw [h, h2, List.length_append, List.length_append, List.length_cons, List.length_cons]
    omega
theorem split_two {cs : List Nat} {i a b : Nat} (h1 : cs[i]? = some a) (h2 : cs[i + 1]? = some b) : cs = cs.take i ++ a :: b :: cs.drop (i + 2) := by
  obtain ⟨l1, e1⟩ := List.getElem?_eq_some_iff.mp h1
  obtain ⟨l2, e2⟩ := List.getElem?_eq_some_iff.mp h2
  conv => lhs; rw [← List.take_append_drop i cs, List.drop_eq_getElem_cons l1, List.drop_eq_getElem_cons l2, e1, e2]
/-- a lap that takes nothing out: no pair at all -/
theorem lap_red {cs es : List Nat} (h : Lap cs es) (w : LetW cs) : es.length < cs.length ∨ (es = cs ∧ Red cs) := by
  obtain ⟨c1, c2, c3, h1, h2, h3, h4⟩ := h
  have l1 := out1_len h1
  have l2 := out1_len h2
  have l3 := out1_len h3
  have l4 := out1_len h4
  rcases out1_lt h1 with q1 | ⟨e1, q1⟩
  · exact .inl (by omega)
  subst e1
  rcases out1_lt h2 with q2 | ⟨e2, q2⟩
  · exact .inl (by omega)
  subst e2
  rcases out1_lt h3 with q3 | ⟨e3, q3⟩
  · exact .inl (by omega)
  subst e3
  rcases out1_lt h4 with q4 | ⟨e4, q4⟩
  · exact .inl (by omega)
  subst e4
  refine .inr ⟨rfl, fun i a b h1 h2 e => ?_⟩
  have hs := split_two h1 h2
  subst e
  rcases w b (List.mem_of_getElem? h2) with rfl | rfl | rfl | rfl
  · exact q2 _ _ hs
  · exact q4 _ _ hs
  · exact q1 _ _ hs
  · exact q3 _ _ hs
theorem out1_red {a : Nat} {cs es : List Nat} (ha : Ltr a) (h : Out1 a (spinN 2 a) cs es) (r : Red cs) : es = cs := by
  rcases h with ⟨h, _⟩ | ⟨p, q, h, h2⟩
  · exact h
  · exfalso
    refine r p.length a (spinN 2 a) ?_ ?_ (spin2 ha).symm
    · rw [h, List.getElem?_append_right (Nat.le_refl _), Nat.sub_self]
      rfl
    · rw [h, List.getElem?_append_right (by omega), show p.length + 1 - p.length = 1 by omega]
      rfl
theorem lap_red2 {cs es : List Nat} (h : Lap cs es) (r : Red cs) : Red es := by
  obtain ⟨c1, c2, c3, h1, h2, h3, h4⟩ := h
  have e1 := out1_red (a := 114) (.inl rfl) h1 r
  subst e1
  have e2 := out1_red (a := 108) (.inr (.inr (.inl rfl))) h2 r
  subst e2
  have e3 := out1_red (a := 117) (.inr (.inl rfl)) h3 r
  subst e3
  have e4 := out1_red (a := 100) (.inr (.inr (.inr rfl))) h4 r
  subst e4
  exact r
/-- n laps -/
def Laps : Nat → List Nat → List Nat → Prop
  | 0, cs, es => es = cs
  | n + 1, cs, es => ∃ ds, Laps n cs ds ∧ Lap ds es
theorem laps_ltr : ∀ {n : Nat} {cs es : List Nat}, Laps n cs es → LetW cs → LetW es ∧ es.length ≤ cs.length ∧ bareL [] es = bareL [] cs ∧ (es.length + n ≤ cs.length ∨ Red es)
  | 0, cs, es, h, w => by
    have e : es = cs := h
    subst e
    exact ⟨w, Nat.le_refl _, rfl, .inl (by omega)⟩
  | n + 1, cs, es, h, w => by
    obtain ⟨ds, h1, h2⟩ := h
    obtain ⟨w1, l1, b1, r1⟩ := laps_ltr h1 w
    have hb := lap_bare h2 w1
    have hl : es.length ≤ ds.length := by
      obtain ⟨c1, c2, c3, x1, x2, x3, x4⟩ := h2
      have y1 := out1_len x1
      have y2 := out1_len x2
      have y3 := out1_len x3
      have y4 := out1_len x4
      omega
    refine ⟨lap_ltr h2 w1, by omega, hb.trans b1, ?_⟩
    rcases lap_red h2 w1 with q | ⟨q, q2⟩
    · rcases r1 with r1 | r1
      · exact .inl (by omega)
      · exact .inr (lap_red2 h2 r1)
    · rw [q]
      exact .inr q2
theorem laps_done {cs es : List Nat} (h : Laps cs.length cs es) (w : LetW cs) : es = bareL [] cs := by
  obtain ⟨w1, l1, b1, r1⟩ := laps_ltr h w
  rw [← b1]
  have hr : Red es := by
    rcases r1 with r1 | r1
    · have e : es = [] := List.length_eq_zero_iff.mp (by omega)
      rw [e]
      exact red_nil
    · exact r1
  have := bare_red es [] hr
  rw [this]
  rfl
/-! ### the built-in -/
section
variable {prog : Program} {w : World} {A : Around} {E : Value → Shared → Prop} {s : Shared} {x y z : Str} {t u v k : Tok} {Q : Value → Shared → Prop}
theorem gives_rep1 (hy : (y.length == 0) = false) (h0 : (u == 0 || v == 0) = false) (huv : (u == v) = false) (hyz : (y == z) = false) (hl : tooLong (x.length + (occurrences x y 0 x.length 1).length * z.length) = false) :
    Gives («str.replace» ⟨[.str x t, .str y u, .str z v, .int 1 k], []⟩) (if (occurrences x y 0 x.length 1).isEmpty = true then .val (.str x t) else .str (glued z (partsBetween x (occurrences x y 0 x.length 1) y.length))) := by
  show Gives (if ((occurrences x y 0 x.length 1).isEmpty || (y.length == 0 && z.length == 0)) = true then (do rule "str.replace.nothing"; ret (.str x t)) else
      (do let same ← isSame (.str y u) (.str z v)
          if same = true then (do rule "str.replace.old-is-new"; ret (.str x t)) else
          if tooLong (x.length + (occurrences x y 0 x.length 1).length * z.length) = true then unsupported "str.replace:memory" else
          retStr (glued z (partsBetween x (occurrences x y 0 x.length 1) y.length)))) _
  rw [hy, Bool.false_and, Bool.or_false]
  cases hc : (occurrences x y 0 x.length 1).isEmpty
  · rw [isSame_str_other y z u v h0 huv hyz, hl]
    exact .of_eq rfl
  · exact .rule (.of_eq rfl)
theorem call_rep1 (hy : (y.length == 0) = false) (hu : u ≠ 0) (hv : v ≠ 0) (huv : u ≠ v) (hyz : (y == z) = false) (hz : z.length = 0) (hb : (rep1 x y z).length ≤ 16777216) (hx : x.length ≤ 16777216)
    (hq : ∀ t' n, Q (.str (rep1 x y z) t') { s with toks := n }) : wpAny (model prog w) A (call (.builtin "str.replace") [.str x t, .str y u, .str z v, .int 1 k]) Q E s := by
  refine call_gives F.slot_str_replace (typeIs_str _ _ _) F.entry_str_replace (F.args_str_replace_4 _ _ _ _)
    (gives_rep1 hy (by simp [hu, hv]) (by simp [huv]) hyz (by rw [hz]; unfold tooLong sizeLine; exact decide_eq_false (by omega))) ?_
  unfold rep1 at hq hb
  cases hc : (occurrences x y 0 x.length 1).isEmpty
  · rw [hc] at hq hb
    simp only [Bool.false_eq_true, if_false] at hq hb ⊢
    refine ⟨?_, hq _ _⟩
    rw [sizeLine_eq]
    exact hb
  · rw [hc] at hq
    simp only [if_true] at hq ⊢
    exact hq t s.toks
end
end Ar
namespace Ar
open PySem PySem.Spec PyProof.Rows L2
open PySem.Builtin PySem.Builtin.Str
/-! ### a local name is written: its very value -/
section
variable {X : Cx} {pins : List (Addr × Obj)} {σ : L2.St} {H : Hp} {s : Shared}
theorem under {b : Addr} {o : Obj} (I : Inv X pins σ H s) (e : X.s_0.heap.get? b = some o) : b ≠ X.env.locals := fun z => by
  have h1 := Heap.lt_size e
  have h2 := I.ok.above
  rw [z] at h1
  exact absurd (Nat.lt_of_lt_of_le h1 h2) (Nat.lt_irrefl _)
theorem inv_loc {h' : Heap} {t' : Nat} {m' : Str → Option Value} {σ' : L2.St} (I : Inv X pins σ H s) (sb : Heap.SameBut X.env.locals s.heap h') (ns : h'.Ns X.env.locals m')
    (lk : ∀ (j : Nat) (y : Str) (g : V), X.N[j]? = some y → σ'[j]? = some (some g) → Vis X.env.scope y → ∃ u, RelV g u ∧ Look X.env h' m' y u) (hl : σ'.length = σ.length) :
    Inv X pins σ' H { s with heap := h', toks := t' } := by
  have same : ∀ {b : Addr} {o : Obj}, X.s_0.heap.get? b = some o → h'.get? b = s.heap.get? b := fun e => sb.2 _ (under I e)
  constructor
  · exact I.ok
  · exact I.os
  · exact I.bare
  · constructor
    · intro b o e n1 n2 n3
      exact (same e).trans (I.base.keep b o e n1 n2 n3)
    · intro b o e n1 n2 n3
      obtain ⟨sl, q⟩ := I.base.slot b o e n1 n2 n3
      exact ⟨sl, (same e).trans q⟩
    · exact I.base.free
    · intro b o e n1
      obtain ⟨o', q⟩ := I.base.there b o e n1
      exact ⟨o', (same e).trans q⟩
    · exact I.base.tups
    · exact I.base.frzs
    · exact I.base.tbls
  · exact ⟨m', ns, lk⟩
  · intro y c e
    obtain ⟨g, z⟩ := I.cell y c e
    exact ⟨g, z.sameBut sb (I.cne y c e)⟩
  · exact I.free
  · exact I.freeC
  · intro p hp
    obtain ⟨q1, q2, q3, q4, q5⟩ := I.pin p hp
    exact ⟨(sb.2 _ q3).trans q1, q2, q3, q4, q5⟩
  · intro b ob e
    have nl : ∀ c, (c = b ∨ H c = some (.own b)) → c ≠ X.env.locals := fun c hc z => by
      subst z
      have fr := I.free
      rcases hc with rfl | hc
      · rw [fr] at e
        cases e
      · rw [fr] at hc
        cases hc
    exact (I.hok b ob e).stay (fun c u hc q => (sb.2 c (nl c hc)).trans q) (fun _ q => q) fun _ _ q => q
  · rw [hl]
    exact I.len
theorem put_raw {M : Model} {A : Around} {Er : Value → Shared → Prop} {i : Nat} {x : Str} {g : V} {u : Value} {Q : Unit → Shared → Prop} (I : Inv X pins σ H s) (hN : X.N.Nodup) (hi : X.N[i]? = some x) (hk : X.env.scope.names.lookup x = some .local) (r : RelV g u)
    (h : ∀ s', Inv X pins (σ.set i (some g)) H s' → (∃ m, s'.heap.Ns X.env.locals m ∧ m x = some u) → Q () s') : wpAny M A (storeName X.env x u) Q Er s := by
  obtain ⟨m, hn, hl⟩ := id I.loc
  refine wpAny_storeName_local hk hn (fun h' ns sb => h _ (inv_loc I sb ns (fun j y g' e1 e2 e3 => ?_) List.length_set) ⟨_, ns, by simp⟩) ?_
  · by_cases hj : i = j
    · subst hj
      have el : i < σ.length := by
        rw [I.len]
        exact (List.getElem?_eq_some_iff.mp hi).1
      rw [List.getElem?_set_self el] at e2
      cases e2
      rw [hi] at e1
      cases e1
      exact ⟨u, r, .inl ⟨hk, by simp⟩⟩
    · rw [List.getElem?_set_ne hj] at e2
      obtain ⟨u', r', q⟩ := hl j y g' e1 e2 e3
      have ny : y ≠ x := fun z => hj (nodup_ix hN hi (z ▸ e1))
      refine ⟨u', r', ?_⟩
      rcases q with ⟨q1, q2⟩ | ⟨q1, c, q2, q3⟩
      · exact .inl ⟨q1, by simp [ny, q2]⟩
      · exact .inr ⟨q1, c, q2, q3.sameBut sb (I.cne y c q2)⟩
  · rw [I.ok.kind]
    rfl
end
end Ar
namespace Ar
open PySem PySem.Spec PyProof.Rows L2
open PySem.Builtin PySem.Builtin.Str
def prs : List (Nat × Nat) := [(114, 108), (108, 114), (117, 100), (100, 117)]
def Chn : List (Nat × Nat) → List Nat → List Nat → Prop
  | [], cs, es => es = cs
  | p :: r, cs, es => ∃ ds, Out1 p.1 p.2 cs ds ∧ Chn r ds es
theorem chn_lap {cs es : List Nat} (h : Chn prs cs es) : Lap cs es := by
  obtain ⟨c1, h1, c2, h2, c3, h3, c4, h4, e⟩ := h
  have e' : es = c4 := e
  subst e'
  exact ⟨c1, c2, c3, h1, h2, h3, h4⟩
def raws (t : Tok) : Array Value := #[.str (wd [114, 108]) t, .str (wd [108, 114]) (t + 1), .str (wd [117, 100]) (t + 1 + 1), .str (wd [100, 117]) (t + 1 + 1 + 1)]
theorem raws_get {t : Tok} {i : Nat} (h : i < 4) : ∃ a b, prs.drop i = (a, b) :: prs.drop (i + 1) ∧ (raws t)[i]? = some (.str (wd [a, b]) (t + i)) := by
  have hi : i = 0 ∨ i = 1 ∨ i = 2 ∨ i = 3 := by omega
  rcases hi with rfl | rfl | rfl | rfl
  · exact ⟨114, 108, rfl, rfl⟩
  · exact ⟨108, 114, rfl, rfl⟩
  · exact ⟨117, 100, rfl, rfl⟩
  · exact ⟨100, 117, rfl, rfl⟩
/-- what a lap leaves of the names -/
def Left (iw ip : Nat) (σ σ' : L2.St) (es : List Nat) : Prop := σ'.length = σ.length ∧ σ'[iw]? = some (some (.str (wd es))) ∧ ∀ j, j ≠ iw → j ≠ ip → σ'[j]? = σ[j]?
section
variable {X : Cx} {pins : List (Addr × Obj)} {σ : L2.St} {H : Hp} {s : Shared}
theorem pairs_ne {a b : Nat} : ((wd [a, b]) == (wd [])) = false := by
  simp [wd]
theorem turn_body {σ3 : L2.St} {s6 : Shared} {iw : Nat} {xw xp : Str} {es : List Nat} {a b : Nat} {tk : Tok} {c5 : Str} {j5 j6 : Nat} {p2 p3 p4 p5 q5 q6 p6 p7 : Pos} {m : Str → Option Value} {Q : Flow → Shared → Prop}
    (hN : X.N.Nodup) (hw : X.N[iw]? = some xw) (vw : Vis X.env.scope xw) (kw : X.env.scope.names.lookup xw = some .local) (kp : X.env.scope.names.lookup xp = some .local)
    (I : Inv X pins σ3 H s6) (hσ : σ3[iw]? = some (some (.str (wd es)))) (hm : s6.heap.Ns X.env.locals m) (hu : m xp = some (.str (wd [a, b]) tk)) (t0 : tk ≠ 0) (t1 : tk < s6.toks) (hc : es.length ≤ 1000) (e5 : c5 = wd [])
    (d1 : (xw == ("__debug__" : Str)) = false) (d2 : (xw == ("__classdict__" : Str)) = false) (d3 : (xp == ("__debug__" : Str)) = false)
    (hst : starEach [.Name xp p5, .Constant (.str c5) j5 q5, .Constant (.int 1) j6 q6] X.env = [(false, eval (.Name xp p5) X.env), (false, eval (.Constant (.str c5) j5 q5) X.env), (false, eval (.Constant (.int 1) j6 q6) X.env)])
    (hbase : attributeBase (.Name xw p3) "replace" X.env (eval (.Name xw p3) X.env) = eval (.Name xw p3) X.env) (hline : (p4.endLine == p6.line) = true)
    (hsw : swapsWith (.Call (.Attribute (.Name xw p3) "replace" p4) [.Name xp p5, .Constant (.str c5) j5 q5, .Constant (.int 1) j6 q6] [] p6) (some (.Name xw p2)) p7.line X.env = pure false)
    (fin : ∀ s' ds, Out1 a b es ds → Inv X pins (σ3.set iw (some (.str (wd ds)))) H s' → Q .next s') :
    wpAny (model X.prog X.w) X.A (execs [.Assign [.Name xw p2] (.Call (.Attribute (.Name xw p3) "replace" p4) [.Name xp p5, .Constant (.str c5) j5 q5, .Constant (.int 1) j6 q6] [] p6) p7] X.env) Q X.xe s6 := by
  refine wpAny_execs_cons (wpAny_Assign_Name ?_ hsw)
  refine PySem.wpAny_Call_method_lateS hbase (by rw [hst]; rfl) hline ?_
  rw [hst]
  show wpAny _ _ _ (fun ov s1 => MethodOnS X.prog X.w X.A X.xe "replace" ov p6 [(false, eval (.Name xp p5) X.env), (false, eval (.Constant (.str c5) j5 q5) X.env), (false, eval (.Constant (.int 1) j6 q6) X.env)] _ s1) _ _
  refine raw_name hw vw I hσ (fun g r => ?_) d1 d2
  obtain ⟨tx, rfl⟩ := r
  refine ⟨"str", _, F.plainAttrs_str, F.slot_str_replace, F.type_str_replace, typeIs_str _ _ _, (fun _ e => nomatch e), Calls.callWith_builtin rfl (Calls.evalArgs_plain (Calls.spliced_cons ?_))⟩
  refine wpAny_Name (wpAny_loadName_local I.ok.kind kp hm hu ?_) d3
  refine Calls.spliced_cons (Calls.Constant_str (Calls.spliced_cons (wpAny_Constant_int (Calls.spliced_nil ?_))))
  subst e5
  obtain ⟨ds, e, ho⟩ := rep1_wd (cs := es) (a := a) (b := b)
  have hl := out1_len ho
  refine call_rep1 rfl t0 (Nat.ne_of_gt (Nat.lt_of_le_of_lt (Nat.zero_le _) t1)) (Nat.ne_of_lt t1) pairs_ne rfl (by rw [e, wd_len]; omega) (by rw [wd_len]; omega) fun t' n => ?_
  rw [e]
  refine store_ok (v := V.str (wd ds)) (I.tok n) hN hw (.inl kw) ⟨t', rfl⟩ (fun s' I' => ?_) (.inr kw)
  exact wpAny_execs_nil (fin s' ds ho I')
theorem raw_lap {iw ip : Nat} {xw xp : Str} {cs : List Nat} {c1 c2 c3 c4 c5 : Str} {j1 j2 j3 j4 j5 j6 k0 : Nat} {q1 q2 q3 q4 p0 p1 p2 p3 p4 p5 q5 q6 p6 p7 p8 : Pos} {Q : Flow → Shared → Prop}
    (hN : X.N.Nodup) (hw : X.N[iw]? = some xw) (hp : X.N[ip]? = some xp) (ne : iw ≠ ip) (vw : Vis X.env.scope xw) (kw : X.env.scope.names.lookup xw = some .local) (kp : X.env.scope.names.lookup xp = some .local) (nox : X.xe = fun _ _ => False) (calm : X.calm = true)
    (I : Inv X pins σ H s) (hσ : σ[iw]? = some (some (.str (wd cs)))) (t1 : 1 ≤ s.toks) (hc : cs.length ≤ 1000) (e1 : c1 = wd [114, 108]) (e2 : c2 = wd [108, 114]) (e3 : c3 = wd [117, 100]) (e4 : c4 = wd [100, 117]) (e5 : c5 = wd [])
    (d1 : (xw == ("__debug__" : Str)) = false) (d2 : (xw == ("__classdict__" : Str)) = false) (d3 : (xp == ("__debug__" : Str)) = false)
    (hst0 : starEach [.Constant (.str c1) j1 q1, .Constant (.str c2) j2 q2, .Constant (.str c3) j3 q3, .Constant (.str c4) j4 q4] X.env = [(false, eval (.Constant (.str c1) j1 q1) X.env), (false, eval (.Constant (.str c2) j2 q2) X.env), (false, eval (.Constant (.str c3) j3 q3) X.env), (false, eval (.Constant (.str c4) j4 q4) X.env)])
    (hst : starEach [.Name xp p5, .Constant (.str c5) j5 q5, .Constant (.int 1) j6 q6] X.env = [(false, eval (.Name xp p5) X.env), (false, eval (.Constant (.str c5) j5 q5) X.env), (false, eval (.Constant (.int 1) j6 q6) X.env)])
    (hbase : attributeBase (.Name xw p3) "replace" X.env (eval (.Name xw p3) X.env) = eval (.Name xw p3) X.env) (hline : (p4.endLine == p6.line) = true)
    (hsw : swapsWith (.Call (.Attribute (.Name xw p3) "replace" p4) [.Name xp p5, .Constant (.str c5) j5 q5, .Constant (.int 1) j6 q6] [] p6) (some (.Name xw p2)) p7.line X.env = pure false)
    (hs : ∀ x, foldedSetIterable (.Tuple [.Constant (.str c1) j1 q1, .Constant (.str c2) j2 q2, .Constant (.str c3) j3 q3, .Constant (.str c4) j4 q4] k0 p1) X.env x = pure x)
    (fin : ∀ s' σ' es, Inv X pins σ' H s' → Lap cs es → Left iw ip σ σ' es → 1 ≤ s'.toks → Q .next s') :
    wpAny (model X.prog X.w) X.A (exec (.For (.Name xp p0) (.Tuple [.Constant (.str c1) j1 q1, .Constant (.str c2) j2 q2, .Constant (.str c3) j3 q3, .Constant (.str c4) j4 q4] k0 p1)
      [.Assign [.Name xw p2] (.Call (.Attribute (.Name xw p3) "replace" p4) [.Name xp p5, .Constant (.str c5) j5 q5, .Constant (.int 1) j6 q6] [] p6) p7] [] p8) X.env) Q X.xe s := by
  have hpo : PassesOwn (model X.prog X.w) X.A X.env X.xe := by
    rw [nox]
    exact PassesOwn.never
  refine wpAny_For (wpAny_Tuple_spliced ?_) hs
  rw [hst0]
  show wpAny _ _ (spliced [(false, eval (.Constant (.str c1) j1 q1) X.env), (false, eval (.Constant (.str c2) j2 q2) X.env), (false, eval (.Constant (.str c3) j3 q3) X.env), (false, eval (.Constant (.str c4) j4 q4) X.env)]) _ _ _
  refine Calls.spliced_cons (Calls.Constant_str (Calls.spliced_cons (Calls.Constant_str (Calls.spliced_cons (Calls.Constant_str (Calls.spliced_cons (Calls.Constant_str (Calls.spliced_nil ⟨(by decide : (4 : Nat) ≤ sizeLine), ?_⟩))))))))
  subst e1 e2 e3 e4
  -- the tuple
  have I1 : Inv X pins σ H { s with heap := s.heap.push { cls := .type "tuple", data := .seq (raws s.toks) }, toks := s.toks + 1 + 1 + 1 + 1 } := I.kept fun b o e => Heap.get?_push_of_some _ e
  have fa : FpOk X pins H s.heap.objs.size := I.fpOk (Nat.le_refl _) (I.hok.fresh (Nat.le_refl _))
  have ga : (s.heap.push { cls := .type "tuple", data := .seq (raws s.toks) }).get? s.heap.objs.size = some { cls := .type "tuple", data := .seq (raws s.toks) } := Heap.get?_push_size _ rfl
  have I2 := I1.pinned (fp := [s.heap.objs.size]) (fun b hb => by rw [List.mem_singleton.mp hb]; exact fa) (fun b hb => by
    rw [List.mem_singleton.mp hb]
    exact ⟨_, ga, fun v z => by cases z⟩)
  generalize hpins : pins ++ pinsAt [s.heap.objs.size] (s.heap.push { cls := .type "tuple", data := .seq (raws s.toks) }) = pins1 at I2
  have isT : ∀ {σ' : L2.St} {s' : Shared}, Inv X pins1 σ' H s' → s'.heap.IsTuple s.heap.objs.size (raws s.toks) := fun {σ' s'} J => by
    subst hpins
    have hm := J.pin (s.heap.objs.size, { cls := .type "tuple", data := .seq (raws s.toks) }) (List.mem_append_right _ (List.mem_append_right _ (mem_pinsAt (by simp) ga)))
    exact ⟨_, hm.1, rfl, _, rfl⟩
  refine wpAny_pyIter_tuple (isT I2) ?_
  have I3 : Inv X pins1 σ H { s with heap := (s.heap.push { cls := .type "tuple", data := .seq (raws s.toks) }).push { cls := .type "tuple_iterator", data := .fields #[.ref s.heap.objs.size, .int 0 0] }, toks := s.toks + 1 + 1 + 1 + 1 } := I2.kept fun b o e => Heap.get?_push_of_some _ e
  have fi : FpOk X pins1 H (s.heap.push { cls := .type "tuple", data := .seq (raws s.toks) }).objs.size := I2.fpOk (Nat.le_refl _) (I2.hok.fresh (Nat.le_refl _))
  have st0 : ((s.heap.push { cls := .type "tuple", data := .seq (raws s.toks) }).push { cls := .type "tuple_iterator", data := .fields #[.ref s.heap.objs.size, .int 0 0] }).IsTupleIter (s.heap.push { cls := .type "tuple", data := .seq (raws s.toks) }).objs.size s.heap.objs.size 0 := ⟨_, Heap.get?_push_size _ rfl, rfl, rfl⟩
  show codeAny _ _ (.forLoop _ (.ref (s.heap.push { cls := .type "tuple", data := .seq (raws s.toks) }).objs.size) _ _ _) _ _
  generalize (s.heap.push { cls := .type "tuple", data := .seq (raws s.toks) }).objs.size = it at fi st0 ⊢
  refine codeAny_forLoop_any (fun n s' => ∃ i σ' es, n = 4 - i ∧ i ≤ 4 ∧ Inv X pins1 σ' H s' ∧ s'.heap.IsTupleIter it s.heap.objs.size i ∧ (∀ fs, Chn (prs.drop i) es fs → Chn prs cs fs) ∧ Left iw ip σ σ' es ∧ es.length ≤ 1000 ∧ s.toks + 4 ≤ s'.toks) ?_ 4
    ⟨0, σ, cs, rfl, by omega, I3, st0, fun _ h => h, ⟨rfl, hσ, fun _ _ _ => rfl⟩, hc, Nat.le_refl _⟩
  rintro n s3 ⟨i, σ3, es, rfl, hi, J, st, chn, left, hes, tk3⟩
  by_cases hlt : i < 4
  · obtain ⟨a, b, hd, hx⟩ := raws_get (t := s.toks) hlt
    obtain ⟨f0, f1, f2, f3, f4, f5⟩ := fi
    refine wpAny_passesOwn hpo (wpAny_pyNext_tuple_item st (isT J) hx fun h' st' sb => ?_)
    have J1 : Inv X pins1 σ3 H { s3 with heap := h' } := J.turned (t' := s3.toks) (fun b o hb e => (sb.2 b hb).trans e) f0 f1 f3 f4 f5
    obtain ⟨ob, eb, cb, db⟩ := id st'
    refine wpAny_passesOwn hpo (go_of (s := { s3 with heap := h' }) eb cb db (by decide) ?_)
    have J2 := J1.pinned (fp := [it]) (fun b hb => by rw [List.mem_singleton.mp hb]; exact ⟨f0, f1, f2, f3, f4, f5⟩) (fun b hb => by
      rw [List.mem_singleton.mp hb]
      exact ⟨ob, eb, fun v z => by rw [db] at z; cases z⟩)
    refine wpAny_passesOwn hpo (wpAny_with_toks (n := s.toks + 4) tk3 (wpAny_assign_Name (put_raw (g := V.str (wd [a, b])) J2 hN hp kp ⟨_, rfl⟩ fun s6 J6 hraw tk6 => ?_)))
    obtain ⟨m, hm, hu⟩ := hraw
    refine wpAny_passesOwn hpo (wpAny_with_toks (n := s.toks + 4) tk6 ?_)
    refine wpAny_mono (turn_body (Q := fun f s7 => s.toks + 4 ≤ s7.toks → _) hN hw vw kw kp J6 (es := es) (by rw [List.getElem?_set_ne (Ne.symm ne)]; exact left.2.1) hm hu ?_ ?_ hes e5 d1 d2 d3 hst hbase hline hsw ?_) (fun _ _ z => z) (fun _ _ z _ => z)
    · exact Nat.ne_of_gt (Nat.lt_of_lt_of_le t1 (Nat.le_add_right _ _))
    · exact Nat.lt_of_lt_of_le (Nat.add_lt_add_left hlt _) tk6
    · intro s7 ds ho J7 tk7
      have hl := out1_len ho
      refine ⟨4 - (i + 1), by omega, i + 1, _, ds, rfl, hlt, J7.unpinned, st'.at fun o e => ?_, fun fs h => chn fs ?_, ⟨?_, ?_, fun j h1 h2 => ?_⟩, by omega, tk7⟩
      · exact (J7.pin (it, o) (List.mem_append_right _ (List.mem_append_right _ (mem_pinsAt (by simp) e)))).1
      · rw [hd]
        exact ⟨ds, ho, h⟩
      · rw [List.length_set, List.length_set]
        exact left.1
      · rw [List.getElem?_set_self]
        rw [List.length_set]
        exact (List.getElem?_eq_some_iff.mp left.2.1).1
      · rw [List.getElem?_set_ne (Ne.symm h1), List.getElem?_set_ne (Ne.symm h2)]
        exact left.2.2 j h1 h2
  · have e : i = 4 := by omega
    subst e
    obtain ⟨f0, f1, f2, f3, f4, f5⟩ := fi
    refine wpAny_passesOwn hpo (wpAny_pyNext_tuple_end (J.ok.hd calm) st (isT J) rfl fun h' eb => ?_)
    have J1 : Inv X pins1 σ3 H { s3 with heap := h' } := J.turned (t' := s3.toks) (fun b o hb e => eb b o hb e) f0 f1 f3 f4 f5
    subst hpins
    exact wpAny_execs_nil (fin _ σ3 es J1.unpinned (chn_lap (chn es rfl)) left (by show 1 ≤ s3.toks; omega))
end
end Ar
namespace Ar
open PySem PySem.Spec PyProof.Rows L2
open PySem.Builtin PySem.Builtin.Str
section
variable {X : Cx} {pins : List (Addr × Obj)} {σ : L2.St} {H : Hp} {s : Shared}
/-- range(len(word)), a token given out -/
theorem raw_iter {iw : Nat} {xw : Str} {cs : List Nat} {tg : Expr} {p0 p1 p2 p3 p4 : Pos} (hw : X.N[iw]? = some xw) (vw : Vis X.env.scope xw) (I : Inv X pins σ H s) (hσ : σ[iw]? = some (some (.str (wd cs)))) (hc : cs.length ≤ 1000)
    (g1 : Gl X "range") (m1 : X.mg "range" = none) (g2 : Gl X "len") (m2 : X.mg "len" = none) (d1 : (xw == ("__debug__" : Str)) = false) (d2 : (xw == ("__classdict__" : Str)) = false)
    (hs1 : starEach [.Call (.Name "len" p2) [.Name xw p3] [] p4] X.env = [(false, eval (.Call (.Name "len" p2) [.Name xw p3] [] p4) X.env)]) (hs2 : starEach [.Name xw p3] X.env = [(false, eval (.Name xw p3) X.env)]) :
    wpAny (model X.prog X.w) X.A (eval (.Call (.Name "range" p0) [.Call (.Name "len" p2) [.Name xw p3] [] p4] [] p1) X.env)
      (fun v s1 => wpAny (model X.prog X.w) X.A (pyIter v) (fun itv s2 => PIE X pins σ tg (fun J H' => J = Itr 0 cs.length ∧ H' = H) itv s2 ∧ 1 ≤ s2.toks) X.xe s1) X.xe s := by
  refine Call_ (ld_blt I g1 m1 boot_range (PyProof.Rows.callWith_type1 ?_ hs1 rfl))
  rw [hs1]
  show wpAny _ _ (spliced [(false, eval (.Call (.Name "len" p2) [.Name xw p3] [] p4) X.env)]) _ _ _
  refine Calls.spliced_cons (wpAny_Call_Name_kw (ld_blt I g2 m2 (by rfl : bootBuiltins "len" = some (.builtin "len")) (PyProof.Rows.callWith_builtin1 ?_ hs2 rfl)))
  rw [hs2]
  show wpAny _ _ (spliced [(false, eval (.Name xw p3) X.env)]) _ _ _
  refine Calls.spliced_cons (raw_name hw vw I hσ (fun g r => Calls.spliced_nil ?_) d1 d2)
  obtain ⟨tx, rfl⟩ := r
  refine P.len_str (by rw [wd_len]; omega) (Calls.spliced_nil ?_)
  have J : Inv X pins σ H { s with toks := s.toks + 1 + 1 } := I.tok _
  refine call_range_1 ?_
  rw [wd_len]
  refine wpAny_mono (wpAny_toks (range_it (R := fun J H' => J = Itr 0 cs.length ∧ H' = H) J (by omega) (by omega) (by omega) (by omega) ⟨by simp, rfl⟩)) (fun v s2 q => ⟨q.2, ?_⟩) fun _ _ q => q.2
  have h := q.1
  have h2 : s.toks + 1 + 1 + 1 + 1 ≤ s2.toks := h
  omega
/-- what all laps leave of the names -/
def Left3 (iw il ip : Nat) (σ σ' : L2.St) (es : List Nat) : Prop := σ'.length = σ.length ∧ σ'[iw]? = some (some (.str (wd es))) ∧ ∀ j, j ≠ iw → j ≠ il → j ≠ ip → σ'[j]? = σ[j]?
theorem raw_laps {iw il ip : Nat} {xw xl xp : Str} {cs : List Nat} {c1 c2 c3 c4 c5 : Str} {j1 j2 j3 j4 j5 j6 k0 : Nat} {q1 q2 q3 q4 p0 p1 p2 p3 p4 p5 q5 q6 p6 p7 p8 r0 r1 r2 r3 r4 r5 r6 : Pos} {Q : Flow → Shared → Prop}
    (hN : X.N.Nodup) (hw : X.N[iw]? = some xw) (hl : X.N[il]? = some xl) (hp : X.N[ip]? = some xp) (ne : iw ≠ ip) (ne2 : iw ≠ il) (vw : Vis X.env.scope xw) (kw : X.env.scope.names.lookup xw = some .local) (kl : X.env.scope.names.lookup xl = some .local) (kp : X.env.scope.names.lookup xp = some .local) (nox : X.xe = fun _ _ => False) (calm : X.calm = true)
    (I : Inv X pins σ H s) (hσ : σ[iw]? = some (some (.str (wd cs)))) (lw : LetW cs) (hc : cs.length ≤ 1000) (e1 : c1 = wd [114, 108]) (e2 : c2 = wd [108, 114]) (e3 : c3 = wd [117, 100]) (e4 : c4 = wd [100, 117]) (e5 : c5 = wd [])
    (g1 : Gl X "range") (m1 : X.mg "range" = none) (g2 : Gl X "len") (m2 : X.mg "len" = none)
    (d1 : (xw == ("__debug__" : Str)) = false) (d2 : (xw == ("__classdict__" : Str)) = false) (d3 : (xp == ("__debug__" : Str)) = false)
    (hs1 : starEach [.Call (.Name "len" r2) [.Name xw r3] [] r4] X.env = [(false, eval (.Call (.Name "len" r2) [.Name xw r3] [] r4) X.env)]) (hs2 : starEach [.Name xw r3] X.env = [(false, eval (.Name xw r3) X.env)])
    (hst0 : starEach [.Constant (.str c1) j1 q1, .Constant (.str c2) j2 q2, .Constant (.str c3) j3 q3, .Constant (.str c4) j4 q4] X.env = [(false, eval (.Constant (.str c1) j1 q1) X.env), (false, eval (.Constant (.str c2) j2 q2) X.env), (false, eval (.Constant (.str c3) j3 q3) X.env), (false, eval (.Constant (.str c4) j4 q4) X.env)])
    (hst : starEach [.Name xp p5, .Constant (.str c5) j5 q5, .Constant (.int 1) j6 q6] X.env = [(false, eval (.Name xp p5) X.env), (false, eval (.Constant (.str c5) j5 q5) X.env), (false, eval (.Constant (.int 1) j6 q6) X.env)])
    (hbase : attributeBase (.Name xw p3) "replace" X.env (eval (.Name xw p3) X.env) = eval (.Name xw p3) X.env) (hline : (p4.endLine == p6.line) = true)
    (hsw : swapsWith (.Call (.Attribute (.Name xw p3) "replace" p4) [.Name xp p5, .Constant (.str c5) j5 q5, .Constant (.int 1) j6 q6] [] p6) (some (.Name xw p2)) p7.line X.env = pure false)
    (hs : ∀ x, foldedSetIterable (.Tuple [.Constant (.str c1) j1 q1, .Constant (.str c2) j2 q2, .Constant (.str c3) j3 q3, .Constant (.str c4) j4 q4] k0 p1) X.env x = pure x)
    (hs0 : ∀ x, foldedSetIterable (.Call (.Name "range" r0) [.Call (.Name "len" r2) [.Name xw r3] [] r4] [] r1) X.env x = pure x)
    (fin : ∀ s' σ', Inv X pins σ' H s' → Left3 iw il ip σ σ' (bareL [] cs) → Q .next s') :
    wpAny (model X.prog X.w) X.A (exec (.For (.Name xl r5) (.Call (.Name "range" r0) [.Call (.Name "len" r2) [.Name xw r3] [] r4] [] r1) [.For (.Name xp p0) (.Tuple [.Constant (.str c1) j1 q1, .Constant (.str c2) j2 q2, .Constant (.str c3) j3 q3, .Constant (.str c4) j4 q4] k0 p1)
      [.Assign [.Name xw p2] (.Call (.Attribute (.Name xw p3) "replace" p4) [.Name xp p5, .Constant (.str c5) j5 q5, .Constant (.int 1) j6 q6] [] p6) p7] [] p8] [] r6) X.env) Q X.xe s := by
  have hpo : PassesOwn (model X.prog X.w) X.A X.env X.xe := by
    rw [nox]
    exact PassesOwn.never
  refine wpAny_For (thn (raw_iter (tg := .Name xl r5) hw vw I hσ hc g1 m1 g2 m2 d1 d2 hs1 hs2) fun v s1 h1 => thn h1 fun itv s2 h2 => ?_) hs0
  obtain ⟨⟨it, fp, tn, J, H2, rfl, I2, T, st2, f2, rfl, rfl⟩, tk2⟩ := h2
  refine codeAny_forLoop_any (fun n s' => ∃ i σ' es, n = cs.length - i ∧ i ≤ cs.length ∧ Inv X pins σ' H2 s' ∧ tn i s'.heap ∧ Laps i cs es ∧ Left3 iw il ip σ σ' es ∧ 1 ≤ s'.toks) ?_ cs.length
    ⟨0, σ, cs, rfl, Nat.zero_le _, I2, st2, rfl, ⟨rfl, hσ, fun _ _ _ _ => rfl⟩, tk2⟩
  rintro n s3 ⟨i, σ3, es, rfl, hi, J3, st, laps, left, tk3⟩
  by_cases hlt : i < cs.length
  · have hes := (laps_ltr laps lw).2.1
    refine wpAny_passesOwn hpo (wpAny_with_toks (n := 1) tk3 (wpAny_mono (T.item X rfl rfl rfl calm i pins s3 σ3 H2 X.xe J3 f2 st hlt) (fun r s4 q tk4 => ?_) (fun _ _ z _ => z)))
    obtain ⟨u, rfl, q⟩ := q
    refine wpAny_passesOwn hpo (wpAny_with_toks (n := 1) tk4 (wpAny_mono q (fun _ s5 q tk5 => ?_) (fun _ _ z _ => z)))
    obtain ⟨x, H5, J5, r5, ⟨rfl, rfl⟩, st5, fr5⟩ := q
    have J5' := J5.pinned f2 (T.obj _ _ st5)
    refine wpAny_passesOwn hpo (wpAny_with_toks (n := 1) tk5 (wpAny_assign_Name (store_ok J5' hN hl (.inl kl) r5 (fun s6 J6 tk6 => ?_) (.inr kl))))
    refine wpAny_passesOwn hpo (wpAny_execs_cons (raw_lap hN hw hp ne vw kw kp nox calm J6 (cs := es) (by rw [List.getElem?_set_ne (Ne.symm ne2)]; exact left.2.1) tk6 (by omega) e1 e2 e3 e4 e5 d1 d2 d3 hst0 hst hbase hline hsw hs fun s7 σ7 ds J7 lap left7 tk7 => ?_))
    refine wpAny_execs_nil ?_
    refine ⟨cs.length - (i + 1), by omega, i + 1, σ7, ds, rfl, hlt, J7.unpinned, T.keep _ _ _ st5 fun b hb o e => (J7.pin (b, o) (List.mem_append_right _ (List.mem_append_right _ (mem_pinsAt hb e)))).1, ⟨es, laps, lap⟩, ⟨?_, left7.2.1, fun j h1 h2 h3 => ?_⟩, tk7⟩
    · rw [left7.1, List.length_set]
      exact left.1
    · rw [left7.2.2 j h1 h3, List.getElem?_set_ne (Ne.symm h2)]
      exact left.2.2 j h1 h2 h3
  · have e : i = cs.length := by omega
    subst e
    refine wpAny_passesOwn hpo (wpAny_mono (T.done X rfl rfl rfl calm _ pins s3 σ3 H2 X.xe J3 f2 st (Nat.le_refl _)) (fun r s4 q => ?_) (fun _ _ z => z))
    obtain ⟨rfl, J4⟩ := q
    have ee := laps_done laps lw
    subst ee
    exact wpAny_execs_nil (fin s4 σ3 J4 left)
end
section
variable {X : Cx} {ρ : Ro} {S : Sto} {P : Program} {w : World} {K : PySem.W.Frag} {mg : Str → Option Value} {base : Heap} {tb : List (Str × Nat)} {names : List (Str × NameKind)} {k : Nat}
theorem ds_bare {iw il ip : Nat} {xw xl xp : Str} {cs : List Nat} {c1 c2 c3 c4 c5 : Str} {j1 j2 j3 j4 j5 j6 k0 : Nat} {q1 q2 q3 q4 p0 p1 p2 p3 p4 p5 q5 q6 p6 p7 p8 r0 r1 r2 r3 r4 r5 r6 : Pos} {E : DEnds} (A : At X P w K mg base tb names k)
    (hm1 : mg "range" = none) (hm2 : mg "len" = none) (hg1 : glB names "range" = true) (hg2 : glB names "len" = true)
    (hw : tb.lookup xw = some iw) (hl : tb.lookup xl = some il) (hp : tb.lookup xp = some ip) (ne : iw ≠ ip) (ne2 : iw ≠ il) (kw : names.lookup xw = some .local) (kl : names.lookup xl = some .local) (kp : names.lookup xp = some .local)
    (hσ : ρ = [some (.str (wd cs)), none, none]) (hi : iw = 0 ∧ il = 1 ∧ ip = 2) (lw : LetW cs) (hc : cs.length ≤ 1000) (e1 : c1 = wd [114, 108]) (e2 : c2 = wd [108, 114]) (e3 : c3 = wd [117, 100]) (e4 : c4 = wd [100, 117]) (e5 : c5 = wd [])
    (d1 : (xw == ("__debug__" : Str)) = false) (d2 : (xw == ("__classdict__" : Str)) = false) (d3 : (xp == ("__debug__" : Str)) = false)
    (hs1 : starEach [.Call (.Name "len" r2) [.Name xw r3] [] r4] X.env = [(false, eval (.Call (.Name "len" r2) [.Name xw r3] [] r4) X.env)]) (hs2 : starEach [.Name xw r3] X.env = [(false, eval (.Name xw r3) X.env)])
    (hst0 : starEach [.Constant (.str c1) j1 q1, .Constant (.str c2) j2 q2, .Constant (.str c3) j3 q3, .Constant (.str c4) j4 q4] X.env = [(false, eval (.Constant (.str c1) j1 q1) X.env), (false, eval (.Constant (.str c2) j2 q2) X.env), (false, eval (.Constant (.str c3) j3 q3) X.env), (false, eval (.Constant (.str c4) j4 q4) X.env)])
    (hst : starEach [.Name xp p5, .Constant (.str c5) j5 q5, .Constant (.int 1) j6 q6] X.env = [(false, eval (.Name xp p5) X.env), (false, eval (.Constant (.str c5) j5 q5) X.env), (false, eval (.Constant (.int 1) j6 q6) X.env)])
    (hbase : attributeBase (.Name xw p3) "replace" X.env (eval (.Name xw p3) X.env) = eval (.Name xw p3) X.env) (hline : (p4.endLine == p6.line) = true)
    (hsw : swapsWith (.Call (.Attribute (.Name xw p3) "replace" p4) [.Name xp p5, .Constant (.str c5) j5 q5, .Constant (.int 1) j6 q6] [] p6) (some (.Name xw p2)) p7.line X.env = pure false)
    (hs : ∀ x, foldedSetIterable (.Tuple [.Constant (.str c1) j1 q1, .Constant (.str c2) j2 q2, .Constant (.str c3) j3 q3, .Constant (.str c4) j4 q4] k0 p1) X.env x = pure x)
    (hs0 : ∀ x, foldedSetIterable (.Call (.Name "range" r0) [.Call (.Name "len" r2) [.Name xw r3] [] r4] [] r1) X.env x = pure x)
    (fin : E.nx [some (.str (wd (bareL [] cs))), none, none] S) :
    DS X (.For (.Name xl r5) (.Call (.Name "range" r0) [.Call (.Name "len" r2) [.Name xw r3] [] r4] [] r1) [.For (.Name xp p0) (.Tuple [.Constant (.str c1) j1 q1, .Constant (.str c2) j2 q2, .Constant (.str c3) j3 q3, .Constant (.str c4) j4 q4] k0 p1)
      [.Assign [.Name xw p2] (.Call (.Attribute (.Name xw p3) "replace" p4) [.Name xp p5, .Constant (.str c5) j5 q5, .Constant (.int 1) j6 q6] [] p6) p7] [] p8] [] r6) ρ S E := by
  intro Zh pins s σ H Dn I ev kk
  subst hσ
  obtain ⟨rfl, rfl, rfl⟩ := hi
  obtain ⟨v, hv, rv⟩ := ev.var 0 _ rfl
  have ev0 := rv.str
  subst ev0
  have len3 := ev.len
  refine raw_laps A.nd (A.slot _ _ hw) (A.slot _ _ hl) (A.slot _ _ hp) ne ne2 (A.vis _ (by rw [kw]; rfl)) (A.loc _ kw) (A.loc _ kl) (A.loc _ kp) A.nox A.calm I hv lw hc e1 e2 e3 e4 e5 (A.gl _ (glB_of hg1).2) (by rw [A.mg]; exact hm1) (A.gl _ (glB_of hg2).2) (by rw [A.mg]; exact hm2)
    d1 d2 d3 hs1 hs2 hst0 hst hbase hline hsw hs hs0 fun s' σ' I' left => ?_
  refine ⟨σ', H, I', kk.nx σ' H _ S Step.refl ⟨ev.st, ?_, fun i d h => ?_⟩ fin⟩
  · rw [left.1]
    exact len3
  · have h3 : i = 0 ∧ d = .str (wd (bareL [] cs)) := by
      rcases i with _ | _ | _ | i
      · exact ⟨rfl, (Option.some.inj (Option.some.inj h)).symm⟩
      · cases h
      · cases h
      · cases h
    obtain ⟨rfl, rfl⟩ := h3
    exact ⟨_, left.2.1, rep_str⟩
end
end Ar
namespace Ar
open PySem PySem.Spec PyProof.Rows L2

def topS (i : Nat) : Stmt := PySem.Challenge.pw_arearoutes_k01_whole_routes_and_what_the.main.body.getD i (.Pass ⟨0, 0, 0, 0⟩)
structure Mod (K : PySem.W.Frag) (w : World) (mg : Str → Option Value) : Prop where
  nob : NoB mg
  h_is_number : Has K mg "is_number" (topS 4) ["thing"]
  h_sure_number : Has K mg "sure_number" (topS 5) ["value"]
  h_is_route : Has K mg "is_route" (topS 10) ["thing"]
  h_sure_route : Has K mg "sure_route" (topS 11) ["value"]
  h_turned_letter : Has K mg "turned_letter" (topS 12) ["letter", "quarters"]
  h_turned_in : Has K mg "turned_in" (topS 13) ["route", "quarters"]
  h_turned_route : Has K mg "turned_route" (topS 14) ["route", "quarters"]
  h_mirrored_route : Has K mg "mirrored_route" (topS 15) ["route"]
  h_back_in : Has K mg "back_in" (topS 16) ["route"]
  h_walked_back : Has K mg "walked_back" (topS 17) ["route"]
  h_read_back : Has K mg "read_back" (topS 18) ["route"]
  h_deed_in : Has K mg "deed_in" (topS 19) ["route"]
  h_deed_of : Has K mg "deed_of" (topS 20) ["route"]
  h_corners_of : Has K mg "corners_of" (topS 21) ["route"]
  h_is_closed : Has K mg "is_closed" (topS 22) ["route"]
  h_area_inside : Has K mg "area_inside" (topS 23) ["route"]
  h_squares_beside : Has K mg "squares_beside" (topS 24) ["route"]
  h_bare_in : Has K mg "bare_in" (topS 25) ["route"]
  h_bare : Has K mg "bare" (topS 26) ["route"]
  h__law_box : Has K mg "_law_box" (topS 28) ["script", "k"]
  h__law_take : Has K mg "_law_take" (topS 29) ["tin", "below_so"]
  h__law_cells : Has K mg "_law_cells" (topS 30) ["script", "most_so"]
  h__law_of : Has K mg "_law_of" (topS 31) ["tin", "goods_so"]
  h__law_same : Has K mg "_law_same" (topS 32) ["got", "due"]
  h__law_word : Has K mg "_law_word" (topS 33) ["tin", "size_so"]
  h__law_do : Has K mg "_law_do" (topS 34) ["word_so"]
  h__law_join : Has K mg "_law_join" (topS 35) ["one", "two"]
  h__law_hat : Has K mg "_law_hat" (topS 36) ["word_so"]
  h__law_bare : Has K mg "_law_bare" (topS 37) ["word_so"]
  h_law : Has K mg "law" (topS 38) ["script"]
  gl_LETTERS : GlobD K mg "LETTERS" (.str "ruld")
  gl_STEPS : DictG K w mg "STEPS" stepF
  gl_MIRRORED : DictG K w mg "MIRRORED" mirF


local macro_rules | `(tactic| walk_at "dnat") => `(tactic| first | assumption | omega | exact Nat.le_of_ble_eq_true rfl)
local macro_rules | `(tactic| walk_at "dnatz") => `(tactic| first | exact trivial | walk_at "dnat")
local macro_rules | `(tactic| walk_at "dk2") => `(tactic| first
  | ((with_reducible apply cTake_i); (with_reducible assumption); (walk_at "dnat"); (walk_at "dnat"); (walk_at "bd"))
  | ((with_reducible refine cRoute_i ?_ ?_ ?_); (assumption); (walk_at "dnat"))
  | ((with_reducible refine cSpin_i ?_ ?_ ?_); (assumption); (walk_at "dnat"))
  | ((with_reducible refine cClosed_i ?_ ?_ ?_ ?_ ?_); (assumption); (walk_at "dnat"); (assumption); (assumption))
  | ((with_reducible refine cTurnL_i ?_ ?_); (assumption))
  | refine ⟨_, ⟨_, List.mem_cons_self, rfl⟩, ?_⟩)

local macro_rules | `(tactic| walk_at "bd") => `(tactic| focus ((with_reducible apply Bd.fit); (repeat' (first | with_reducible assumption | with_reducible apply Bd.add | with_reducible apply Bd.sub | with_reducible apply Bd.mul | with_reducible apply Bd.neg | with_reducible apply Bd.ediv | with_reducible apply Bd.emod | decide | exact Bd.lit (n := 64) rfl | exact Bd.lit (n := 300) rfl)); (all_goals (exact rfl))))
local macro_rules | `(tactic| walk_at "dok") => `(tactic| first | exact trivial | assumption | exact rfl)
local macro_rules | `(tactic| walk_at "dm") => `(tactic| first | (exact Bd.okL (Bd.lit rfl)) | (exact Bd.okR (Bd.lit rfl)) | (exact Bd.okR (by with_reducible assumption)) | (refine Bd.ok (n := 60000000) (m := 60000000) ?_ ?_ rfl <;> walk_at "bd"))
local macro_rules | `(tactic| walk_at "dty") => `(tactic| first | with_reducible exact tyInt | with_reducible exact tyBool | with_reducible exact tyStr | with_reducible exact tyTuple | with_reducible exact tyList)
local macro_rules | `(tactic| walk_at "dk") => `(tactic| first
  | ((with_reducible refine cIsNumber_i ?_ ?_); (walk_at "dok"))
  | ((with_reducible refine cIsLong_i ?_ ?_); (walk_at "dok"))
  | ((with_reducible refine cTupled_i ?_ ?_); (walk_at "dok"))
  | ((with_reducible refine cPlain1_i ?_ ?_); (walk_at "dok"))
  | ((with_reducible refine cRowOf_i ?_ ?_); (walk_at "dok"))
  | ((with_reducible refine cSureDeed_i  ?_))
  | ((with_reducible refine cSureNumber_i  ?_))
  | ((with_reducible refine cD1_i ?_ ?_ ?_ ?_); (walk_at "bd"); (walk_at "bd"); (walk_at "bd"))
  | ((with_reducible refine cD2_i ?_ ?_ ?_ ?_ ?_ ?_ ?_); (walk_at "bd"); (walk_at "bd"); (walk_at "bd"); (walk_at "bd"); (walk_at "bd"); (walk_at "bd"))
  | ((with_reducible refine cDI_i ?_ ?_ ?_ ?_ ?_); (walk_at "bd"); (walk_at "bd"); (walk_at "bd"); (walk_at "bd"))
  | ((with_reducible refine cI1_i ?_ ?_); (walk_at "bd"))
  | walk_at "dk2")
local macro_rules | `(tactic| walk_at "dlen") => `(tactic| first | with_reducible assumption | ((first | (with_reducible refine le_line6 ?_) | (with_reducible refine lt_line6 ?_)); (focus ((try simp only [List.length_map, List.length_append, List.length_cons, List.length_nil, rangeD_len]); (first | done | omega)))))
local macro_rules | `(tactic| walk_at "dnorm") => `(tactic| ((try dsimp only [wipeR, List.map, List.set]); (try exact rfl)))
local macro_rules | `(tactic| walk_at "dS") => `(tactic| ((fail_if_success (with_reducible refine asg_list ?_)); (fail_if_success (with_reducible refine asg_par3l ?_)); (fail_if_success (with_reducible refine asg_par2l ?_)); (fail_if_success (with_reducible refine asg_par3a ?_)); first
  | with_reducible refine ds_retCN ?_
  | with_reducible refine ds_ret ?_
  | ((with_reducible refine vPar3 (by assumption) (by assumption) (by assumption) (by assumption) ?_ ?_ ?_ ?_); (decide +kernel); (exact rfl); (exact ⟨rfl, rfl, rfl⟩))
  | ((with_reducible refine vPar (by assumption) (by assumption) (by assumption) ?_ ?_ ?_ ?_); (decide +kernel); (exact rfl); (exact rfl))
  | ((with_reducible refine vAsgF ?_ ?_ ?_ ?_); (decide +kernel); (exact rfl); (exact rfl))
  | ((with_reducible refine vAsgC (by assumption) ?_ ?_ ?_ ?_); (decide +kernel); (exact rfl); (exact rfl))
  | ((with_reducible refine vSet (by assumption) (by assumption) ?_ ?_); (exact rfl))
  | ((with_reducible refine ds_store ?_ ?_ ?_ ?_ ?_); (exact rfl); (exact rfl); (exact rfl); (exact fun _ => rfl))
  | ((with_reducible refine ds_asg ?_ ?_ ?_ ?_); (exact rfl); (exact rfl); (exact rfl))
  | (with_reducible refine ds_if ?_)
  | ((with_reducible refine vAug (by assumption) (by assumption) ?_); (refine ⟨_, rfl, ?_⟩))
  | ((with_reducible refine ds_expr ?_ ?_); (exact rfl))))
local macro_rules | `(tactic| walk_at "dG") => `(tactic| first
  | ((with_reducible refine vG (by assumption) (by assumption) ?_ ?_); (exact rfl))
  | ((with_reducible refine dg_tup (n := _) (by assumption) rfl ?_ ?_); (exact rfl); (refine ⟨_, rfl, rfl, ?_⟩)))
local macro_rules | `(tactic| walk_at "dC") => `(tactic| first
  | ((with_reducible refine vIsi (by assumption) (by assumption) (by walk_at "dty") (by assumption) (by assumption) ?_ ?_); (exact rfl))
  | ((with_reducible refine vIsi2 (by assumption) (by assumption) (by walk_at "dty") (by walk_at "dty") (by assumption) (by assumption) (by assumption) ?_ ?_); (exact rfl))
  | ((with_reducible refine vCall (by assumption) (by assumption) (by assumption) ?_ ?_ ?_ ?_); (exact rfl); (exact rfl); (exact rfl))
  | ((with_reducible refine de_append ?_ ?_ ?_ ?_ ?_); (exact rfl); (exact rfl); (exact rfl); (exact rfl))
  | ((with_reducible refine de_extend ?_ ?_ ?_ ?_ ?_); (exact rfl); (exact rfl); (exact rfl); (exact rfl))
  | ((with_reducible refine de_join ?_ ?_ ?_ ?_); (exact rfl); (exact rfl); (exact rfl))
  | ((with_reducible refine de_sindex ?_ ?_ ?_ ?_); (exact rfl); (exact rfl); (exact rfl))
  | ((with_reducible refine de_len (by assumption) (by assumption) (Glo.g (by assumption)) ?_ ?_); (exact rfl))
  | ((with_reducible refine de_abs (by assumption) (by assumption) (Glo.g (by assumption)) ?_ ?_); (exact rfl))
  | ((with_reducible refine de_intI (by assumption) (by assumption) (Glo.g (by assumption)) ?_ ?_); (exact rfl))
  | ((with_reducible refine de_sum (by assumption) (by assumption) (Glo.g (by assumption)) ?_ ?_); (exact rfl))
  | ((with_reducible refine de_min2 (by assumption) (by assumption) (Glo.g (by assumption)) ?_ ?_ ?_ ?_); (exact rfl); (exact rfl); (exact rfl))
  | ((with_reducible refine de_tupleOf (by assumption) (by assumption) (Glo.g (by assumption)) ?_ ?_); (exact rfl))
  | ((with_reducible refine de_all (by assumption) (by assumption) (Glo.g (by assumption)) ?_ ?_); (exact rfl))
  | ((with_reducible refine de_any (by assumption) (by assumption) (Glo.g (by assumption)) ?_ ?_); (exact rfl)))
local macro_rules | `(tactic| walk_at "dE") => `(tactic| first
  | ((with_reducible refine vName (by assumption) (by assumption) ?_); (refine ⟨_, rfl, ?_⟩))
  | ((with_reducible refine de_glob (by assumption) (by assumption) (Glo.g (by assumption)) ?_))
  | (with_reducible refine de_int ?_)
  | ((with_reducible refine de_callId ?_); walk_at "dC")
  | (with_reducible refine de_bin ?_)
  | ((with_reducible refine de_cmp ?_ ?_); (exact rfl))
  | (with_reducible refine de_revS ?_)
  | (with_reducible refine de_slLo ?_)
  | (with_reducible refine de_slHi ?_)
  | (with_reducible refine de_slLH ?_)
  | ((with_reducible refine de_kd (by assumption) (by assumption) (Glo.g (by assumption)) ?_ ?_); (exact fun _ _ => rfl))
  | ((with_reducible refine de_ix ?_ ?_); (exact fun _ _ => rfl))
  | ((with_reducible refine de_tup ?_ ?_); (exact rfl))
  | (with_reducible refine de_neg ?_)
  | (with_reducible refine de_if ?_)
  | (with_reducible refine de_bl ?_)
  | (with_reducible refine de_str ?_)
  | (with_reducible refine de_non ?_)
  | (with_reducible refine de_not ?_)
  | (with_reducible refine de_and ?_)
  | (with_reducible refine de_or ?_)
  | (with_reducible refine de_bool1 ?_)
  | ((with_reducible refine de_lst ?_ ?_); (exact rfl)))
local macro_rules | `(tactic| walk_at "dT") => `(tactic| first
  | (with_reducible refine dt_bool ?_)
  | (with_reducible refine dt_not ?_)
  | ((with_reducible refine dt_cmp ?_ ?_); (exact rfl))
  | ((with_reducible refine dt_truth ?_ ?_); (exact fun _ => rfl)))
local macro_rules | `(tactic| walk_at "dW") => `(tactic| first
  | (with_reducible refine dw_and ?_)
  | (with_reducible refine dw_or ?_)
  | (with_reducible refine dw_and1 ?_)
  | (with_reducible refine dw_or1 ?_))
local macro_rules | `(tactic| walk_at "dO") => `(tactic| first
  | with_reducible refine do_add ?_
  | with_reducible refine do_sub ?_
  | ((with_reducible refine do_cat ?_ ?_); (exact sz rfl))
  | ((with_reducible refine do_mulX ?_ ?_); (walk_at "dm"))
  | ((with_reducible refine do_fdiv ?_ ?_); (exact Bd.div (by decide) (Bd.lit (n := 9000) rfl) rfl))
  | ((with_reducible refine do_fdiv ?_ ?_); (exact Bd.div (by assumption) (by assumption) rfl))
  | ((with_reducible refine do_mod ?_ ?_); (first | (exact (by decide)) | assumption | omega))
  | ((with_reducible refine do_mulS ?_ ?_); (assumption))
  | ((with_reducible refine do_catT ?_ ?_); (walk_at "dlen"))
  | (with_reducible refine do_eqC (by assumption) ?_)
  | with_reducible refine do_eqP2 (by assumption) ?_
  | with_reducible refine do_p12 ?_
  | with_reducible refine do_neP2 (by assumption) ?_
  | ((with_reducible refine do_addS ?_ ?_); (assumption))
  | with_reducible refine do_p8 ?_
  | with_reducible refine do_p21 ?_
  | with_reducible refine do_p18 ?_
  | with_reducible refine do_p7 ?_
  | with_reducible refine do_p20 ?_
  | with_reducible refine do_p29 ?_
  | with_reducible refine do_eqI ?_
  | with_reducible refine do_neI ?_
  | with_reducible refine do_lt ?_
  | with_reducible refine do_le ?_
  | with_reducible refine do_gt ?_
  | with_reducible refine do_ge ?_
  | with_reducible refine do_isN ?_
  | with_reducible refine do_notN ?_
  | with_reducible refine do_inS ?_
  | with_reducible refine do_eqB ?_
  | with_reducible refine do_neB ?_
  | with_reducible refine do_eqS ?_
  | with_reducible refine do_neS ?_
  | with_reducible refine do_eqT3 (by assumption) ?_
  | with_reducible refine do_neNil (by assumption) ?_
  | with_reducible refine do_iadd ?_
  | with_reducible refine do_isub ?_)
local macro_rules | `(tactic| walk_at "dw") => `(tactic| first
  | ((with_reducible refine de_id ?_); walk_at "dE")
  | ((with_reducible refine do_id ?_); walk_at "dO")
  | ((with_reducible refine da_cons ?_ ?_); rotate_left; (exact rfl))
  | ((with_reducible refine dn_lst ?_ ?_); (exact rfl))
  | (with_reducible refine da_nil ?_)
  | ((with_reducible refine ds_id ?_); walk_at "dS")
  | with_reducible refine ds_cons ?_
  | with_reducible refine ds_nil ?_
  | with_reducible refine ds_one ?_
  | ((with_reducible refine dt_id ?_); walk_at "dT")
  | ((with_reducible refine dw_id ?_); walk_at "dW")
  | ((with_reducible refine dg_id ?_); walk_at "dG")
  | ((with_reducible refine dgs_cons ?_ ?_); (exact rfl))
  | (with_reducible refine dgs_nil ?_)
  | with_reducible refine nx_mk ?_
  | with_reducible refine rt_mk ?_
  | ((with_reducible apply nx_norm); (walk_at "dnorm"))
  | ((with_reducible apply nxG_norm); (walk_at "dnorm"))
  | with_reducible refine RetP.same ?_
  | ((with_reducible refine RetP.here ?_ ?_); (exact rfl))
  | ((with_reducible refine vRange1 (by assumption) (by assumption) (by assumption) ?_ ?_); (exact rfl))
  | ((with_reducible refine rng_and ?_ ?_); (exact ⟨by omega, by omega⟩))
  | ((with_reducible refine len_and ?_ ?_); (walk_at "dlen"))
  | ((with_reducible refine le_and ?_ ?_); (walk_at "dlen"))
  | ((with_reducible refine okc_and ?_ ?_); (walk_at "dok"))
  | ((with_reducible refine ite_t ?_ ?_); (exact rfl))
  | ((with_reducible refine ite_f ?_ ?_); (exact rfl))
  | ((with_reducible refine ite_t ?_ ?_); (with_reducible assumption))
  | ((with_reducible refine ite_f ?_ ?_); (with_reducible assumption))
  | walk_at "dk"
  | refine ⟨_, rfl, ?_⟩
  | refine ⟨_, _, rfl, rfl, ?_⟩
  | refine ⟨_, _, rfl, ⟨by with_reducible assumption, rfl⟩, ?_⟩
  | refine ⟨_, _, rfl, ?_⟩
  | refine ⟨_, _, _, rfl, ?_⟩
  | refine ⟨_, ⟨sz rfl, _, rfl, rfl⟩, ?_⟩
  | refine ⟨_, ⟨sz rfl, rfl⟩, ?_⟩
  | refine .inl ⟨_, rfl, ?_⟩
  | refine .inr ⟨_, rfl, ?_⟩
  | refine ⟨_, _, _, _, rfl, rfl, ?_⟩)

theorem sc_is_number : FnScope ["thing"] ["thing"] (defScope (topS 4)) := ⟨rfl, rfl, rfl, by decide +kernel, rfl, by decide +kernel, by decide +kernel⟩
def tb_is_number : List (Str × Nat) := [("thing", 0)]
def nm_is_number : List (Str × NameKind) := [("thing", .local), ("isinstance", .globalImplicit), ("int", .globalImplicit), ("bool", .globalImplicit)]
theorem ok_is_number {P : Program} {w : World} {K : PySem.W.Frag} {mg : Str → Option Value} {base : Heap} (M : Mod K w mg) : Fn P w K mg base "is_number" 1 1 (cIsNumber) := by
  refine (M.h_is_number).fn (tb := tb_is_number) sc_is_number rfl (names := nm_is_number) rfl (by decide +kernel) fun X A ds S Φ hl h => ?_
  have G := M.nob
  have v_thing := A.var "thing" 0 (by decide +kernel)
  have s_thing := A.stv "thing" 0 (by decide +kernel)
  have l_thing := A.lcv "thing" 0 (by decide +kernel)
  have g_isinstance := A.glo "isinstance" (by decide +kernel)
  have g_int := A.glo "int" (by decide +kernel)
  have g_bool := A.glo "bool" (by decide +kernel)
  obtain ⟨d, rfl, hc, h⟩ := h
  (change DSs X _ [some (d)] _ _; (first | refine ds_one ?_ | refine ds_cons ?_))
  cases d <;> repeat walk_at "dw"
  all_goals exact h

theorem sc_sure_number : FnScope ["value"] ["value"] (defScope (topS 5)) := ⟨rfl, rfl, rfl, by decide +kernel, rfl, by decide +kernel, by decide +kernel⟩
def tb_sure_number : List (Str × Nat) := [("value", 0)]
def nm_sure_number : List (Str × NameKind) := [("value", .local), ("is_number", .globalImplicit), ("Unfit", .globalImplicit)]
theorem ok_sure_number {P : Program} {w : World} {K : PySem.W.Frag} {mg : Str → Option Value} {base : Heap} (M : Mod K w mg) : Fn P w K mg base "sure_number" 1 2 (cSureNumber) := by
  have d_is_number := ok_is_number (P := P) (w := w) (base := base) M
  refine (M.h_sure_number).fn (tb := tb_sure_number) sc_sure_number rfl (names := nm_sure_number) rfl (by decide +kernel) fun X A ds S Φ hl h => ?_
  have G := M.nob
  have v_value := A.var "value" 0 (by decide +kernel)
  have s_value := A.stv "value" 0 (by decide +kernel)
  have l_value := A.lcv "value" 0 (by decide +kernel)
  have g_is_number := A.glo "is_number" (by decide +kernel)
  have g_Unfit := A.glo "Unfit" (by decide +kernel)
  obtain ⟨x, rfl, h⟩ := h
  (change DSs X _ [some (.int x)] _ _; (first | refine ds_one ?_ | refine ds_cons ?_))
  repeat walk_at "dw"
  exact h

theorem sc_is_route : FnScope ["thing", "letter"] ["thing"] (defScope (topS 10)) := ⟨rfl, rfl, rfl, by decide +kernel, rfl, by decide +kernel, by decide +kernel⟩
def tb_is_route : List (Str × Nat) := [("thing", 0), ("letter", 1)]
def nm_is_route : List (Str × NameKind) := [("thing", .local), ("isinstance", .globalImplicit), ("str", .globalImplicit), ("all", .globalImplicit)]
theorem ok_is_route {P : Program} {w : World} {K : PySem.W.Frag} {mg : Str → Option Value} {base : Heap} (M : Mod K w mg) : Fn P w K mg base "is_route" 1 1 (cRoute fun _ => .bl true) := by
  refine (M.h_is_route).fn (tb := tb_is_route) sc_is_route rfl (names := nm_is_route) rfl (by decide +kernel) fun X A ds S Φ hl h => ?_
  have G := M.nob
  have v_thing := A.var "thing" 0 (by decide +kernel)
  have s_thing := A.stv "thing" 0 (by decide +kernel)
  have l_thing := A.lcv "thing" 0 (by decide +kernel)
  have g_isinstance := A.glo "isinstance" (by decide +kernel)
  have g_str := A.glo "str" (by decide +kernel)
  have g_all := A.glo "all" (by decide +kernel)
  obtain ⟨cs, rfl, hw, hz, h⟩ := h
  (change DSs X _ [some (.str (wd cs)), none] _ _; (first | refine ds_one ?_ | refine ds_cons ?_))
  repeat walk_at "dw"
  refine de_lcN (own := [("letter", 1)]) 1 (fun _ => .bl true) A rfl (by decide +kernel) (fun _ => rfl) (by decide +kernel) (by decide +kernel) ?_
  refine di_str (vName A (by assumption) ⟨_, rfl, ?_⟩)
  refine ⟨_, rfl, ?_, ?_, ?_⟩
  · rw [chars_wd]
    exact le_line (m := 1000) (by rw [List.length_map]; exact hz) rfl
  · intro d hd X' A' Ξ hΞ
    rw [chars_wd] at hd
    obtain ⟨c, hc, rfl⟩ := List.mem_map.mp hd
    refine de_norm (by walk_at "dnorm") ?_
    have w_letter := A'.var "letter" 1 (by decide +kernel)
    have u_letter := A'.stv "letter" 1 (by decide +kernel)
    have h_LETTERS := A'.glo "LETTERS" (by decide +kernel)
    have gl_LETTERS := M.gl_LETTERS
    repeat walk_at "dw"
    rw [ltr_ruld (hw c hc)]
    exact hΞ
  · refine ⟨(charsD (wd cs)).map (fun _ => true), congrArg D.lst (bls_map (f := fun _ => true)), ?_⟩
    repeat walk_at "dw"
    have e : ((charsD (wd cs)).map fun _ => true).all id = true := by
      rw [List.all_map, List.all_eq_true]
      intro t _
      rfl
    rw [e]
    exact h

theorem sc_sure_route : FnScope ["value"] ["value"] (defScope (topS 11)) := ⟨rfl, rfl, rfl, by decide +kernel, rfl, by decide +kernel, by decide +kernel⟩
def tb_sure_route : List (Str × Nat) := [("value", 0)]
def nm_sure_route : List (Str × NameKind) := [("value", .local), ("is_route", .globalImplicit), ("Unfit", .globalImplicit)]
theorem ok_sure_route {P : Program} {w : World} {K : PySem.W.Frag} {mg : Str → Option Value} {base : Heap} (M : Mod K w mg) : Fn P w K mg base "sure_route" 1 2 (cRoute fun cs => .str (wd cs)) := by
  have d_is_route := ok_is_route (P := P) (w := w) (base := base) M
  refine (M.h_sure_route).fn (tb := tb_sure_route) sc_sure_route rfl (names := nm_sure_route) rfl (by decide +kernel) fun X A ds S Φ hl h => ?_
  have G := M.nob
  have v_value := A.var "value" 0 (by decide +kernel)
  have s_value := A.stv "value" 0 (by decide +kernel)
  have l_value := A.lcv "value" 0 (by decide +kernel)
  have g_is_route := A.glo "is_route" (by decide +kernel)
  have g_Unfit := A.glo "Unfit" (by decide +kernel)
  obtain ⟨cs, rfl, hw, hz, h⟩ := h
  (change DSs X _ [some (.str (wd cs))] _ _; (first | refine ds_one ?_ | refine ds_cons ?_))
  repeat walk_at "dw"
  exact h

theorem sc_deed_in : FnScope ["route", "x", "y", "area", "letter", "wide", "high"] ["route"] (defScope (topS 19)) := ⟨rfl, rfl, rfl, by decide +kernel, rfl, by decide +kernel, by decide +kernel⟩
def tb_deed_in : List (Str × Nat) := [("route", 0), ("x", 1), ("y", 2), ("area", 3), ("letter", 4), ("wide", 5), ("high", 6)]
def nm_deed_in : List (Str × NameKind) := [("route", .local), ("x", .local), ("y", .local), ("area", .local), ("letter", .local), ("wide", .local), ("high", .local), ("STEPS", .globalImplicit)]
theorem ok_deed_in {P : Program} {w : World} {K : PySem.W.Frag} {mg : Str → Option Value} {base : Heap} (M : Mod K w mg) : Fn P w K mg base "deed_in" 1 1 (cRoute fun cs => d3 (doW cs (0, 0, 0))) := by
  refine (M.h_deed_in).fn (tb := tb_deed_in) sc_deed_in rfl (names := nm_deed_in) rfl (by decide +kernel) fun X A ds S Φ hl h => ?_
  have G := M.nob
  have v_route := A.var "route" 0 (by decide +kernel)
  have s_route := A.stv "route" 0 (by decide +kernel)
  have l_route := A.lcv "route" 0 (by decide +kernel)
  have v_x := A.var "x" 1 (by decide +kernel)
  have s_x := A.stv "x" 1 (by decide +kernel)
  have l_x := A.lcv "x" 1 (by decide +kernel)
  have v_y := A.var "y" 2 (by decide +kernel)
  have s_y := A.stv "y" 2 (by decide +kernel)
  have l_y := A.lcv "y" 2 (by decide +kernel)
  have v_area := A.var "area" 3 (by decide +kernel)
  have s_area := A.stv "area" 3 (by decide +kernel)
  have l_area := A.lcv "area" 3 (by decide +kernel)
  have v_letter := A.var "letter" 4 (by decide +kernel)
  have s_letter := A.stv "letter" 4 (by decide +kernel)
  have l_letter := A.lcv "letter" 4 (by decide +kernel)
  have v_wide := A.var "wide" 5 (by decide +kernel)
  have s_wide := A.stv "wide" 5 (by decide +kernel)
  have l_wide := A.lcv "wide" 5 (by decide +kernel)
  have v_high := A.var "high" 6 (by decide +kernel)
  have s_high := A.stv "high" 6 (by decide +kernel)
  have l_high := A.lcv "high" 6 (by decide +kernel)
  have g_STEPS := A.glo "STEPS" (by decide +kernel)
  have gl_STEPS := M.gl_STEPS
  obtain ⟨cs, rfl, hw, hz, h⟩ := h
  (change DSs X _ [some (.str (wd cs)), none, none, none, none, none, none] _ _; (first | refine ds_one ?_ | refine ds_cons ?_))
  repeat walk_at "dw"
  refine ds_for A (fun _ => rfl) ?_
  refine di_str (vName A (by assumption) ⟨_, rfl, ?_⟩)
  refine ⟨_, rfl, ?_⟩
  rw [chars_wd]
  refine for_ind (fun ds ρ S' => ∃ (m : List Nat) (t : T3) (w1 w2 w3 : Option D), ds = m.map ch ∧ LetW m ∧ ρ = [some (.str (wd cs)), some (.int t.1), some (.int t.2.1), some (.int t.2.2), w1, w2, w3] ∧ S' = S ∧ doW m t = doW cs (0, 0, 0)) ?_ ?_ ?_
  · rintro d ds ρ S' ⟨m, ⟨x, y, z⟩, w1, w2, w3, e, hm, rfl, rfl, hf⟩
    cases m with
    | nil => cases e
    | cons c m =>
      cases e
      have hc := hm.head
      have hst := stepF_ltr hc
      have hdx := bd_dx hc
      have hdy := bd_dy hc
      repeat walk_at "dw"
      refine ⟨_, _, rfl, hst, ?_⟩
      repeat walk_at "dw"
      exact .mk ⟨m, _, _, _, _, rfl, hm.tail, rfl, rfl, hf⟩
  · rintro ρ S' ⟨m, ⟨x, y, z⟩, w1, w2, w3, e, hm, rfl, rfl, hf⟩
    cases m with
    | cons u m => cases e
    | nil =>
      repeat walk_at "dw"
      have e2 : t3 x y z = d3 (doW cs (0, 0, 0)) := by
        show d3 (doW [] (x, y, z)) = _
        rw [hf]
      have h' : ∀ Q : D → Prop, Q (d3 (doW cs (0, 0, 0))) → Q (t3 x y z) := by
        intro Q hQ
        rw [e2]
        exact hQ
      exact h' (fun d => Φ d _) h
  · exact ⟨cs, (0, 0, 0), _, _, _, rfl, hw, rfl, rfl, rfl⟩

theorem sc__law_join : FnScope ["one", "two"] ["one", "two"] (defScope (topS 35)) := ⟨rfl, rfl, rfl, by decide +kernel, rfl, by decide +kernel, by decide +kernel⟩
def tb__law_join : List (Str × Nat) := [("one", 0), ("two", 1)]
def nm__law_join : List (Str × NameKind) := [("one", .local), ("two", .local)]
theorem ok__law_join {P : Program} {w : World} {K : PySem.W.Frag} {mg : Str → Option Value} {base : Heap} (M : Mod K w mg) : Fn P w K mg base "_law_join" 2 1 (cD2 10000000 fJoin) := by
  refine (M.h__law_join).fn (tb := tb__law_join) sc__law_join rfl (names := nm__law_join) rfl (by decide +kernel) fun X A ds S Φ hl h => ?_
  have G := M.nob
  have v_one := A.var "one" 0 (by decide +kernel)
  have s_one := A.stv "one" 0 (by decide +kernel)
  have l_one := A.lcv "one" 0 (by decide +kernel)
  have v_two := A.var "two" 1 (by decide +kernel)
  have s_two := A.stv "two" 1 (by decide +kernel)
  have l_two := A.lcv "two" 1 (by decide +kernel)
  obtain ⟨x, y, z, p, q, s, rfl, ⟨hx, hy, hz⟩, ⟨hp, hq, hs⟩, h⟩ := h
  (change DSs X _ [some (t3 x y z), some (t3 p q s)] _ _; (first | refine ds_one ?_ | refine ds_cons ?_))
  repeat walk_at "dw"
  exact h

theorem sc__law_take : FnScope ["tin", "below_so", "drawn_so", "once_so", "wide_so", "twice_so"] ["tin", "below_so"] (defScope (topS 29)) := ⟨rfl, rfl, rfl, by decide +kernel, rfl, by decide +kernel, by decide +kernel⟩
def tb__law_take : List (Str × Nat) := [("tin", 0), ("below_so", 1), ("drawn_so", 2), ("once_so", 3), ("wide_so", 4), ("twice_so", 5)]
def nm__law_take : List (Str × NameKind) := [("tin", .local), ("below_so", .local), ("drawn_so", .local), ("once_so", .local), ("wide_so", .local), ("twice_so", .local), ("int", .globalImplicit)]
theorem ok__law_take {P : Program} {w : World} {K : PySem.W.Frag} {mg : Str → Option Value} {base : Heap} (M : Mod K w mg) : Fn P w K mg base "_law_take" 2 1 (cTake) := by
  refine (M.h__law_take).fn (tb := tb__law_take) sc__law_take rfl (names := nm__law_take) rfl (by decide +kernel) fun X A ds S Φ hl h => ?_
  have G := M.nob
  have v_tin := A.var "tin" 0 (by decide +kernel)
  have s_tin := A.stv "tin" 0 (by decide +kernel)
  have l_tin := A.lcv "tin" 0 (by decide +kernel)
  have v_below_so := A.var "below_so" 1 (by decide +kernel)
  have s_below_so := A.stv "below_so" 1 (by decide +kernel)
  have l_below_so := A.lcv "below_so" 1 (by decide +kernel)
  have v_drawn_so := A.var "drawn_so" 2 (by decide +kernel)
  have s_drawn_so := A.stv "drawn_so" 2 (by decide +kernel)
  have l_drawn_so := A.lcv "drawn_so" 2 (by decide +kernel)
  have v_once_so := A.var "once_so" 3 (by decide +kernel)
  have s_once_so := A.stv "once_so" 3 (by decide +kernel)
  have l_once_so := A.lcv "once_so" 3 (by decide +kernel)
  have v_wide_so := A.var "wide_so" 4 (by decide +kernel)
  have s_wide_so := A.stv "wide_so" 4 (by decide +kernel)
  have l_wide_so := A.lcv "wide_so" 4 (by decide +kernel)
  have v_twice_so := A.var "twice_so" 5 (by decide +kernel)
  have s_twice_so := A.stv "twice_so" 5 (by decide +kernel)
  have l_twice_so := A.lcv "twice_so" 5 (by decide +kernel)
  have g_int := A.glo "int" (by decide +kernel)
  obtain ⟨p, b, l, R, n, rfl, rfl, ⟨a, q, c, rfl, ha, hq, hqb, hc, hcb⟩, hb, hn, hnb, h⟩ := h
  have hc1 : Bd 31 (c + 1) := ⟨by have e : (2 : Nat) ^ 31 = 2147483648 := rfl; omega⟩
  (change DSs X _ [some (.cell p), some (.int n), none, none, none, none] _ _; (first | refine ds_one ?_ | refine ds_cons ?_))
  repeat walk_at "dw"
  refine ite_c (fun e => ?_) (fun e => ?_)
  · have e := of_decide_eq_true e
    repeat walk_at "dw"
    refine ⟨_, [], _, _, _, _, rfl, rfl, rfl, rfl, ?_⟩
    refine (?_ : DEnds.nx _ _ ((p, [.int (a / n), .int q, .int c]) :: R))
    repeat walk_at "dw"
    exact h _ _ (Int.emod_nonneg _ (by omega)) (Int.emod_lt_of_pos _ hn) ⟨_, _, _, rfl, Int.ediv_nonneg ha (by omega), hq, hqb, hc, by omega⟩
  · repeat walk_at "dw"
    refine ⟨_, [], _, _, _, _, rfl, rfl, rfl, rfl, ?_⟩
    refine (?_ : DEnds.nx _ _ ((p, [.int a, .int q, .int (c + 1)]) :: R))
    repeat walk_at "dw"
    exact h _ _ (Int.emod_nonneg _ (by omega)) (Int.emod_lt_of_pos _ hn) ⟨_, _, _, rfl, ha, hq, hqb, by omega, by omega⟩

theorem sc__law_of : FnScope ["tin", "goods_so"] ["tin", "goods_so"] (defScope (topS 31)) := ⟨rfl, rfl, rfl, by decide +kernel, rfl, by decide +kernel, by decide +kernel⟩
def tb__law_of : List (Str × Nat) := [("tin", 0), ("goods_so", 1)]
def nm__law_of : List (Str × NameKind) := [("tin", .local), ("goods_so", .local), ("_law_take", .globalImplicit), ("len", .globalImplicit)]
theorem ok__law_of {P : Program} {w : World} {K : PySem.W.Frag} {mg : Str → Option Value} {base : Heap} (M : Mod K w mg) : Fn P w K mg base "_law_of" 2 2 (cOf) := by
  have d__law_take := ok__law_take (P := P) (w := w) (base := base) M
  refine (M.h__law_of).fn (tb := tb__law_of) sc__law_of rfl (names := nm__law_of) rfl (by decide +kernel) fun X A ds S Φ hl h => ?_
  have G := M.nob
  have v_tin := A.var "tin" 0 (by decide +kernel)
  have s_tin := A.stv "tin" 0 (by decide +kernel)
  have l_tin := A.lcv "tin" 0 (by decide +kernel)
  have v_goods_so := A.var "goods_so" 1 (by decide +kernel)
  have s_goods_so := A.stv "goods_so" 1 (by decide +kernel)
  have l_goods_so := A.lcv "goods_so" 1 (by decide +kernel)
  have g__law_take := A.glo "_law_take" (by decide +kernel)
  have g_len := A.glo "len" (by decide +kernel)
  obtain ⟨p, b, l, R, g, n, rfl, rfl, ht, hb, hok, hlen, h0, h1, h⟩ := h
  have h0' : (0 : Int) < (n : Int) := by omega
  have hb' : Bd 20 (n : Int) := ⟨by have e : (2 : Nat) ^ 20 = 1048576 := rfl; omega⟩
  (change DSs X _ [some (.cell p), some (g)] _ _; (first | refine ds_one ?_ | refine ds_cons ?_))
  repeat walk_at "dw"
  refine ⟨n, hlen.nil, ?_⟩
  repeat walk_at "dw"
  intro r l' r0 r1 ht'
  obtain ⟨e, he, hq⟩ := h r l' r0 r1 ht'
  refine ⟨e, he.nil, ?_⟩
  repeat walk_at "dw"
  exact hq

def tb__law_same : List (Str × Nat) := [("got", 0), ("due", 1), ("mine", 2), ("its", 3)]
def nm__law_same : List (Str × NameKind) := [("got", .local), ("due", .local), ("isinstance", .globalImplicit), ("list", .globalImplicit), ("tuple", .globalImplicit), ("len", .globalImplicit), ("all", .globalImplicit), ("zip", .globalImplicit), ("bool", .globalImplicit), ("str", .globalImplicit), ("int", .globalImplicit)]
theorem sc__law_same : FnScope ["got", "due", "mine", "its"] ["got", "due"] (defScope (topS 32)) := ⟨rfl, rfl, rfl, by decide +kernel, rfl, by decide +kernel, by decide +kernel⟩
theorem ok__law_same {P : Program} {w : World} {K : PySem.W.Frag} {mg : Str → Option Value} {base : Heap} (M : Mod K w mg) (n : Nat) : Fn P w K mg base "_law_same" 2 (n + 1) (cSame n) := by
  induction n with
  | zero =>
    refine (M.h__law_same).fn (tb := tb__law_same) sc__law_same rfl (names := nm__law_same) rfl (by decide +kernel) fun X A ds S Φ hl h => ?_
    have G := M.nob
    have v_got := A.var "got" 0 (by decide +kernel)
    have s_got := A.stv "got" 0 (by decide +kernel)
    have l_got := A.lcv "got" 0 (by decide +kernel)
    have v_due := A.var "due" 1 (by decide +kernel)
    have s_due := A.stv "due" 1 (by decide +kernel)
    have l_due := A.lcv "due" 1 (by decide +kernel)
    have g_isinstance := A.glo "isinstance" (by decide +kernel)
    have g_list := A.glo "list" (by decide +kernel)
    have g_tuple := A.glo "tuple" (by decide +kernel)
    have g_len := A.glo "len" (by decide +kernel)
    have g_all := A.glo "all" (by decide +kernel)
    have g_zip := A.glo "zip" (by decide +kernel)
    have g_bool := A.glo "bool" (by decide +kernel)
    have g_str := A.glo "str" (by decide +kernel)
    have g_int := A.glo "int" (by decide +kernel)
    obtain ⟨d, rfl, h2, h3, h⟩ := h
    change DSs X _ [some d, some d, none, none] S _
    refine ds_cons ?_
    cases d
    case non =>
      repeat walk_at "dw"
      exact h
    case bl b =>
      repeat walk_at "dw"
      rw [show decide (b = b) = true from decide_eq_true rfl]
      exact h
    case int i =>
      repeat walk_at "dw"
      rw [show decide (i = i) = true from decide_eq_true rfl]
      exact h
    case str x =>
      repeat walk_at "dw"
      rw [show decide (x = x) = true from decide_eq_true rfl]
      exact h
    case cell => unfold fitD at h2; cases h2
    case dct => unfold fitD at h2; cases h2
    case tup => unfold fitD at h2; cases h2
    case lst => unfold fitD at h2; cases h2
    case frz => unfold fitD at h2; cases h2
  | succ n ih =>
    refine (M.h__law_same).fn (tb := tb__law_same) sc__law_same rfl (names := nm__law_same) rfl (by decide +kernel) fun X A ds S Φ hl h => ?_
    have G := M.nob
    have v_got := A.var "got" 0 (by decide +kernel)
    have s_got := A.stv "got" 0 (by decide +kernel)
    have l_got := A.lcv "got" 0 (by decide +kernel)
    have v_due := A.var "due" 1 (by decide +kernel)
    have s_due := A.stv "due" 1 (by decide +kernel)
    have l_due := A.lcv "due" 1 (by decide +kernel)
    have g_isinstance := A.glo "isinstance" (by decide +kernel)
    have g_list := A.glo "list" (by decide +kernel)
    have g_tuple := A.glo "tuple" (by decide +kernel)
    have g_len := A.glo "len" (by decide +kernel)
    have g_all := A.glo "all" (by decide +kernel)
    have g_zip := A.glo "zip" (by decide +kernel)
    have g_bool := A.glo "bool" (by decide +kernel)
    have g_str := A.glo "str" (by decide +kernel)
    have g_int := A.glo "int" (by decide +kernel)
    obtain ⟨d, rfl, h2, h3, h⟩ := h
    change DSs X _ [some d, some d, none, none] S _
    refine ds_cons ?_
    cases d
    case non =>
      repeat walk_at "dw"
      exact h
    case bl b =>
      repeat walk_at "dw"
      rw [show decide (b = b) = true from decide_eq_true rfl]
      exact h
    case int i =>
      repeat walk_at "dw"
      rw [show decide (i = i) = true from decide_eq_true rfl]
      exact h
    case str x =>
      repeat walk_at "dw"
      rw [show decide (x = x) = true from decide_eq_true rfl]
      exact h
    case cell => unfold fitD at h2; cases h2
    case dct => unfold fitD at h2; cases h2
    case tup l =>
      have hl' : decide ((l.length : Int) = (l.length : Int)) = true := decide_eq_true rfl
      unfold fitD at h2
      rw [Bool.and_eq_true] at h2
      unfold noFrz at h3
      have hz : l.length ≤ sizeLine := Nat.le_of_ble_eq_true h2.1
      repeat walk_at "dw"
      refine de_lcP (own := [("mine", 2), ("its", 3)]) 2 3 (fun _ => .bl true) A rfl (by decide +kernel) (fun _ => rfl) (by decide +kernel) (by decide +kernel) (by decide +kernel) (by decide +kernel) ?_
      refine di_zip A (G.no _ rfl) g_zip.g rfl rfl rfl ?_
      repeat walk_at "dw"
      refine .inr ⟨_, _, rfl, rfl, ?_⟩
      refine ⟨by rw [zipD_len]; omega, ?_, ?_⟩
      · intro d hd
        obtain ⟨x, hx, rfl⟩ := zip_self hd
        refine ⟨_, _, rfl, fun X' A' Ξ hΞ => ?_⟩
        refine de_norm (by walk_at "dnorm") ?_
        have w_mine := A'.var "mine" 2 (by decide +kernel)
        have u_mine := A'.stv "mine" 2 (by decide +kernel)
        have w_its := A'.var "its" 3 (by decide +kernel)
        have u_its := A'.stv "its" 3 (by decide +kernel)
        have h__law_same := A'.glo "_law_same" (by decide +kernel)
        refine vCall A' ih h__law_same (by rw [ble_self]; exact rfl) rfl rfl ?_
        have hfx := fit_in h2.2 x hx
        have hnx := noFrz_in h3 x hx
        repeat walk_at "dw"
        exact ⟨hfx, hnx, hΞ⟩
      · refine ⟨(zipD l l).map (fun _ => true), congrArg D.lst (bls_map (f := fun _ => true)), ?_⟩
        repeat walk_at "dw"
        rw [all_true]
        exact h
    case lst l =>
      have hl' : decide ((l.length : Int) = (l.length : Int)) = true := decide_eq_true rfl
      unfold fitD at h2
      rw [Bool.and_eq_true] at h2
      unfold noFrz at h3
      have hz : l.length ≤ sizeLine := Nat.le_of_ble_eq_true h2.1
      repeat walk_at "dw"
      refine de_lcP (own := [("mine", 2), ("its", 3)]) 2 3 (fun _ => .bl true) A rfl (by decide +kernel) (fun _ => rfl) (by decide +kernel) (by decide +kernel) (by decide +kernel) (by decide +kernel) ?_
      refine di_zip A (G.no _ rfl) g_zip.g rfl rfl rfl ?_
      repeat walk_at "dw"
      refine .inl ⟨_, _, .lst _, .lst _, ?_⟩
      refine ⟨by rw [zipD_len]; omega, ?_, ?_⟩
      · intro d hd
        obtain ⟨x, hx, rfl⟩ := zip_self hd
        refine ⟨_, _, rfl, fun X' A' Ξ hΞ => ?_⟩
        refine de_norm (by walk_at "dnorm") ?_
        have w_mine := A'.var "mine" 2 (by decide +kernel)
        have u_mine := A'.stv "mine" 2 (by decide +kernel)
        have w_its := A'.var "its" 3 (by decide +kernel)
        have u_its := A'.stv "its" 3 (by decide +kernel)
        have h__law_same := A'.glo "_law_same" (by decide +kernel)
        refine vCall A' ih h__law_same (by rw [ble_self]; exact rfl) rfl rfl ?_
        have hfx := fit_in h2.2 x hx
        have hnx := noFrz_in h3 x hx
        repeat walk_at "dw"
        exact ⟨hfx, hnx, hΞ⟩
      · refine ⟨(zipD l l).map (fun _ => true), congrArg D.lst (bls_map (f := fun _ => true)), ?_⟩
        repeat walk_at "dw"
        rw [all_true]
        exact h
    case frz => unfold noFrz at h3; cases h3

theorem sc__law_do : FnScope ["word_so", "x", "y", "z", "letter_so", "step_so"] ["word_so"] (defScope (topS 34)) := ⟨rfl, rfl, rfl, by decide +kernel, rfl, by decide +kernel, by decide +kernel⟩
def tb__law_do : List (Str × Nat) := [("word_so", 0), ("x", 1), ("y", 2), ("z", 3), ("letter_so", 4), ("step_so", 5)]
def nm__law_do : List (Str × NameKind) := [("word_so", .local), ("x", .local), ("y", .local), ("z", .local), ("letter_so", .local), ("step_so", .local)]
theorem ok__law_do {P : Program} {w : World} {K : PySem.W.Frag} {mg : Str → Option Value} {base : Heap} (M : Mod K w mg) : Fn P w K mg base "_law_do" 1 1 (cRoute fun cs => d3 (doW cs (0, 0, 0))) := by
  refine (M.h__law_do).fn (tb := tb__law_do) sc__law_do rfl (names := nm__law_do) rfl (by decide +kernel) fun X A ds S Φ hl h => ?_
  have G := M.nob
  have v_word_so := A.var "word_so" 0 (by decide +kernel)
  have s_word_so := A.stv "word_so" 0 (by decide +kernel)
  have l_word_so := A.lcv "word_so" 0 (by decide +kernel)
  have v_x := A.var "x" 1 (by decide +kernel)
  have s_x := A.stv "x" 1 (by decide +kernel)
  have l_x := A.lcv "x" 1 (by decide +kernel)
  have v_y := A.var "y" 2 (by decide +kernel)
  have s_y := A.stv "y" 2 (by decide +kernel)
  have l_y := A.lcv "y" 2 (by decide +kernel)
  have v_z := A.var "z" 3 (by decide +kernel)
  have s_z := A.stv "z" 3 (by decide +kernel)
  have l_z := A.lcv "z" 3 (by decide +kernel)
  have v_letter_so := A.var "letter_so" 4 (by decide +kernel)
  have s_letter_so := A.stv "letter_so" 4 (by decide +kernel)
  have l_letter_so := A.lcv "letter_so" 4 (by decide +kernel)
  have v_step_so := A.var "step_so" 5 (by decide +kernel)
  have s_step_so := A.stv "step_so" 5 (by decide +kernel)
  have l_step_so := A.lcv "step_so" 5 (by decide +kernel)
  obtain ⟨cs, rfl, hw, hz, h⟩ := h
  (change DSs X _ [some (.str (wd cs)), none, none, none, none, none] _ _; (first | refine ds_one ?_ | refine ds_cons ?_))
  repeat walk_at "dw"
  refine ds_for A (fun _ => rfl) ?_
  refine di_str (vName A (by assumption) ⟨_, rfl, ?_⟩)
  refine ⟨_, rfl, ?_⟩
  rw [chars_wd]
  refine for_ind (fun ds ρ S' => ∃ (m : List Nat) (t : T3) (w1 w2 : Option D), ds = m.map ch ∧ LetW m ∧ ρ = [some (.str (wd cs)), some (.int t.1), some (.int t.2.1), some (.int t.2.2), w1, w2] ∧ S' = S ∧ doW m t = doW cs (0, 0, 0)) ?_ ?_ ?_
  · rintro d ds ρ S' ⟨m, ⟨x, y, z⟩, w1, w2, e, hm, rfl, rfl, hf⟩
    cases m with
    | nil => cases e
    | cons c m =>
      cases e
      rcases hm.head with rfl | rfl | rfl | rfl
      all_goals repeat walk_at "dw"
      all_goals refine .mk ⟨m, (_, _, _), _, _, rfl, hm.tail, rfl, rfl, ?_⟩
      all_goals rw [← hf]
      all_goals show doW m _ = doW m _
      all_goals congr 1
      all_goals simp [dx, dy]
  · rintro ρ S' ⟨m, ⟨x, y, z⟩, w1, w2, e, hm, rfl, rfl, hf⟩
    cases m with
    | cons u m => cases e
    | nil =>
      repeat walk_at "dw"
      have e2 : t3 x y z = d3 (doW cs (0, 0, 0)) := by
        show d3 (doW [] (x, y, z)) = _
        rw [hf]
      have h' : ∀ Q : D → Prop, Q (d3 (doW cs (0, 0, 0))) → Q (t3 x y z) := by
        intro Q hQ
        rw [e2]
        exact hQ
      exact h' (fun d => Φ d _) h
  · exact ⟨cs, (0, 0, 0), _, _, rfl, hw, rfl, rfl, rfl⟩

theorem sc__law_word : FnScope ["tin", "size_so", "k"] ["tin", "size_so"] (defScope (topS 33)) := ⟨rfl, rfl, rfl, by decide +kernel, rfl, by decide +kernel, by decide +kernel⟩
def tb__law_word : List (Str × Nat) := [("tin", 0), ("size_so", 1), ("k", 2)]
def nm__law_word : List (Str × NameKind) := [("tin", .cell), ("size_so", .local), ("range", .globalImplicit)]
theorem ok__law_word {P : Program} {w : World} {K : PySem.W.Frag} {mg : Str → Option Value} {base : Heap} (M : Mod K w mg) : Fn P w K mg base "_law_word" 2 3 (cWord) := by
  have d__law_of := ok__law_of (P := P) (w := w) (base := base) M
  refine (M.h__law_word).fn (tb := tb__law_word) sc__law_word rfl (names := nm__law_word) rfl (by decide +kernel) fun X A ds S Φ hl h => ?_
  have G := M.nob
  have v_tin := A.var "tin" 0 (by decide +kernel)
  have s_tin := A.stv "tin" 0 (by decide +kernel)
  have v_size_so := A.var "size_so" 1 (by decide +kernel)
  have s_size_so := A.stv "size_so" 1 (by decide +kernel)
  have l_size_so := A.lcv "size_so" 1 (by decide +kernel)
  have g_range := A.glo "range" (by decide +kernel)
  obtain ⟨p, b, l, R, n, rfl, rfl, ht, hb, h0, hn, h⟩ := h
  (change DSs X _ [some (.cell p), some (.int n), none] _ _; (first | refine ds_one ?_ | refine ds_cons ?_))
  repeat walk_at "dw"
  refine vLc (own := [("k", 2)]) A rfl (by decide +kernel) (fun _ => rfl) ?_
  repeat walk_at "dw"
  (with_reducible apply lcN_norm)
  walk_at "dnorm"
  refine lc_ind (fun ds S' acc => ∃ (cs : List Nat) (l' : List D), acc = cs.map ch ∧ LetW cs ∧ cs.length + ds.length = n.toNat ∧ Tin (b + cs.length) l' ∧ S' = (p, l') :: R) ?_ ?_ ?_
  · rintro d ds S' acc ⟨cs, l', rfl, hcs, hlen, ht', rfl⟩ X' hX
    have A' := A.blk rfl hX
    have w_k := A'.var "k" 2 (by decide +kernel)
    have u_k := A'.stv "k" 2 (by decide +kernel)
    have h__law_of := A'.glo "_law_of" (by decide +kernel)
    have w_tin := A'.var "tin" 0 (by decide +kernel)
    repeat walk_at "dw"
    refine .mk fun X2 hX2 => ?_
    have A2 := A.blk rfl hX2
    rw [List.length_cons] at hlen
    repeat walk_at "dw"
    refine ⟨p, _, _, _, _, 4, rfl, rfl, ht', by omega, trivial, ⟨sz rfl, rfl⟩, by decide, by decide, ?_⟩
    intro r l2 r0 r1 ht2
    have hr : r = 0 ∨ r = 1 ∨ r = 2 ∨ r = 3 := by omega
    have fin : ∀ c, Ltr c → Box (∃ (cs1 : List Nat) (l1 : List D), cs.map ch ++ [ch c] = cs1.map ch ∧ LetW cs1 ∧ cs1.length + ds.length = n.toNat ∧ Tin (b + cs1.length) l1 ∧ (p, l2) :: R = (p, l1) :: R) := fun c hc => .mk ⟨cs ++ [c], l2, by simp, fun d hd => by
      rcases List.mem_append.mp hd with q | q
      · exact hcs d q
      · rw [List.mem_singleton.mp q]
        exact hc, by simp only [List.length_append, List.length_cons, List.length_nil]; omega, by simp only [List.length_append, List.length_cons, List.length_nil]; exact ht2, rfl⟩
    rcases hr with rfl | rfl | rfl | rfl
    · exact ⟨_, ⟨sz rfl, _, rfl, rfl⟩, fin 114 (.inl rfl)⟩
    · exact ⟨_, ⟨sz rfl, _, rfl, rfl⟩, fin 117 (.inr (.inl rfl))⟩
    · exact ⟨_, ⟨sz rfl, _, rfl, rfl⟩, fin 108 (.inr (.inr (.inl rfl)))⟩
    · exact ⟨_, ⟨sz rfl, _, rfl, rfl⟩, fin 100 (.inr (.inr (.inr rfl)))⟩
  · rintro S' acc ⟨cs, l', rfl, hcs, hlen, ht', rfl⟩
    have hlen2 : (cs.length : Int) = n := by
      rw [List.length_nil] at hlen
      omega
    refine ⟨cs.map fun c => (⟨#[c]⟩ : Str), by rw [List.map_map]; rfl, ?_, ?_⟩
    · rw [sum_ones]
      show cs.length + _ * 0 ≤ _
      omega
    · rw [join_wd]
      repeat walk_at "dw"
      have e : n.toNat = cs.length := by omega
      rw [e] at h
      exact h cs l' hcs hlen2 ht'
  · exact ⟨[], l, rfl, (by intro c hc; cases hc), by rw [rangeD_len]; simp, ht, rfl⟩

theorem sc__law_box : FnScope ["script", "k", "bit_so"] ["script", "k"] (defScope (topS 28)) := ⟨rfl, rfl, rfl, by decide +kernel, rfl, by decide +kernel, by decide +kernel⟩
def tb__law_box : List (Str × Nat) := [("script", 0), ("k", 1), ("bit_so", 2)]
def nm__law_box : List (Str × NameKind) := [("script", .local), ("k", .local), ("bit_so", .local), ("len", .globalImplicit), ("abs", .globalImplicit), ("int", .globalImplicit)]
theorem ok__law_box {P : Program} {w : World} {K : PySem.W.Frag} {mg : Str → Option Value} {base : Heap} (M : Mod K w mg) : FnN P w K mg base "_law_box" 2 1 (cBoxN) := by
  refine (M.h__law_box).fnN (tb := tb__law_box) sc__law_box rfl (names := nm__law_box) rfl (by decide +kernel) fun X A ds S Φ hl h => ?_
  have G := M.nob
  have v_script := A.var "script" 0 (by decide +kernel)
  have s_script := A.stv "script" 0 (by decide +kernel)
  have l_script := A.lcv "script" 0 (by decide +kernel)
  have v_k := A.var "k" 1 (by decide +kernel)
  have s_k := A.stv "k" 1 (by decide +kernel)
  have l_k := A.lcv "k" 1 (by decide +kernel)
  have v_bit_so := A.var "bit_so" 2 (by decide +kernel)
  have s_bit_so := A.stv "bit_so" 2 (by decide +kernel)
  have l_bit_so := A.lcv "bit_so" 2 (by decide +kernel)
  have g_len := A.glo "len" (by decide +kernel)
  have g_abs := A.glo "abs" (by decide +kernel)
  have g_int := A.glo "int" (by decide +kernel)
  obtain ⟨is, k, rfl, h0, h1, hlen, h⟩ := h
  (change DSs X _ [some (.lst (is.map D.int)), some (.int k), none] _ _; (first | refine ds_one ?_ | refine ds_cons ?_))
  repeat walk_at "dw"
  have end_ : ∀ bit : Int, Tin 0 [.int ((if bit < 0 then -bit else bit) * (if decide (1000000000000000000 ≤ (if bit < 0 then -bit else bit)) = true then 1 else 0)), .int (bit % 2305843009213693951 + 39373 * k + 9301001), .int 0] := fun bit => by
    refine ⟨_, _, _, rfl, Int.mul_nonneg (by split <;> omega) (by split <;> omega), ?_, ?_, by omega, by omega⟩
    · have := Int.emod_nonneg bit (b := 2305843009213693951) (by decide)
      omega
    · have h2 := Int.emod_nonneg bit (b := 2305843009213693951) (by decide)
      have h3 := Int.emod_lt_of_pos bit (b := 2305843009213693951) (by decide)
      refine ⟨?_⟩
      have e : (2 : Nat) ^ 80 = 1208925819614629174706176 := rfl
      omega
  have hfit : ∀ bit : Int, Bd 64 (if decide (1000000000000000000 ≤ (if bit < 0 then -bit else bit)) = true then 1 else 0) := fun bit => Bd.ofBool
  refine ite_c (fun e => ?_) (fun e => ?_)
  · obtain ⟨x, hx, hat⟩ := atI_ok (l := is.map D.int) h0 (of_decide_eq_true e)
    obtain ⟨bit, rfl⟩ := int_mem hx
    repeat walk_at "dw"
    refine ⟨_, hat, ?_⟩
    have hfb := hfit bit
    repeat walk_at "dw"
    intro c
    exact RetC.cell rfl (List.mem_singleton.mpr rfl) (h _ (end_ bit))
  · have hfb := hfit 0
    repeat walk_at "dw"
    intro c
    exact RetC.cell rfl (List.mem_singleton.mpr rfl) (h _ (end_ 0))

theorem sc__law_cells : FnScope ["script", "most_so", "cells_so", "k", "bit_so", "at_so"] ["script", "most_so"] (defScope (topS 30)) := ⟨rfl, rfl, rfl, by decide +kernel, rfl, by decide +kernel, by decide +kernel⟩
def tb__law_cells : List (Str × Nat) := [("script", 0), ("most_so", 1), ("cells_so", 2), ("k", 3), ("bit_so", 4), ("at_so", 5)]
def nm__law_cells : List (Str × NameKind) := [("script", .local), ("most_so", .local), ("cells_so", .local), ("k", .local), ("bit_so", .local), ("at_so", .local), ("list", .globalImplicit), ("enumerate", .globalImplicit), ("int", .globalImplicit)]
theorem ok__law_cells {P : Program} {w : World} {K : PySem.W.Frag} {mg : Str → Option Value} {base : Heap} (M : Mod K w mg) : Fn P w K mg base "_law_cells" 2 1 (cCells) := by
  refine (M.h__law_cells).fn (tb := tb__law_cells) sc__law_cells rfl (names := nm__law_cells) rfl (by decide +kernel) fun X A ds S Φ hl h => ?_
  have G := M.nob
  have v_script := A.var "script" 0 (by decide +kernel)
  have s_script := A.stv "script" 0 (by decide +kernel)
  have l_script := A.lcv "script" 0 (by decide +kernel)
  have v_most_so := A.var "most_so" 1 (by decide +kernel)
  have s_most_so := A.stv "most_so" 1 (by decide +kernel)
  have l_most_so := A.lcv "most_so" 1 (by decide +kernel)
  have v_cells_so := A.var "cells_so" 2 (by decide +kernel)
  have s_cells_so := A.stv "cells_so" 2 (by decide +kernel)
  have l_cells_so := A.lcv "cells_so" 2 (by decide +kernel)
  have v_k := A.var "k" 3 (by decide +kernel)
  have s_k := A.stv "k" 3 (by decide +kernel)
  have l_k := A.lcv "k" 3 (by decide +kernel)
  have v_bit_so := A.var "bit_so" 4 (by decide +kernel)
  have s_bit_so := A.stv "bit_so" 4 (by decide +kernel)
  have l_bit_so := A.lcv "bit_so" 4 (by decide +kernel)
  have v_at_so := A.var "at_so" 5 (by decide +kernel)
  have s_at_so := A.stv "at_so" 5 (by decide +kernel)
  have l_at_so := A.lcv "at_so" 5 (by decide +kernel)
  have g_list := A.glo "list" (by decide +kernel)
  have g_enumerate := A.glo "enumerate" (by decide +kernel)
  have g_int := A.glo "int" (by decide +kernel)
  obtain ⟨is, n, rfl, h0, h1, hlen, h⟩ := h
  (change DSs X _ [some (.frz (is.map D.int)), some (.int n), none, none, none, none] _ _; (first | refine ds_one ?_ | refine ds_cons ?_))
  refine vCell A (by assumption) ?_ ?_
  exact rfl
  refine DN.mono (Φ := fun l S1 => S1 = S ∧ ∃ js : List Int, l = js.map D.int ∧ js.length ≤ 63 ∧ (n.toNat < is.length → js.length = n.toNat)) ?_ ?_
  · refine dn_or (dn_listOf A G (Glo.g (by assumption)) ?_ ?_)
    exact rfl
    obtain ⟨js, hj, hjl⟩ := cut_hi (is := is) (n := n) (by omega)
    repeat walk_at "dw"
    rw [hj]
    refine ite_c (fun e => ?_) (fun e => ?_)
    · exact ⟨rfl, js, rfl, by omega, by omega⟩
    · refine dn_or1 ?_
      repeat walk_at "dw"
      refine ⟨rfl, [0], rfl, by decide, fun q => ?_⟩
      have : js.length = 0 := by
        cases js with
        | nil => rfl
        | cons a js => cases e
      omega
  rintro l S1 ⟨rfl, js, rfl, hj1, hj2⟩ c
  repeat walk_at "dw"
  refine ds_for A (fun _ => rfl) ?_
  refine di_enum A (G.no _ rfl) g_enumerate.g rfl rfl ?_
  obtain ⟨ks, hk, hkl⟩ := cut_mid (is := is) (n := n) (m := 63) (by omega)
  repeat walk_at "dw"
  rw [hk]
  refine ⟨_, .lst _, ?_⟩
  refine for_ind (fun ds ρ S' => ∃ (ms : List Int) (w1 w2 w3 : Option D), (∀ d, d ∈ ds → (∃ (i : Nat) (x : Int), d = .tup [.int (i : Int), .int x] ∧ i < 64) ∧ (ms.length : Int) = n) ∧ ρ = [some (.frz (is.map D.int)), some (.int n), some (.cell c), w1, w2, w3] ∧ S' = S1 ++ [(c, ms.map D.int)] ∧ ms.length ≤ 63) ?_ ?_ ?_
  · rintro d ds ρ S' ⟨ms, w1, w2, w3, hd, rfl, rfl, hm⟩
    obtain ⟨⟨i, x, rfl, hi⟩, hmn⟩ := hd d List.mem_cons_self
    have hib : Bd 64 ((i : Int) + 2) := ⟨by have e : (2 : Nat) ^ 64 = 18446744073709551616 := rfl; omega⟩
    have a0 := Int.emod_nonneg (i : Int) (b := n) (by omega)
    have a1 := Int.emod_lt_of_pos (i : Int) (b := n) h0
    obtain ⟨y, hy, hat⟩ := atI_ok (l := ms.map D.int) a0 (by rw [List.length_map]; omega)
    obtain ⟨y, rfl⟩ := int_mem hy
    have hix := ixN_ok (n := (ms.map D.int).length) a0 (by rw [List.length_map]; omega)
    repeat walk_at "dw"
    refine ⟨_, ⟨_, List.mem_append_right _ List.mem_cons_self, hat⟩, ?_⟩
    repeat walk_at "dw"
    refine ⟨_, _, _, [], _, _, rfl, rfl, rfl, hix, ?_⟩
    repeat walk_at "dw"
    refine .mk ⟨ms.set ((i : Int) % n).toNat (y + x * ((i : Int) + 2)), _, _, _, fun d hd2 => ?_, rfl, by rw [List.map_set], by rw [List.length_set]; exact hm⟩
    rw [List.length_set]
    exact hd d (List.mem_cons_of_mem _ hd2)
  · rintro ρ S' ⟨ms, w1, w2, w3, hd, rfl, rfl, hm⟩
    repeat walk_at "dw"
    exact RetP.cell rfl (List.mem_singleton.mpr rfl) (h ms hm)
  · refine ⟨js, _, _, _, fun d hd => ?_, rfl, rfl, hj1⟩
    obtain ⟨i, x, e, h3, h4⟩ := enum_ints hd
    have : is.length - n.toNat ≠ 0 := by omega
    exact ⟨⟨i, x, e, by omega⟩, by omega⟩

theorem sc_turned_letter : FnScope ["letter", "quarters"] ["letter", "quarters"] (defScope (topS 12)) := ⟨rfl, rfl, rfl, by decide +kernel, rfl, by decide +kernel, by decide +kernel⟩
def tb_turned_letter : List (Str × Nat) := [("letter", 0), ("quarters", 1)]
def nm_turned_letter : List (Str × NameKind) := [("letter", .local), ("quarters", .local), ("LETTERS", .globalImplicit)]
theorem ok_turned_letter {P : Program} {w : World} {K : PySem.W.Frag} {mg : Str → Option Value} {base : Heap} (M : Mod K w mg) : Fn P w K mg base "turned_letter" 2 1 (cTurnL) := by
  refine (M.h_turned_letter).fn (tb := tb_turned_letter) sc_turned_letter rfl (names := nm_turned_letter) rfl (by decide +kernel) fun X A ds S Φ hl h => ?_
  have G := M.nob
  have v_letter := A.var "letter" 0 (by decide +kernel)
  have s_letter := A.stv "letter" 0 (by decide +kernel)
  have l_letter := A.lcv "letter" 0 (by decide +kernel)
  have v_quarters := A.var "quarters" 1 (by decide +kernel)
  have s_quarters := A.stv "quarters" 1 (by decide +kernel)
  have l_quarters := A.lcv "quarters" 1 (by decide +kernel)
  have g_LETTERS := A.glo "LETTERS" (by decide +kernel)
  have gl_LETTERS := M.gl_LETTERS
  obtain ⟨c, q, rfl, hc, h⟩ := h
  (change DSs X _ [some (ch c), some (.int q)] _ _; (first | refine ds_one ?_ | refine ds_cons ?_))
  repeat walk_at "dw"
  refine ⟨_, _, _, rfl, occ_ltr hc, ?_⟩
  repeat walk_at "dw"
  refine ⟨_, ⟨sz rfl, _, spin_at hc q, rfl⟩, ?_⟩
  repeat walk_at "dw"
  exact h

theorem sc_deed_of : FnScope ["route"] ["route"] (defScope (topS 20)) := ⟨rfl, rfl, rfl, by decide +kernel, rfl, by decide +kernel, by decide +kernel⟩
def tb_deed_of : List (Str × Nat) := [("route", 0)]
def nm_deed_of : List (Str × NameKind) := [("route", .local), ("deed_in", .globalImplicit), ("sure_route", .globalImplicit)]
theorem ok_deed_of {P : Program} {w : World} {K : PySem.W.Frag} {mg : Str → Option Value} {base : Heap} (M : Mod K w mg) : Fn P w K mg base "deed_of" 1 3 (cRoute fun cs => d3 (doW cs (0, 0, 0))) := by
  have d_sure_route := ok_sure_route (P := P) (w := w) (base := base) M
  have d_deed_in := ok_deed_in (P := P) (w := w) (base := base) M
  refine (M.h_deed_of).fn (tb := tb_deed_of) sc_deed_of rfl (names := nm_deed_of) rfl (by decide +kernel) fun X A ds S Φ hl h => ?_
  have G := M.nob
  have v_route := A.var "route" 0 (by decide +kernel)
  have s_route := A.stv "route" 0 (by decide +kernel)
  have l_route := A.lcv "route" 0 (by decide +kernel)
  have g_deed_in := A.glo "deed_in" (by decide +kernel)
  have g_sure_route := A.glo "sure_route" (by decide +kernel)
  obtain ⟨cs, rfl, hw, hz, h⟩ := h
  (change DSs X _ [some (.str (wd cs))] _ _; (first | refine ds_one ?_ | refine ds_cons ?_))
  repeat walk_at "dw"
  exact h

theorem sc_turned_in : FnScope ["route", "quarters", "letter"] ["route", "quarters"] (defScope (topS 13)) := ⟨rfl, rfl, rfl, by decide +kernel, rfl, by decide +kernel, by decide +kernel⟩
def tb_turned_in : List (Str × Nat) := [("route", 0), ("quarters", 1), ("letter", 2)]
def nm_turned_in : List (Str × NameKind) := [("route", .local), ("quarters", .cell)]
theorem ok_turned_in {P : Program} {w : World} {K : PySem.W.Frag} {mg : Str → Option Value} {base : Heap} (M : Mod K w mg) : Fn P w K mg base "turned_in" 2 2 (cSpin) := by
  have d_turned_letter := ok_turned_letter (P := P) (w := w) (base := base) M
  refine (M.h_turned_in).fn (tb := tb_turned_in) sc_turned_in rfl (names := nm_turned_in) rfl (by decide +kernel) fun X A ds S Φ hl h => ?_
  have G := M.nob
  have v_route := A.var "route" 0 (by decide +kernel)
  have s_route := A.stv "route" 0 (by decide +kernel)
  have l_route := A.lcv "route" 0 (by decide +kernel)
  have v_quarters := A.var "quarters" 1 (by decide +kernel)
  have s_quarters := A.stv "quarters" 1 (by decide +kernel)
  obtain ⟨cs, q, rfl, hw, hz, h⟩ := h
  (change DSs X _ [some (.str (wd cs)), some (.int q), none] _ _; (first | refine ds_one ?_ | refine ds_cons ?_))
  repeat walk_at "dw"
  refine de_lcN (own := [("letter", 2)]) 2 (fD (spinN (q % 4).toNat)) A rfl (by decide +kernel) (fun _ => rfl) (by decide +kernel) (by decide +kernel) ?_
  refine di_str (vName A (by assumption) ⟨_, rfl, ?_⟩)
  refine ⟨_, rfl, ?_, ?_, ?_⟩
  · rw [charsD_len]
    exact le_line (m := 1000) hz rfl
  · intro d hd X' A' Ξ hΞ
    rw [chars_wd] at hd
    obtain ⟨c1, hc1, rfl⟩ := List.mem_map.mp hd
    have hl := hw _ hc1
    refine de_norm (by walk_at "dnorm") ?_
    have w_letter := A'.var "letter" 2 (by decide +kernel)
    have u_letter := A'.stv "letter" 2 (by decide +kernel)
    have h_turned_letter := A'.glo "turned_letter" (by decide +kernel)
    have w_quarters := A'.var "quarters" 1 (by decide +kernel)
    repeat walk_at "dw"
    exact hΞ
  refine ⟨_, congrArg D.lst fD_map, ?_, ?_⟩
  · rw [sum_ones]
    simp only [List.length_map]
    show cs.length + cs.length * 0 ≤ _
    omega
  rw [join_wd]
  repeat walk_at "dw"
  exact h

theorem sc__law_bare : FnScope ["word_so", "lap", "pair_so"] ["word_so"] (defScope (topS 37)) := ⟨rfl, rfl, rfl, by decide +kernel, rfl, by decide +kernel, by decide +kernel⟩
def tb__law_bare : List (Str × Nat) := [("word_so", 0), ("lap", 1), ("pair_so", 2)]
def nm__law_bare : List (Str × NameKind) := [("word_so", .local), ("lap", .local), ("pair_so", .local), ("range", .globalImplicit), ("len", .globalImplicit)]
theorem ok__law_bare {P : Program} {w : World} {K : PySem.W.Frag} {mg : Str → Option Value} {base : Heap} (M : Mod K w mg) : Fn P w K mg base "_law_bare" 1 1 (cRoute fun cs => .str (wd (bareL [] cs))) := by
  refine (M.h__law_bare).fn (tb := tb__law_bare) sc__law_bare rfl (names := nm__law_bare) rfl (by decide +kernel) fun X A ds S Φ hl h => ?_
  have G := M.nob
  have v_word_so := A.var "word_so" 0 (by decide +kernel)
  have s_word_so := A.stv "word_so" 0 (by decide +kernel)
  have l_word_so := A.lcv "word_so" 0 (by decide +kernel)
  have v_lap := A.var "lap" 1 (by decide +kernel)
  have s_lap := A.stv "lap" 1 (by decide +kernel)
  have l_lap := A.lcv "lap" 1 (by decide +kernel)
  have v_pair_so := A.var "pair_so" 2 (by decide +kernel)
  have s_pair_so := A.stv "pair_so" 2 (by decide +kernel)
  have l_pair_so := A.lcv "pair_so" 2 (by decide +kernel)
  have g_range := A.glo "range" (by decide +kernel)
  have g_len := A.glo "len" (by decide +kernel)
  obtain ⟨cs, rfl, hw, hz, h⟩ := h
  (change DSs X _ [some (.str (wd cs)), none, none] _ _; (first | refine ds_one ?_ | refine ds_cons ?_))
  refine ds_bare (il := 1) (ip := 2) A (G.no _ (by rfl)) (G.no _ (by rfl)) rfl rfl rfl rfl rfl (by decide) (by decide) rfl rfl rfl rfl ⟨rfl, rfl, rfl⟩ hw hz rfl rfl rfl rfl rfl (by decide) (by decide) (by decide) rfl rfl rfl rfl rfl rfl rfl (fun _ => rfl) (fun _ => rfl) ?_
  repeat walk_at "dw"
  exact h

theorem sc_turned_route : FnScope ["route", "quarters", "own", "many"] ["route", "quarters"] (defScope (topS 14)) := ⟨rfl, rfl, rfl, by decide +kernel, rfl, by decide +kernel, by decide +kernel⟩
def tb_turned_route : List (Str × Nat) := [("route", 0), ("quarters", 1), ("own", 2), ("many", 3)]
def nm_turned_route : List (Str × NameKind) := [("route", .local), ("quarters", .local), ("own", .local), ("many", .local), ("sure_route", .globalImplicit), ("sure_number", .globalImplicit), ("turned_in", .globalImplicit)]
theorem ok_turned_route {P : Program} {w : World} {K : PySem.W.Frag} {mg : Str → Option Value} {base : Heap} (M : Mod K w mg) : Fn P w K mg base "turned_route" 2 3 (cSpin) := by
  have d_sure_route := ok_sure_route (P := P) (w := w) (base := base) M
  have d_sure_number := ok_sure_number (P := P) (w := w) (base := base) M
  have d_turned_in := ok_turned_in (P := P) (w := w) (base := base) M
  refine (M.h_turned_route).fn (tb := tb_turned_route) sc_turned_route rfl (names := nm_turned_route) rfl (by decide +kernel) fun X A ds S Φ hl h => ?_
  have G := M.nob
  have v_route := A.var "route" 0 (by decide +kernel)
  have s_route := A.stv "route" 0 (by decide +kernel)
  have l_route := A.lcv "route" 0 (by decide +kernel)
  have v_quarters := A.var "quarters" 1 (by decide +kernel)
  have s_quarters := A.stv "quarters" 1 (by decide +kernel)
  have l_quarters := A.lcv "quarters" 1 (by decide +kernel)
  have v_own := A.var "own" 2 (by decide +kernel)
  have s_own := A.stv "own" 2 (by decide +kernel)
  have l_own := A.lcv "own" 2 (by decide +kernel)
  have v_many := A.var "many" 3 (by decide +kernel)
  have s_many := A.stv "many" 3 (by decide +kernel)
  have l_many := A.lcv "many" 3 (by decide +kernel)
  have g_sure_route := A.glo "sure_route" (by decide +kernel)
  have g_sure_number := A.glo "sure_number" (by decide +kernel)
  have g_turned_in := A.glo "turned_in" (by decide +kernel)
  obtain ⟨cs, q, rfl, hw, hz, h⟩ := h
  (change DSs X _ [some (.str (wd cs)), some (.int q), none, none] _ _; (first | refine ds_one ?_ | refine ds_cons ?_))
  repeat walk_at "dw"
  exact h

theorem sc_mirrored_route : FnScope ["route", "letter"] ["route"] (defScope (topS 15)) := ⟨rfl, rfl, rfl, by decide +kernel, rfl, by decide +kernel, by decide +kernel⟩
def tb_mirrored_route : List (Str × Nat) := [("route", 0), ("letter", 1)]
def nm_mirrored_route : List (Str × NameKind) := [("route", .local), ("sure_route", .globalImplicit)]
theorem ok_mirrored_route {P : Program} {w : World} {K : PySem.W.Frag} {mg : Str → Option Value} {base : Heap} (M : Mod K w mg) : Fn P w K mg base "mirrored_route" 1 3 (cRoute fun cs => .str (wd (cs.map flip1))) := by
  have d_sure_route := ok_sure_route (P := P) (w := w) (base := base) M
  refine (M.h_mirrored_route).fn (tb := tb_mirrored_route) sc_mirrored_route rfl (names := nm_mirrored_route) rfl (by decide +kernel) fun X A ds S Φ hl h => ?_
  have G := M.nob
  have v_route := A.var "route" 0 (by decide +kernel)
  have s_route := A.stv "route" 0 (by decide +kernel)
  have l_route := A.lcv "route" 0 (by decide +kernel)
  have g_sure_route := A.glo "sure_route" (by decide +kernel)
  obtain ⟨cs, rfl, hw, hz, h⟩ := h
  (change DSs X _ [some (.str (wd cs)), none] _ _; (first | refine ds_one ?_ | refine ds_cons ?_))
  repeat walk_at "dw"
  refine de_lcN (own := [("letter", 1)]) 1 (fD flip1) A rfl (by decide +kernel) (fun _ => rfl) (by decide +kernel) (by decide +kernel) ?_
  refine di_str ?_
  repeat walk_at "dw"
  refine ⟨?_, ?_, ?_⟩
  · rw [charsD_len]
    exact le_line (m := 1000) hz rfl
  · intro d hd X' A' Ξ hΞ
    rw [chars_wd] at hd
    obtain ⟨c1, hc1, rfl⟩ := List.mem_map.mp hd
    have hl := mirF_ltr (hw _ hc1)
    refine de_norm (by walk_at "dnorm") ?_
    have w_letter := A'.var "letter" 1 (by decide +kernel)
    have u_letter := A'.stv "letter" 1 (by decide +kernel)
    have h_MIRRORED := A'.glo "MIRRORED" (by decide +kernel)
    have gl_MIRRORED := M.gl_MIRRORED
    repeat walk_at "dw"
    refine ⟨_, _, rfl, hl, ?_⟩
    exact hΞ
  refine ⟨_, congrArg D.lst fD_map, ?_, ?_⟩
  · rw [sum_ones]
    simp only [List.length_map]
    show cs.length + cs.length * 0 ≤ _
    omega
  rw [join_wd]
  repeat walk_at "dw"
  exact h

theorem sc_back_in : FnScope ["route"] ["route"] (defScope (topS 16)) := ⟨rfl, rfl, rfl, by decide +kernel, rfl, by decide +kernel, by decide +kernel⟩
def tb_back_in : List (Str × Nat) := [("route", 0)]
def nm_back_in : List (Str × NameKind) := [("route", .local), ("turned_in", .globalImplicit)]
theorem ok_back_in {P : Program} {w : World} {K : PySem.W.Frag} {mg : Str → Option Value} {base : Heap} (M : Mod K w mg) : Fn P w K mg base "back_in" 1 3 (cRoute fun cs => .str (wd (cs.reverse.map (spinN 2)))) := by
  have d_turned_in := ok_turned_in (P := P) (w := w) (base := base) M
  refine (M.h_back_in).fn (tb := tb_back_in) sc_back_in rfl (names := nm_back_in) rfl (by decide +kernel) fun X A ds S Φ hl h => ?_
  have G := M.nob
  have v_route := A.var "route" 0 (by decide +kernel)
  have s_route := A.stv "route" 0 (by decide +kernel)
  have l_route := A.lcv "route" 0 (by decide +kernel)
  have g_turned_in := A.glo "turned_in" (by decide +kernel)
  obtain ⟨cs, rfl, hw, hz, h⟩ := h
  have hw2 := letW_rev hw
  have hz2 : cs.reverse.length ≤ 1000 := by rw [List.length_reverse]; exact hz
  have hz3 : (wd cs).length ≤ sizeLine := by rw [wd_len]; exact le_line (m := 1000) hz rfl
  (change DSs X _ [some (.str (wd cs))] _ _; (first | refine ds_one ?_ | refine ds_cons ?_))
  repeat walk_at "dw"
  try rw [rev_wd]
  repeat walk_at "dw"
  exact h

theorem sc_walked_back : FnScope ["route"] ["route"] (defScope (topS 17)) := ⟨rfl, rfl, rfl, by decide +kernel, rfl, by decide +kernel, by decide +kernel⟩
def tb_walked_back : List (Str × Nat) := [("route", 0)]
def nm_walked_back : List (Str × NameKind) := [("route", .local), ("back_in", .globalImplicit), ("sure_route", .globalImplicit)]
theorem ok_walked_back {P : Program} {w : World} {K : PySem.W.Frag} {mg : Str → Option Value} {base : Heap} (M : Mod K w mg) : Fn P w K mg base "walked_back" 1 4 (cRoute fun cs => .str (wd (cs.reverse.map (spinN 2)))) := by
  have d_sure_route := ok_sure_route (P := P) (w := w) (base := base) M
  have d_back_in := ok_back_in (P := P) (w := w) (base := base) M
  refine (M.h_walked_back).fn (tb := tb_walked_back) sc_walked_back rfl (names := nm_walked_back) rfl (by decide +kernel) fun X A ds S Φ hl h => ?_
  have G := M.nob
  have v_route := A.var "route" 0 (by decide +kernel)
  have s_route := A.stv "route" 0 (by decide +kernel)
  have l_route := A.lcv "route" 0 (by decide +kernel)
  have g_back_in := A.glo "back_in" (by decide +kernel)
  have g_sure_route := A.glo "sure_route" (by decide +kernel)
  obtain ⟨cs, rfl, hw, hz, h⟩ := h
  (change DSs X _ [some (.str (wd cs))] _ _; (first | refine ds_one ?_ | refine ds_cons ?_))
  repeat walk_at "dw"
  exact h

theorem sc_read_back : FnScope ["route"] ["route"] (defScope (topS 18)) := ⟨rfl, rfl, rfl, by decide +kernel, rfl, by decide +kernel, by decide +kernel⟩
def tb_read_back : List (Str × Nat) := [("route", 0)]
def nm_read_back : List (Str × NameKind) := [("route", .local), ("sure_route", .globalImplicit)]
theorem ok_read_back {P : Program} {w : World} {K : PySem.W.Frag} {mg : Str → Option Value} {base : Heap} (M : Mod K w mg) : Fn P w K mg base "read_back" 1 3 (cRoute fun cs => .str (wd cs.reverse)) := by
  have d_sure_route := ok_sure_route (P := P) (w := w) (base := base) M
  refine (M.h_read_back).fn (tb := tb_read_back) sc_read_back rfl (names := nm_read_back) rfl (by decide +kernel) fun X A ds S Φ hl h => ?_
  have G := M.nob
  have v_route := A.var "route" 0 (by decide +kernel)
  have s_route := A.stv "route" 0 (by decide +kernel)
  have l_route := A.lcv "route" 0 (by decide +kernel)
  have g_sure_route := A.glo "sure_route" (by decide +kernel)
  obtain ⟨cs, rfl, hw, hz, h⟩ := h
  have hw2 := letW_rev hw
  have hz2 : cs.reverse.length ≤ 1000 := by rw [List.length_reverse]; exact hz
  have hz3 : (wd cs).length ≤ sizeLine := by rw [wd_len]; exact le_line (m := 1000) hz rfl
  (change DSs X _ [some (.str (wd cs))] _ _; (first | refine ds_one ?_ | refine ds_cons ?_))
  repeat walk_at "dw"
  try rw [rev_wd]
  repeat walk_at "dw"
  exact h

theorem sc_corners_of : FnScope ["route", "found", "letter"] ["route"] (defScope (topS 21)) := ⟨rfl, rfl, rfl, by decide +kernel, rfl, by decide +kernel, by decide +kernel⟩
def tb_corners_of : List (Str × Nat) := [("route", 0), ("found", 1), ("letter", 2)]
def nm_corners_of : List (Str × NameKind) := [("route", .local), ("found", .local), ("letter", .local), ("sure_route", .globalImplicit), ("STEPS", .globalImplicit), ("tuple", .globalImplicit)]
theorem ok_corners_of {P : Program} {w : World} {K : PySem.W.Frag} {mg : Str → Option Value} {base : Heap} (M : Mod K w mg) : Fn P w K mg base "corners_of" 1 3 (cRoute fun cs => .tup ((cor cs (0, 0)).map prD)) := by
  have d_sure_route := ok_sure_route (P := P) (w := w) (base := base) M
  refine (M.h_corners_of).fn (tb := tb_corners_of) sc_corners_of rfl (names := nm_corners_of) rfl (by decide +kernel) fun X A ds S Φ hl h => ?_
  have G := M.nob
  have v_route := A.var "route" 0 (by decide +kernel)
  have s_route := A.stv "route" 0 (by decide +kernel)
  have l_route := A.lcv "route" 0 (by decide +kernel)
  have v_found := A.var "found" 1 (by decide +kernel)
  have s_found := A.stv "found" 1 (by decide +kernel)
  have l_found := A.lcv "found" 1 (by decide +kernel)
  have v_letter := A.var "letter" 2 (by decide +kernel)
  have s_letter := A.stv "letter" 2 (by decide +kernel)
  have l_letter := A.lcv "letter" 2 (by decide +kernel)
  have g_sure_route := A.glo "sure_route" (by decide +kernel)
  have g_STEPS := A.glo "STEPS" (by decide +kernel)
  have gl_STEPS := M.gl_STEPS
  have g_tuple := A.glo "tuple" (by decide +kernel)
  obtain ⟨cs, rfl, hw, hz, h⟩ := h
  (change DSs X _ [some (.str (wd cs)), none, none] _ _; (first | refine ds_one ?_ | refine ds_cons ?_))
  refine vCell A (by assumption) rfl (dn_lst rfl ?_)
  repeat walk_at "dw"
  intro c
  repeat walk_at "dw"
  refine ds_for A (fun _ => rfl) ?_
  refine di_str ?_
  repeat walk_at "dw"
  rw [chars_wd]
  refine for_ind (fun ds ρ S' => ∃ (m : List Nat) (ini : List P2) (p : P2) (w2 : Option D), ds = m.map ch ∧ LetW m ∧ ini.length + m.length ≤ 1000 ∧ ρ = [some (.str (wd cs)), some (.cell c), w2] ∧ S' = S ++ [(c, (ini ++ [p]).map prD)] ∧ ini ++ cor m p = cor cs (0, 0)) ?_ ?_ ?_
  · rintro d ds ρ S' ⟨m, ini, p, w2, e, hm, hn, rfl, rfl, hf⟩
    cases m with
    | nil => cases e
    | cons o m =>
      cases e
      have ho := hm.head
      have hst := stepF_ltr ho
      rw [List.length_cons] at hn
      have hat : atI ((ini ++ [p]).map prD) (-1) = some (prD p) := by
        rw [List.map_append]
        exact atI_last
      have hlen : ((ini ++ [p]).map prD).length < sizeLine := by
        rw [List.length_map, List.length_append, List.length_singleton]
        exact lt_line (m := 10000) (by omega) rfl
      repeat walk_at "dw"
      refine ⟨prD p, ⟨_, List.mem_append_right _ List.mem_cons_self, hat⟩, ?_⟩
      repeat walk_at "dw"
      refine ⟨_, _, rfl, hst, ?_⟩
      repeat walk_at "dw"
      refine ⟨prD p, ⟨_, List.mem_append_right _ List.mem_cons_self, hat⟩, ?_⟩
      repeat walk_at "dw"
      refine ⟨_, _, rfl, hst, ?_⟩
      repeat walk_at "dw"
      refine .mk ⟨m, ini ++ [p], (p.1 + dx o, p.2 + dy o), _, rfl, hm.tail, by rw [List.length_append, List.length_singleton]; omega, rfl, by simp only [List.map_append]; rfl, ?_⟩
      rw [← hf, List.append_assoc]
      rfl
  · rintro ρ S' ⟨m, ini, p, w2, e, hm, hn, rfl, rfl, hf⟩
    cases m with
    | cons o m => cases e
    | nil =>
      have hf2 : ini ++ [p] = cor cs (0, 0) := hf
      repeat walk_at "dw"
      refine ⟨_, List.mem_append_right _ List.mem_cons_self, ?_⟩
      refine RetP.mk rfl ?_
      rw [hf2]
      exact h
  · exact ⟨cs, [], (0, 0), _, rfl, hw, by simpa using hz, rfl, rfl, rfl⟩

theorem sc_is_closed : FnScope ["route"] ["route"] (defScope (topS 22)) := ⟨rfl, rfl, rfl, by decide +kernel, rfl, by decide +kernel, by decide +kernel⟩
def tb_is_closed : List (Str × Nat) := [("route", 0)]
def nm_is_closed : List (Str × NameKind) := [("route", .local), ("deed_of", .globalImplicit)]
theorem ok_is_closed {P : Program} {w : World} {K : PySem.W.Frag} {mg : Str → Option Value} {base : Heap} (M : Mod K w mg) : Fn P w K mg base "is_closed" 1 4 (cRoute fun cs => .bl (decide (((doW cs (0, 0, 0)).1, (doW cs (0, 0, 0)).2.1) = (0, 0)))) := by
  have d_deed_of := ok_deed_of (P := P) (w := w) (base := base) M
  refine (M.h_is_closed).fn (tb := tb_is_closed) sc_is_closed rfl (names := nm_is_closed) rfl (by decide +kernel) fun X A ds S Φ hl h => ?_
  have G := M.nob
  have v_route := A.var "route" 0 (by decide +kernel)
  have s_route := A.stv "route" 0 (by decide +kernel)
  have l_route := A.lcv "route" 0 (by decide +kernel)
  have g_deed_of := A.glo "deed_of" (by decide +kernel)
  obtain ⟨cs, rfl, hw, hz, h⟩ := h
  (change DSs X _ [some (.str (wd cs))] _ _; (first | refine ds_one ?_ | refine ds_cons ?_))
  repeat walk_at "dw"
  rw [cut3]
  repeat walk_at "dw"
  exact h

theorem sc_area_inside : FnScope ["route", "x", "y", "area"] ["route"] (defScope (topS 23)) := ⟨rfl, rfl, rfl, by decide +kernel, rfl, by decide +kernel, by decide +kernel⟩
def tb_area_inside : List (Str × Nat) := [("route", 0), ("x", 1), ("y", 2), ("area", 3)]
def nm_area_inside : List (Str × NameKind) := [("route", .local), ("x", .local), ("y", .local), ("area", .local), ("deed_of", .globalImplicit), ("CanNot", .globalImplicit)]
theorem ok_area_inside {P : Program} {w : World} {K : PySem.W.Frag} {mg : Str → Option Value} {base : Heap} (M : Mod K w mg) : Fn P w K mg base "area_inside" 1 4 (cClosed) := by
  have d_deed_of := ok_deed_of (P := P) (w := w) (base := base) M
  refine (M.h_area_inside).fn (tb := tb_area_inside) sc_area_inside rfl (names := nm_area_inside) rfl (by decide +kernel) fun X A ds S Φ hl h => ?_
  have G := M.nob
  have v_route := A.var "route" 0 (by decide +kernel)
  have s_route := A.stv "route" 0 (by decide +kernel)
  have l_route := A.lcv "route" 0 (by decide +kernel)
  have v_x := A.var "x" 1 (by decide +kernel)
  have s_x := A.stv "x" 1 (by decide +kernel)
  have l_x := A.lcv "x" 1 (by decide +kernel)
  have v_y := A.var "y" 2 (by decide +kernel)
  have s_y := A.stv "y" 2 (by decide +kernel)
  have l_y := A.lcv "y" 2 (by decide +kernel)
  have v_area := A.var "area" 3 (by decide +kernel)
  have s_area := A.stv "area" 3 (by decide +kernel)
  have l_area := A.lcv "area" 3 (by decide +kernel)
  have g_deed_of := A.glo "deed_of" (by decide +kernel)
  have g_CanNot := A.glo "CanNot" (by decide +kernel)
  obtain ⟨cs, rfl, hw, hz, h1, h2, h⟩ := h
  have hd : (!decide (((doW cs (0, 0, 0)).1, (doW cs (0, 0, 0)).2.1) = ((0, 0) : Int × Int))) = false := by
    rw [h1, h2]
    rfl
  (change DSs X _ [some (.str (wd cs)), none, none, none] _ _; (first | refine ds_one ?_ | refine ds_cons ?_))
  repeat walk_at "dw"
  exact h

theorem sc_squares_beside : FnScope ["route", "x", "found", "letter"] ["route"] (defScope (topS 24)) := ⟨rfl, rfl, rfl, by decide +kernel, rfl, by decide +kernel, by decide +kernel⟩
def tb_squares_beside : List (Str × Nat) := [("route", 0), ("x", 1), ("found", 2), ("letter", 3)]
def nm_squares_beside : List (Str × NameKind) := [("route", .local), ("x", .local), ("found", .local), ("letter", .local), ("sure_route", .globalImplicit), ("STEPS", .globalImplicit), ("tuple", .globalImplicit)]
theorem ok_squares_beside {P : Program} {w : World} {K : PySem.W.Frag} {mg : Str → Option Value} {base : Heap} (M : Mod K w mg) : Fn P w K mg base "squares_beside" 1 3 (cRoute fun cs => .tup ((sqs cs 0).map D.int)) := by
  have d_sure_route := ok_sure_route (P := P) (w := w) (base := base) M
  refine (M.h_squares_beside).fn (tb := tb_squares_beside) sc_squares_beside rfl (names := nm_squares_beside) rfl (by decide +kernel) fun X A ds S Φ hl h => ?_
  have G := M.nob
  have v_route := A.var "route" 0 (by decide +kernel)
  have s_route := A.stv "route" 0 (by decide +kernel)
  have l_route := A.lcv "route" 0 (by decide +kernel)
  have v_x := A.var "x" 1 (by decide +kernel)
  have s_x := A.stv "x" 1 (by decide +kernel)
  have l_x := A.lcv "x" 1 (by decide +kernel)
  have v_found := A.var "found" 2 (by decide +kernel)
  have s_found := A.stv "found" 2 (by decide +kernel)
  have l_found := A.lcv "found" 2 (by decide +kernel)
  have v_letter := A.var "letter" 3 (by decide +kernel)
  have s_letter := A.stv "letter" 3 (by decide +kernel)
  have l_letter := A.lcv "letter" 3 (by decide +kernel)
  have g_sure_route := A.glo "sure_route" (by decide +kernel)
  have g_STEPS := A.glo "STEPS" (by decide +kernel)
  have gl_STEPS := M.gl_STEPS
  have g_tuple := A.glo "tuple" (by decide +kernel)
  obtain ⟨cs, rfl, hw, hz, h⟩ := h
  (change DSs X _ [some (.str (wd cs)), none, none, none] _ _; (first | refine ds_one ?_ | refine ds_cons ?_))
  refine vParC A (by assumption) (by assumption) ?_ ?_ ?_ ?_
  · decide +kernel
  · exact rfl
  · exact rfl
  refine dac_cons (dec_e ?_) rfl
  repeat walk_at "dw"
  refine dac_cons (dec_n (dn_lst rfl (da_nil ?_))) rfl
  intro c
  refine dac_nil ?_
  repeat walk_at "dw"
  refine ds_for A (fun _ => rfl) ?_
  refine di_str ?_
  repeat walk_at "dw"
  rw [chars_wd]
  refine for_ind (fun ds ρ S' => ∃ (m : List Nat) (acc : List Int) (x : Int) (n : Nat) (w3 : Option D), ds = m.map ch ∧ LetW m ∧ acc.length + m.length ≤ 1000 ∧ n + m.length ≤ 1000 ∧ Bd (10 + n) x ∧ ρ = [some (.str (wd cs)), some (.int x), some (.cell c), w3] ∧ S' = S ++ [(c, acc.map D.int)] ∧ acc ++ sqs m x = sqs cs 0) ?_ ?_ ?_
  · rintro d ds ρ S' ⟨m, acc, x, n, w3, e, hm, hn, hn2, hx, rfl, rfl, hf⟩
    cases m with
    | nil => cases e
    | cons o m =>
      cases e
      have ho := hm.head
      have hst := stepF_ltr ho
      have hdy := bd_dy ho
      have hdx : Bd 10 (dx o) := by rcases ho with rfl | rfl | rfl | rfl <;> exact Bd.lit rfl
      have hx2 : Bd 2000 x := hx.mono (by rw [List.length_cons] at hn2; omega)
      rw [List.length_cons] at hn hn2
      have hlen : (acc.map D.int).length < sizeLine := by
        rw [List.length_map]
        exact lt_line (m := 10000) (by omega) rfl
      repeat walk_at "dw"
      refine ⟨_, _, rfl, hst, ?_⟩
      repeat walk_at "dw"
      refine ⟨_, _, rfl, hst, ?_⟩
      repeat walk_at "dw"
      refine .mk ⟨m, acc ++ [x * dy o], x + dx o, n + 1, _, rfl, hm.tail, by rw [List.length_append, List.length_singleton]; omega, by omega, (hx.add2 (hdx.mono (by omega))), rfl, by rw [List.map_append]; rfl, ?_⟩
      rw [← hf, List.append_assoc]
      rfl
  · rintro ρ S' ⟨m, acc, x, n, w3, e, hm, hn, hn2, hx, rfl, rfl, hf⟩
    cases m with
    | cons o m => cases e
    | nil =>
      have hf2 : acc = sqs cs 0 := by rw [← hf]; simp [sqs]
      repeat walk_at "dw"
      refine ⟨_, List.mem_append_right _ List.mem_cons_self, ?_⟩
      refine RetP.mk rfl ?_
      rw [hf2]
      exact h
  · exact ⟨cs, [], 0, 0, _, rfl, hw, by simpa using hz, by omega, (Bd.lit (n := 1) rfl).mono (by omega), rfl, rfl, rfl⟩

theorem sc_bare_in : FnScope ["route", "found", "letter"] ["route"] (defScope (topS 25)) := ⟨rfl, rfl, rfl, by decide +kernel, rfl, by decide +kernel, by decide +kernel⟩
def tb_bare_in : List (Str × Nat) := [("route", 0), ("found", 1), ("letter", 2)]
def nm_bare_in : List (Str × NameKind) := [("route", .local), ("found", .local), ("letter", .local), ("turned_letter", .globalImplicit)]
theorem ok_bare_in {P : Program} {w : World} {K : PySem.W.Frag} {mg : Str → Option Value} {base : Heap} (M : Mod K w mg) : Fn P w K mg base "bare_in" 1 2 (cRoute fun cs => .str (wd (bareL [] cs))) := by
  have d_turned_letter := ok_turned_letter (P := P) (w := w) (base := base) M
  refine (M.h_bare_in).fn (tb := tb_bare_in) sc_bare_in rfl (names := nm_bare_in) rfl (by decide +kernel) fun X A ds S Φ hl h => ?_
  have G := M.nob
  have v_route := A.var "route" 0 (by decide +kernel)
  have s_route := A.stv "route" 0 (by decide +kernel)
  have l_route := A.lcv "route" 0 (by decide +kernel)
  have v_found := A.var "found" 1 (by decide +kernel)
  have s_found := A.stv "found" 1 (by decide +kernel)
  have l_found := A.lcv "found" 1 (by decide +kernel)
  have v_letter := A.var "letter" 2 (by decide +kernel)
  have s_letter := A.stv "letter" 2 (by decide +kernel)
  have l_letter := A.lcv "letter" 2 (by decide +kernel)
  have g_turned_letter := A.glo "turned_letter" (by decide +kernel)
  obtain ⟨cs, rfl, hw, hz, h⟩ := h
  (change DSs X _ [some (.str (wd cs)), none, none] _ _; (first | refine ds_one ?_ | refine ds_cons ?_))
  repeat walk_at "dw"
  refine ds_for A (fun _ => rfl) ?_
  refine di_str (vName A (by assumption) ⟨_, rfl, ?_⟩)
  refine ⟨_, rfl, ?_⟩
  rw [chars_wd]
  refine for_ind (fun ds ρ S' => ∃ (m acc : List Nat) (w2 : Option D), ds = m.map ch ∧ LetW m ∧ acc.length + m.length ≤ 1000 ∧ ρ = [some (.str (wd cs)), some (.str (wd acc)), w2] ∧ S' = S ∧ bareL acc m = bareL [] cs) ?_ ?_ ?_
  · rintro d ds ρ S' ⟨m, acc, w2, e, hm, hn, rfl, rfl, hf⟩
    cases m with
    | nil => cases e
    | cons o m =>
      cases e
      have ho := hm.head
      rw [List.length_cons] at hn
      have hwl : (wd acc).length ≤ sizeLine := by
        rw [wd_len]
        exact le_line (m := 1000) (by omega) rfl
      have hcat : (wd acc).length + (⟨#[o]⟩ : Str).length ≤ sizeLine := by
        rw [wd_len]
        exact le_line (m := 1001) (by show acc.length + 1 ≤ 1001; omega) rfl
      have ecat : wd acc ++ (⟨#[o]⟩ : Str) = wd (acc ++ [o]) := wd_append (cs := acc) (es := [o])
      rcases nil_or_last acc with rfl | ⟨ini, u, rfl⟩
      · have hne : decide (wd [] = (⟨#[spinN (2 % 4 : Int).toNat o]⟩ : Str)) = false := by
          refine decide_eq_false fun q => ?_
          have q2 := congrArg Str.length q
          exact absurd q2 (by show ¬ (0 : Nat) = 1; decide)
        repeat walk_at "dw"
        rw [ecat]
        refine .mk ⟨m, [o], _, rfl, hm.tail, by rw [List.length_nil] at hn; rw [List.length_singleton]; omega, rfl, rfl, ?_⟩
        rw [← hf, bareL_miss (by simp)]
        rfl
      · repeat walk_at "dw"
        rw [cut_last]
        repeat walk_at "dw"
        by_cases hu : u = spinN 2 o
        · have he : decide (wd [u] = (⟨#[spinN (2 % 4 : Int).toNat o]⟩ : Str)) = true := decide_eq_true (by rw [hu]; rfl)
          repeat walk_at "dw"
          rw [cut_but]
          repeat walk_at "dw"
          refine .mk ⟨m, ini, _, rfl, hm.tail, by rw [List.length_append, List.length_singleton] at hn; omega, rfl, rfl, ?_⟩
          rw [← hf, bareL_hit (by rw [List.getLast?_concat, hu]), List.dropLast_concat]
        · have he : decide (wd [u] = (⟨#[spinN (2 % 4 : Int).toNat o]⟩ : Str)) = false := decide_eq_false (by
            intro q
            have q2 : u = spinN (2 % 4 : Int).toNat o := by injection q with q; injection q with q; injection q
            exact hu q2)
          repeat walk_at "dw"
          rw [ecat]
          refine .mk ⟨m, ini ++ [u] ++ [o], _, rfl, hm.tail, by rw [List.length_append, List.length_singleton]; omega, rfl, rfl, ?_⟩
          rw [← hf, bareL_miss (by rw [List.getLast?_concat]; intro q; exact hu (Option.some.inj q))]
  · rintro ρ S' ⟨m, acc, w2, e, hm, hn, rfl, rfl, hf⟩
    cases m with
    | cons o m => cases e
    | nil =>
      have hf2 : acc = bareL [] cs := hf
      subst hf2
      repeat walk_at "dw"
      exact h
  · exact ⟨cs, [], _, rfl, hw, by simpa using hz, rfl, rfl, rfl⟩

theorem sc_bare : FnScope ["route"] ["route"] (defScope (topS 26)) := ⟨rfl, rfl, rfl, by decide +kernel, rfl, by decide +kernel, by decide +kernel⟩
def tb_bare : List (Str × Nat) := [("route", 0)]
def nm_bare : List (Str × NameKind) := [("route", .local), ("bare_in", .globalImplicit), ("sure_route", .globalImplicit)]
theorem ok_bare {P : Program} {w : World} {K : PySem.W.Frag} {mg : Str → Option Value} {base : Heap} (M : Mod K w mg) : Fn P w K mg base "bare" 1 3 (cRoute fun cs => .str (wd (bareL [] cs))) := by
  have d_sure_route := ok_sure_route (P := P) (w := w) (base := base) M
  have d_bare_in := ok_bare_in (P := P) (w := w) (base := base) M
  refine (M.h_bare).fn (tb := tb_bare) sc_bare rfl (names := nm_bare) rfl (by decide +kernel) fun X A ds S Φ hl h => ?_
  have G := M.nob
  have v_route := A.var "route" 0 (by decide +kernel)
  have s_route := A.stv "route" 0 (by decide +kernel)
  have l_route := A.lcv "route" 0 (by decide +kernel)
  have g_bare_in := A.glo "bare_in" (by decide +kernel)
  have g_sure_route := A.glo "sure_route" (by decide +kernel)
  obtain ⟨cs, rfl, hw, hz, h⟩ := h
  (change DSs X _ [some (.str (wd cs))] _ _; (first | refine ds_one ?_ | refine ds_cons ?_))
  repeat walk_at "dw"
  exact h

theorem sc__law_hat : FnScope ["word_so", "k"] ["word_so"] (defScope (topS 36)) := ⟨rfl, rfl, rfl, by decide +kernel, rfl, by decide +kernel, by decide +kernel⟩
def tb__law_hat : List (Str × Nat) := [("word_so", 0), ("k", 1)]
def nm__law_hat : List (Str × NameKind) := [("word_so", .local)]
theorem ok__law_hat {P : Program} {w : World} {K : PySem.W.Frag} {mg : Str → Option Value} {base : Heap} (M : Mod K w mg) : Fn P w K mg base "_law_hat" 1 1 (cRoute fun cs => .str (wd (cs.reverse.map (spinN 2)))) := by
  refine (M.h__law_hat).fn (tb := tb__law_hat) sc__law_hat rfl (names := nm__law_hat) rfl (by decide +kernel) fun X A ds S Φ hl h => ?_
  have G := M.nob
  have v_word_so := A.var "word_so" 0 (by decide +kernel)
  have s_word_so := A.stv "word_so" 0 (by decide +kernel)
  have l_word_so := A.lcv "word_so" 0 (by decide +kernel)
  obtain ⟨cs, rfl, hw, hz, h⟩ := h
  have hz3 : (wd cs).length ≤ sizeLine := by rw [wd_len]; exact le_line (m := 1000) hz rfl
  (change DSs X _ [some (.str (wd cs)), none] _ _; (first | refine ds_one ?_ | refine ds_cons ?_))
  repeat walk_at "dw"
  refine de_lcN (own := [("k", 1)]) 1 (fD (spinN 2)) A rfl (by decide +kernel) (fun _ => rfl) (by decide +kernel) (by decide +kernel) ?_
  refine di_str ?_
  repeat walk_at "dw"
  rw [rev_wd]
  refine ⟨?_, ?_, ?_⟩
  · rw [charsD_len, List.length_reverse]
    exact le_line (m := 1000) hz rfl
  · intro d hd X' A' Ξ hΞ
    rw [chars_wd] at hd
    obtain ⟨c1, hc1, rfl⟩ := List.mem_map.mp hd
    have hl := val_back (hw _ (List.mem_reverse.mp hc1))
    dsimp only [wipeR, List.map, List.set]
    have w_k := A'.var "k" 1 (by decide +kernel)
    have u_k := A'.stv "k" 1 (by decide +kernel)
    with_reducible refine de_dlit4 A' ?_ ?_
    exact fun _ _ => rfl
    repeat walk_at "dw"
    refine ⟨_, _, rfl, hl, ?_⟩
    exact hΞ
  refine ⟨_, congrArg D.lst fD_map, ?_, ?_⟩
  · rw [sum_ones]
    simp only [List.length_map, List.length_reverse]
    show cs.length + cs.length * 0 ≤ _
    omega
  rw [join_wd]
  repeat walk_at "dw"
  exact h

end Ar
namespace Ar
open PySem PySem.Spec PyProof.Rows L2


local macro_rules | `(tactic| walk_at "dnat") => `(tactic| first | assumption | omega | exact Nat.le_of_ble_eq_true rfl)
local macro_rules | `(tactic| walk_at "dnatz") => `(tactic| first | exact trivial | walk_at "dnat")
local macro_rules | `(tactic| walk_at "dk2") => `(tactic| first
  | ((with_reducible apply cTake_i); (with_reducible assumption); (walk_at "dnat"); (walk_at "dnat"); (walk_at "bd"))
  | ((with_reducible refine cRoute_i ?_ ?_ ?_); (assumption); (walk_at "dnat"))
  | ((with_reducible refine cSpin_i ?_ ?_ ?_); (assumption); (walk_at "dnat"))
  | ((with_reducible refine cClosed_i ?_ ?_ ?_ ?_ ?_); (assumption); (walk_at "dnat"); (assumption); (assumption))
  | ((with_reducible refine cTurnL_i ?_ ?_); (assumption))
  | refine ⟨_, ⟨_, List.mem_cons_self, rfl⟩, ?_⟩)

local macro_rules | `(tactic| walk_at "bd") => `(tactic| focus ((with_reducible apply Bd.fit); (repeat' (first | with_reducible assumption | with_reducible apply Bd.add | with_reducible apply Bd.sub | with_reducible apply Bd.mul | with_reducible apply Bd.neg | with_reducible apply Bd.ediv | with_reducible apply Bd.emod | decide | exact Bd.lit (n := 64) rfl | exact Bd.lit (n := 300) rfl)); (all_goals (exact rfl))))
local macro_rules | `(tactic| walk_at "dok") => `(tactic| first | exact trivial | assumption | exact rfl)
local macro_rules | `(tactic| walk_at "dm") => `(tactic| first | (exact Bd.okL (Bd.lit rfl)) | (exact Bd.okR (Bd.lit rfl)) | (exact Bd.okR (by with_reducible assumption)) | (refine Bd.ok (n := 60000000) (m := 60000000) ?_ ?_ rfl <;> walk_at "bd"))
local macro_rules | `(tactic| walk_at "dty") => `(tactic| first | with_reducible exact tyInt | with_reducible exact tyBool | with_reducible exact tyStr | with_reducible exact tyTuple | with_reducible exact tyList)
local macro_rules | `(tactic| walk_at "dk") => `(tactic| first
  | ((with_reducible refine cIsNumber_i ?_ ?_); (walk_at "dok"))
  | ((with_reducible refine cIsLong_i ?_ ?_); (walk_at "dok"))
  | ((with_reducible refine cTupled_i ?_ ?_); (walk_at "dok"))
  | ((with_reducible refine cPlain1_i ?_ ?_); (walk_at "dok"))
  | ((with_reducible refine cRowOf_i ?_ ?_); (walk_at "dok"))
  | ((with_reducible refine cSureDeed_i  ?_))
  | ((with_reducible refine cSureNumber_i  ?_))
  | ((with_reducible refine cD1_i ?_ ?_ ?_ ?_); (walk_at "bd"); (walk_at "bd"); (walk_at "bd"))
  | ((with_reducible refine cD2_i ?_ ?_ ?_ ?_ ?_ ?_ ?_); (walk_at "bd"); (walk_at "bd"); (walk_at "bd"); (walk_at "bd"); (walk_at "bd"); (walk_at "bd"))
  | ((with_reducible refine cDI_i ?_ ?_ ?_ ?_ ?_); (walk_at "bd"); (walk_at "bd"); (walk_at "bd"); (walk_at "bd"))
  | ((with_reducible refine cI1_i ?_ ?_); (walk_at "bd"))
  | walk_at "dk2")
local macro_rules | `(tactic| walk_at "dlen") => `(tactic| first | with_reducible assumption | ((first | (with_reducible refine le_line6 ?_) | (with_reducible refine lt_line6 ?_)); (focus ((try simp only [List.length_map, List.length_append, List.length_cons, List.length_nil, rangeD_len]); (first | done | omega)))))
local macro_rules | `(tactic| walk_at "dnorm") => `(tactic| ((try dsimp only [wipeR, List.map, List.set]); (try exact rfl)))
local macro_rules | `(tactic| walk_at "dS") => `(tactic| ((fail_if_success (with_reducible refine asg_list ?_)); (fail_if_success (with_reducible refine asg_par3l ?_)); (fail_if_success (with_reducible refine asg_par2l ?_)); (fail_if_success (with_reducible refine asg_par3a ?_)); first
  | with_reducible refine ds_retCN ?_
  | with_reducible refine ds_ret ?_
  | ((with_reducible refine vPar3 (by assumption) (by assumption) (by assumption) (by assumption) ?_ ?_ ?_ ?_); (decide +kernel); (exact rfl); (exact ⟨rfl, rfl, rfl⟩))
  | ((with_reducible refine vPar (by assumption) (by assumption) (by assumption) ?_ ?_ ?_ ?_); (decide +kernel); (exact rfl); (exact rfl))
  | ((with_reducible refine vAsgF ?_ ?_ ?_ ?_); (decide +kernel); (exact rfl); (exact rfl))
  | ((with_reducible refine vAsgC (by assumption) ?_ ?_ ?_ ?_); (decide +kernel); (exact rfl); (exact rfl))
  | ((with_reducible refine vSet (by assumption) (by assumption) ?_ ?_); (exact rfl))
  | ((with_reducible refine ds_store ?_ ?_ ?_ ?_ ?_); (exact rfl); (exact rfl); (exact rfl); (exact fun _ => rfl))
  | ((with_reducible refine ds_asg ?_ ?_ ?_ ?_); (exact rfl); (exact rfl); (exact rfl))
  | (with_reducible refine ds_if ?_)
  | ((with_reducible refine vAug (by assumption) (by assumption) ?_); (refine ⟨_, rfl, ?_⟩))
  | ((with_reducible refine ds_expr ?_ ?_); (exact rfl))))
local macro_rules | `(tactic| walk_at "dG") => `(tactic| first
  | ((with_reducible refine vG (by assumption) (by assumption) ?_ ?_); (exact rfl))
  | ((with_reducible refine dg_tup (n := _) (by assumption) rfl ?_ ?_); (exact rfl); (refine ⟨_, rfl, rfl, ?_⟩)))
local macro_rules | `(tactic| walk_at "dC") => `(tactic| first
  | ((with_reducible refine vIsi (by assumption) (by assumption) (by walk_at "dty") (by assumption) (by assumption) ?_ ?_); (exact rfl))
  | ((with_reducible refine vIsi2 (by assumption) (by assumption) (by walk_at "dty") (by walk_at "dty") (by assumption) (by assumption) (by assumption) ?_ ?_); (exact rfl))
  | ((with_reducible refine vCall (by assumption) (by assumption) (by assumption) ?_ ?_ ?_ ?_); (exact rfl); (exact rfl); (exact rfl))
  | ((with_reducible refine de_append ?_ ?_ ?_ ?_ ?_); (exact rfl); (exact rfl); (exact rfl); (exact rfl))
  | ((with_reducible refine de_extend ?_ ?_ ?_ ?_ ?_); (exact rfl); (exact rfl); (exact rfl); (exact rfl))
  | ((with_reducible refine de_join ?_ ?_ ?_ ?_); (exact rfl); (exact rfl); (exact rfl))
  | ((with_reducible refine de_sindex ?_ ?_ ?_ ?_); (exact rfl); (exact rfl); (exact rfl))
  | ((with_reducible refine de_len (by assumption) (by assumption) (Glo.g (by assumption)) ?_ ?_); (exact rfl))
  | ((with_reducible refine de_abs (by assumption) (by assumption) (Glo.g (by assumption)) ?_ ?_); (exact rfl))
  | ((with_reducible refine de_intI (by assumption) (by assumption) (Glo.g (by assumption)) ?_ ?_); (exact rfl))
  | ((with_reducible refine de_sum (by assumption) (by assumption) (Glo.g (by assumption)) ?_ ?_); (exact rfl))
  | ((with_reducible refine de_min2 (by assumption) (by assumption) (Glo.g (by assumption)) ?_ ?_ ?_ ?_); (exact rfl); (exact rfl); (exact rfl))
  | ((with_reducible refine de_tupleOf (by assumption) (by assumption) (Glo.g (by assumption)) ?_ ?_); (exact rfl))
  | ((with_reducible refine de_all (by assumption) (by assumption) (Glo.g (by assumption)) ?_ ?_); (exact rfl))
  | ((with_reducible refine de_any (by assumption) (by assumption) (Glo.g (by assumption)) ?_ ?_); (exact rfl)))
local macro_rules | `(tactic| walk_at "dE") => `(tactic| first
  | ((with_reducible refine vName (by assumption) (by assumption) ?_); (refine ⟨_, rfl, ?_⟩))
  | ((with_reducible refine de_glob (by assumption) (by assumption) (Glo.g (by assumption)) ?_))
  | (with_reducible refine de_int ?_)
  | ((with_reducible refine de_callId ?_); walk_at "dC")
  | (with_reducible refine de_bin ?_)
  | ((with_reducible refine de_cmp ?_ ?_); (exact rfl))
  | (with_reducible refine de_revS ?_)
  | (with_reducible refine de_slLo ?_)
  | (with_reducible refine de_slHi ?_)
  | (with_reducible refine de_slLH ?_)
  | ((with_reducible refine de_kd (by assumption) (by assumption) (Glo.g (by assumption)) ?_ ?_); (exact fun _ _ => rfl))
  | ((with_reducible refine de_ix ?_ ?_); (exact fun _ _ => rfl))
  | ((with_reducible refine de_tup ?_ ?_); (exact rfl))
  | (with_reducible refine de_neg ?_)
  | (with_reducible refine de_if ?_)
  | (with_reducible refine de_bl ?_)
  | (with_reducible refine de_str ?_)
  | (with_reducible refine de_non ?_)
  | (with_reducible refine de_not ?_)
  | (with_reducible refine de_and ?_)
  | (with_reducible refine de_or ?_)
  | (with_reducible refine de_bool1 ?_)
  | ((with_reducible refine de_lst ?_ ?_); (exact rfl)))
local macro_rules | `(tactic| walk_at "dT") => `(tactic| first
  | (with_reducible refine dt_bool ?_)
  | (with_reducible refine dt_not ?_)
  | ((with_reducible refine dt_cmp ?_ ?_); (exact rfl))
  | ((with_reducible refine dt_truth ?_ ?_); (exact fun _ => rfl)))
local macro_rules | `(tactic| walk_at "dW") => `(tactic| first
  | (with_reducible refine dw_and ?_)
  | (with_reducible refine dw_or ?_)
  | (with_reducible refine dw_and1 ?_)
  | (with_reducible refine dw_or1 ?_))
local macro_rules | `(tactic| walk_at "dO") => `(tactic| first
  | with_reducible refine do_add ?_
  | with_reducible refine do_sub ?_
  | ((with_reducible refine do_cat ?_ ?_); (exact sz rfl))
  | ((with_reducible refine do_mulX ?_ ?_); (walk_at "dm"))
  | ((with_reducible refine do_fdiv ?_ ?_); (exact Bd.div (by decide) (Bd.lit (n := 9000) rfl) rfl))
  | ((with_reducible refine do_fdiv ?_ ?_); (exact Bd.div (by assumption) (by assumption) rfl))
  | ((with_reducible refine do_mod ?_ ?_); (first | (exact (by decide)) | assumption | omega))
  | ((with_reducible refine do_mulS ?_ ?_); (assumption))
  | ((with_reducible refine do_catT ?_ ?_); (walk_at "dlen"))
  | (with_reducible refine do_eqC (by assumption) ?_)
  | with_reducible refine do_eqP2 (by assumption) ?_
  | with_reducible refine do_p12 ?_
  | with_reducible refine do_neP2 (by assumption) ?_
  | ((with_reducible refine do_addW ?_ ?_); (assumption))
  | ((with_reducible refine do_addS ?_ ?_); (assumption))
  | with_reducible refine do_p8 ?_
  | with_reducible refine do_p21 ?_
  | with_reducible refine do_p18 ?_
  | with_reducible refine do_p7 ?_
  | with_reducible refine do_p20 ?_
  | with_reducible refine do_p29 ?_
  | with_reducible refine do_eqI ?_
  | with_reducible refine do_neI ?_
  | with_reducible refine do_lt ?_
  | with_reducible refine do_le ?_
  | with_reducible refine do_gt ?_
  | with_reducible refine do_ge ?_
  | with_reducible refine do_isN ?_
  | with_reducible refine do_notN ?_
  | with_reducible refine do_inS ?_
  | with_reducible refine do_eqB ?_
  | with_reducible refine do_neB ?_
  | with_reducible refine do_eqS ?_
  | with_reducible refine do_neS ?_
  | with_reducible refine do_eqT3 (by assumption) ?_
  | with_reducible refine do_neNil (by assumption) ?_
  | with_reducible refine do_iadd ?_
  | with_reducible refine do_isub ?_)
local macro_rules | `(tactic| walk_at "dw") => `(tactic| first
  | ((with_reducible refine de_id ?_); walk_at "dE")
  | ((with_reducible refine do_id ?_); walk_at "dO")
  | ((with_reducible refine da_cons ?_ ?_); rotate_left; (exact rfl))
  | ((with_reducible refine dn_lst ?_ ?_); (exact rfl))
  | (with_reducible refine da_nil ?_)
  | ((with_reducible refine ds_id ?_); walk_at "dS")
  | with_reducible refine ds_cons ?_
  | with_reducible refine ds_nil ?_
  | with_reducible refine ds_one ?_
  | ((with_reducible refine dt_id ?_); walk_at "dT")
  | ((with_reducible refine dw_id ?_); walk_at "dW")
  | ((with_reducible refine dg_id ?_); walk_at "dG")
  | ((with_reducible refine dgs_cons ?_ ?_); (exact rfl))
  | (with_reducible refine dgs_nil ?_)
  | with_reducible refine nx_mk ?_
  | with_reducible refine rt_mk ?_
  | ((with_reducible apply nx_norm); (walk_at "dnorm"))
  | ((with_reducible apply nxG_norm); (walk_at "dnorm"))
  | with_reducible refine RetP.same ?_
  | ((with_reducible refine RetP.here ?_ ?_); (exact rfl))
  | ((with_reducible refine vRange1 (by assumption) (by assumption) (by assumption) ?_ ?_); (exact rfl))
  | ((with_reducible refine rng_and ?_ ?_); (exact ⟨by omega, by omega⟩))
  | ((with_reducible refine len_and ?_ ?_); (walk_at "dlen"))
  | ((with_reducible refine le_and ?_ ?_); (walk_at "dlen"))
  | ((with_reducible refine okc_and ?_ ?_); (walk_at "dok"))
  | ((with_reducible refine ite_t ?_ ?_); (exact rfl))
  | ((with_reducible refine ite_f ?_ ?_); (exact rfl))
  | ((with_reducible refine ite_t ?_ ?_); (with_reducible assumption))
  | ((with_reducible refine ite_f ?_ ?_); (with_reducible assumption))
  | walk_at "dk"
  | refine ⟨_, rfl, ?_⟩
  | refine ⟨_, _, rfl, rfl, ?_⟩
  | refine ⟨_, _, rfl, ⟨by with_reducible assumption, rfl⟩, ?_⟩
  | refine ⟨_, _, rfl, ?_⟩
  | refine ⟨_, _, _, rfl, ?_⟩
  | refine ⟨_, ⟨sz rfl, _, rfl, rfl⟩, ?_⟩
  | refine ⟨_, ⟨sz rfl, rfl⟩, ?_⟩
  | refine .inl ⟨_, rfl, ?_⟩
  | refine .inr ⟨_, rfl, ?_⟩
  | refine ⟨_, _, _, _, rfl, rfl, ?_⟩)


def loopB : List Stmt := match defBody (topS 38) with
  | _ :: _ :: _ :: .For _ _ body _ _ :: _ => body
  | _ => []

def tb_law : List (Str × Nat) := [("script", 0), ("tin", 1), ("one", 2), ("short_so", 3), ("word_so", 4), ("quarters_so", 5), ("spun_so", 6), ("flipped_so", 7), ("trail_so", 8), ("adds_so", 9), ("x", 10), ("letter_so", 11), ("y", 12), ("due", 13), ("got", 14), ("k", 15)]
def nm_law : List (Str × NameKind) := ("script", .local) :: ("tin", .local) :: ("one", .local) :: ("short_so", .local) :: ("word_so", .local) :: ("quarters_so", .cell) :: ("spun_so", .local) :: ("flipped_so", .local) :: ("trail_so", .local) :: ("adds_so", .local) :: ("x", .local) :: ("letter_so", .local) :: ("y", .local) :: ("due", .local) :: ("got", .local) :: ("_law_box", .globalImplicit) :: ("_law_cells", .globalImplicit) :: ("_law_word", .globalImplicit) :: ("_law_take", .globalImplicit) :: ("_law_hat", .globalImplicit) :: ("sum", .globalImplicit) :: ("is_route", .globalImplicit) :: ("deed_of", .globalImplicit) :: ("corners_of", .globalImplicit) :: ("squares_beside", .globalImplicit) :: ("is_closed", .globalImplicit) :: ("_law_same", .globalImplicit) :: ("tuple", .globalImplicit) :: ("turned_route", .globalImplicit) :: ("mirrored_route", .globalImplicit) :: ("walked_back", .globalImplicit) :: ("read_back", .globalImplicit) :: ("bare", .globalImplicit) :: ("_law_bare", .globalImplicit) :: ("_law_join", .globalImplicit) :: ("_law_do", .globalImplicit) :: ("area_inside", .globalImplicit) :: []

theorem seg_A {P : Program} {w : World} {K : PySem.W.Frag} {mg : Str → Option Value} {base : Heap} (M : Mod K w mg) {X : Cx} (A : At X P w K mg base tb_law nm_law 7) {E : DEnds} {is : List Int} {c : Addr} {b : Nat} {lt : List D} {cs es : List Nat} {q : Int} (hw : LetW cs) (hz : cs.length ≤ 100) {w2 w3 w5 w6 w7 w8 w9 w10 w11 w12 w13 w14 w15 : Option D} (ht : Tin b lt) (hb : b ≤ 9000) (cont : ∀ (q : Int) (lt : List D), Tin (b + 2) lt → DSs X (loopB.drop 3) [some (.frz (is.map D.int)), some (.cell c), w2, w3, some (.str (wd cs)), some (.int q), some (.str (wd (cs.map (spinN (q % 4).toNat)))), some (.str (wd (cs.map flip1))), w8, w9, w10, w11, w12, w13, w14, w15] ((c, lt) :: []) E) : DSs X (loopB) [some (.frz (is.map D.int)), some (.cell c), w2, w3, some (.str (wd cs)), w5, w6, w7, w8, w9, w10, w11, w12, w13, w14, w15] ((c, lt) :: []) E := by
  have d__law_same := ok__law_same (P := P) (w := w) (base := base) M 3
  have d__law_take := ok__law_take (P := P) (w := w) (base := base) M
  have G := M.nob
  have v_script := A.var "script" 0 (by decide +kernel)
  have s_script := A.stv "script" 0 (by decide +kernel)
  have l_script := A.lcv "script" 0 (by decide +kernel)
  have v_tin := A.var "tin" 1 (by decide +kernel)
  have s_tin := A.stv "tin" 1 (by decide +kernel)
  have l_tin := A.lcv "tin" 1 (by decide +kernel)
  have v_one := A.var "one" 2 (by decide +kernel)
  have s_one := A.stv "one" 2 (by decide +kernel)
  have l_one := A.lcv "one" 2 (by decide +kernel)
  have v_short_so := A.var "short_so" 3 (by decide +kernel)
  have s_short_so := A.stv "short_so" 3 (by decide +kernel)
  have l_short_so := A.lcv "short_so" 3 (by decide +kernel)
  have v_word_so := A.var "word_so" 4 (by decide +kernel)
  have s_word_so := A.stv "word_so" 4 (by decide +kernel)
  have l_word_so := A.lcv "word_so" 4 (by decide +kernel)
  have v_quarters_so := A.var "quarters_so" 5 (by decide +kernel)
  have s_quarters_so := A.stv "quarters_so" 5 (by decide +kernel)
  have v_spun_so := A.var "spun_so" 6 (by decide +kernel)
  have s_spun_so := A.stv "spun_so" 6 (by decide +kernel)
  have l_spun_so := A.lcv "spun_so" 6 (by decide +kernel)
  have v_flipped_so := A.var "flipped_so" 7 (by decide +kernel)
  have s_flipped_so := A.stv "flipped_so" 7 (by decide +kernel)
  have l_flipped_so := A.lcv "flipped_so" 7 (by decide +kernel)
  have v_trail_so := A.var "trail_so" 8 (by decide +kernel)
  have s_trail_so := A.stv "trail_so" 8 (by decide +kernel)
  have l_trail_so := A.lcv "trail_so" 8 (by decide +kernel)
  have v_adds_so := A.var "adds_so" 9 (by decide +kernel)
  have s_adds_so := A.stv "adds_so" 9 (by decide +kernel)
  have l_adds_so := A.lcv "adds_so" 9 (by decide +kernel)
  have v_x := A.var "x" 10 (by decide +kernel)
  have s_x := A.stv "x" 10 (by decide +kernel)
  have l_x := A.lcv "x" 10 (by decide +kernel)
  have v_letter_so := A.var "letter_so" 11 (by decide +kernel)
  have s_letter_so := A.stv "letter_so" 11 (by decide +kernel)
  have l_letter_so := A.lcv "letter_so" 11 (by decide +kernel)
  have v_y := A.var "y" 12 (by decide +kernel)
  have s_y := A.stv "y" 12 (by decide +kernel)
  have l_y := A.lcv "y" 12 (by decide +kernel)
  have v_due := A.var "due" 13 (by decide +kernel)
  have s_due := A.stv "due" 13 (by decide +kernel)
  have l_due := A.lcv "due" 13 (by decide +kernel)
  have v_got := A.var "got" 14 (by decide +kernel)
  have s_got := A.stv "got" 14 (by decide +kernel)
  have l_got := A.lcv "got" 14 (by decide +kernel)
  have g__law_box := A.glo "_law_box" (by decide +kernel)
  have g__law_cells := A.glo "_law_cells" (by decide +kernel)
  have g__law_word := A.glo "_law_word" (by decide +kernel)
  have g__law_take := A.glo "_law_take" (by decide +kernel)
  have g__law_hat := A.glo "_law_hat" (by decide +kernel)
  have g_sum := A.glo "sum" (by decide +kernel)
  have g_is_route := A.glo "is_route" (by decide +kernel)
  have g_deed_of := A.glo "deed_of" (by decide +kernel)
  have g_corners_of := A.glo "corners_of" (by decide +kernel)
  have g_squares_beside := A.glo "squares_beside" (by decide +kernel)
  have g_is_closed := A.glo "is_closed" (by decide +kernel)
  have g__law_same := A.glo "_law_same" (by decide +kernel)
  have g_tuple := A.glo "tuple" (by decide +kernel)
  have g_turned_route := A.glo "turned_route" (by decide +kernel)
  have g_mirrored_route := A.glo "mirrored_route" (by decide +kernel)
  have g_walked_back := A.glo "walked_back" (by decide +kernel)
  have g_read_back := A.glo "read_back" (by decide +kernel)
  have g_bare := A.glo "bare" (by decide +kernel)
  have g__law_bare := A.glo "_law_bare" (by decide +kernel)
  have g__law_join := A.glo "_law_join" (by decide +kernel)
  have g__law_do := A.glo "_law_do" (by decide +kernel)
  have g_area_inside := A.glo "area_inside" (by decide +kernel)
  refine ds_cons ?_
  repeat walk_at "dw"
  intro r1 l1 r10 r11 ht1
  have hr1 : Bd 64 r1 := Bd.lt2 r10 r11 (Bd.lit rfl)
  repeat walk_at "dw"
  intro r2 l2 r20 r21 ht2
  repeat walk_at "dw"
  generalize (r1 - 5 * 10000000) * 1000000000000 + r2 = qn
  repeat walk_at "dw"
  refine de_lcN (own := [("k", 15)]) 15 (fD (spinN (qn % 4).toNat)) A rfl (by decide +kernel) (fun _ => rfl) (by decide +kernel) (by decide +kernel) ?_
  refine di_str (vName A (by assumption) ⟨_, rfl, ?_⟩)
  refine ⟨_, rfl, ?_, ?_, ?_⟩
  · rw [charsD_len]
    exact le_line (m := 1000) (by omega) rfl
  · intro d hd X' A' Ξ hΞ
    rw [chars_wd] at hd
    obtain ⟨c1, hc1, rfl⟩ := List.mem_map.mp hd
    have hl := hw _ hc1
    refine de_norm (by walk_at "dnorm") ?_
    have w_k := A'.var "k" 15 (by decide +kernel)
    have u_k := A'.stv "k" 15 (by decide +kernel)
    have h_int := A'.glo "int" (by decide +kernel)
    have w_quarters_so := A'.var "quarters_so" 5 (by decide +kernel)
    repeat walk_at "dw"
    refine ⟨_, _, _, rfl, occ_ltr hl, ?_⟩
    repeat walk_at "dw"
    refine ⟨_, ⟨sz rfl, _, spin_at hl qn, rfl⟩, ?_⟩
    exact hΞ
  refine ⟨_, congrArg D.lst fD_map, ?_, ?_⟩
  · rw [sum_ones]
    simp only [List.length_map]
    show cs.length + cs.length * 0 ≤ _
    omega
  rw [join_wd]
  repeat walk_at "dw"
  refine de_lcN (own := [("k", 15)]) 15 (fD flip1) A rfl (by decide +kernel) (fun _ => rfl) (by decide +kernel) (by decide +kernel) ?_
  refine di_str (vName A (by assumption) ⟨_, rfl, ?_⟩)
  refine ⟨_, rfl, ?_, ?_, ?_⟩
  · rw [charsD_len]
    exact le_line (m := 1000) (by omega) rfl
  · intro d hd X' A' Ξ hΞ
    rw [chars_wd] at hd
    obtain ⟨c1, hc1, rfl⟩ := List.mem_map.mp hd
    have hl := hw _ hc1
    dsimp only [wipeR, List.map, List.set]
    have w_k := A'.var "k" 15 (by decide +kernel)
    have u_k := A'.stv "k" 15 (by decide +kernel)
    with_reducible refine de_dlit4 A' ?_ ?_
    exact fun _ _ => rfl
    repeat walk_at "dw"
    refine ⟨_, _, rfl, val_ltr hl, ?_⟩
    exact hΞ
  refine ⟨_, congrArg D.lst fD_map, ?_, ?_⟩
  · rw [sum_ones]
    simp only [List.length_map]
    show cs.length + cs.length * 0 ≤ _
    omega
  rw [join_wd]
  (with_reducible apply nx_norm)
  walk_at "dnorm"
  with_reducible refine nx_mk ?_
  exact cont qn l2 ht2

theorem seg_B {P : Program} {w : World} {K : PySem.W.Frag} {mg : Str → Option Value} {base : Heap} (M : Mod K w mg) {X : Cx} (A : At X P w K mg base tb_law nm_law 7) {E : DEnds} {is : List Int} {c : Addr} {b : Nat} {lt : List D} {cs es : List Nat} {q : Int} (hw : LetW cs) (hz : cs.length ≤ 100) {w2 w3 w5 w6 w7 w8 w9 w10 w11 w12 w13 w14 w15 : Option D} (cont : ∀ (w10 w11 w12 : Option D), DSs X (loopB.drop 5) [some (.frz (is.map D.int)), some (.cell c), w2, w3, some (.str (wd cs)), w5, w6, w7, some (.lst ((cor cs (0, 0)).map prD)), some (.lst ((sqs cs 0).map D.int)), w10, w11, w12, w13, w14, w15] ((c, lt) :: []) E) : DSs X (loopB.drop 3) [some (.frz (is.map D.int)), some (.cell c), w2, w3, some (.str (wd cs)), w5, w6, w7, w8, w9, w10, w11, w12, w13, w14, w15] ((c, lt) :: []) E := by
  have d__law_same := ok__law_same (P := P) (w := w) (base := base) M 3
  have G := M.nob
  have v_script := A.var "script" 0 (by decide +kernel)
  have s_script := A.stv "script" 0 (by decide +kernel)
  have l_script := A.lcv "script" 0 (by decide +kernel)
  have v_tin := A.var "tin" 1 (by decide +kernel)
  have s_tin := A.stv "tin" 1 (by decide +kernel)
  have l_tin := A.lcv "tin" 1 (by decide +kernel)
  have v_one := A.var "one" 2 (by decide +kernel)
  have s_one := A.stv "one" 2 (by decide +kernel)
  have l_one := A.lcv "one" 2 (by decide +kernel)
  have v_short_so := A.var "short_so" 3 (by decide +kernel)
  have s_short_so := A.stv "short_so" 3 (by decide +kernel)
  have l_short_so := A.lcv "short_so" 3 (by decide +kernel)
  have v_word_so := A.var "word_so" 4 (by decide +kernel)
  have s_word_so := A.stv "word_so" 4 (by decide +kernel)
  have l_word_so := A.lcv "word_so" 4 (by decide +kernel)
  have v_quarters_so := A.var "quarters_so" 5 (by decide +kernel)
  have s_quarters_so := A.stv "quarters_so" 5 (by decide +kernel)
  have v_spun_so := A.var "spun_so" 6 (by decide +kernel)
  have s_spun_so := A.stv "spun_so" 6 (by decide +kernel)
  have l_spun_so := A.lcv "spun_so" 6 (by decide +kernel)
  have v_flipped_so := A.var "flipped_so" 7 (by decide +kernel)
  have s_flipped_so := A.stv "flipped_so" 7 (by decide +kernel)
  have l_flipped_so := A.lcv "flipped_so" 7 (by decide +kernel)
  have v_trail_so := A.var "trail_so" 8 (by decide +kernel)
  have s_trail_so := A.stv "trail_so" 8 (by decide +kernel)
  have l_trail_so := A.lcv "trail_so" 8 (by decide +kernel)
  have v_adds_so := A.var "adds_so" 9 (by decide +kernel)
  have s_adds_so := A.stv "adds_so" 9 (by decide +kernel)
  have l_adds_so := A.lcv "adds_so" 9 (by decide +kernel)
  have v_x := A.var "x" 10 (by decide +kernel)
  have s_x := A.stv "x" 10 (by decide +kernel)
  have l_x := A.lcv "x" 10 (by decide +kernel)
  have v_letter_so := A.var "letter_so" 11 (by decide +kernel)
  have s_letter_so := A.stv "letter_so" 11 (by decide +kernel)
  have l_letter_so := A.lcv "letter_so" 11 (by decide +kernel)
  have v_y := A.var "y" 12 (by decide +kernel)
  have s_y := A.stv "y" 12 (by decide +kernel)
  have l_y := A.lcv "y" 12 (by decide +kernel)
  have v_due := A.var "due" 13 (by decide +kernel)
  have s_due := A.stv "due" 13 (by decide +kernel)
  have l_due := A.lcv "due" 13 (by decide +kernel)
  have v_got := A.var "got" 14 (by decide +kernel)
  have s_got := A.stv "got" 14 (by decide +kernel)
  have l_got := A.lcv "got" 14 (by decide +kernel)
  have g__law_box := A.glo "_law_box" (by decide +kernel)
  have g__law_cells := A.glo "_law_cells" (by decide +kernel)
  have g__law_word := A.glo "_law_word" (by decide +kernel)
  have g__law_take := A.glo "_law_take" (by decide +kernel)
  have g__law_hat := A.glo "_law_hat" (by decide +kernel)
  have g_sum := A.glo "sum" (by decide +kernel)
  have g_is_route := A.glo "is_route" (by decide +kernel)
  have g_deed_of := A.glo "deed_of" (by decide +kernel)
  have g_corners_of := A.glo "corners_of" (by decide +kernel)
  have g_squares_beside := A.glo "squares_beside" (by decide +kernel)
  have g_is_closed := A.glo "is_closed" (by decide +kernel)
  have g__law_same := A.glo "_law_same" (by decide +kernel)
  have g_tuple := A.glo "tuple" (by decide +kernel)
  have g_turned_route := A.glo "turned_route" (by decide +kernel)
  have g_mirrored_route := A.glo "mirrored_route" (by decide +kernel)
  have g_walked_back := A.glo "walked_back" (by decide +kernel)
  have g_read_back := A.glo "read_back" (by decide +kernel)
  have g_bare := A.glo "bare" (by decide +kernel)
  have g__law_bare := A.glo "_law_bare" (by decide +kernel)
  have g__law_join := A.glo "_law_join" (by decide +kernel)
  have g__law_do := A.glo "_law_do" (by decide +kernel)
  have g_area_inside := A.glo "area_inside" (by decide +kernel)
  refine ds_cons ?_
  refine vPar3C A (by assumption) (by assumption) (by assumption) ?_ ?_ ?_ ?_
  · decide +kernel
  · exact rfl
  · exact ⟨rfl, rfl, rfl⟩
  refine dac_cons (dec_n (dn_lst rfl ?_)) rfl
  repeat walk_at "dw"
  intro t1
  refine dac_cons (dec_n (dn_lst rfl (da_nil ?_))) rfl
  intro a1
  refine dac_cons (dec_e ?_) rfl
  repeat walk_at "dw"
  refine dac_nil ?_
  repeat walk_at "dw"
  refine ds_for A (fun _ => rfl) ?_
  refine di_str (vName A (by assumption) ⟨_, rfl, ?_⟩)
  refine ⟨_, rfl, ?_⟩
  rw [chars_wd]
  refine for_ind (fun ds ρ S' => ∃ (m : List Nat) (ini : List P2) (p : P2) (acc : List Int) (w11 w12 : Option D), ds = m.map ch ∧ LetW m ∧ ini.length + m.length ≤ 1000 ∧ acc.length + m.length ≤ 1000 ∧ ρ = [some (.frz (is.map D.int)), some (.cell c), w2, w3, some (.str (wd cs)), w5, w6, w7, some (.cell t1), some (.cell a1), some (.int p.1), w11, w12, w13, w14, w15] ∧ S' = ((c, lt) :: []) ++ (t1, (ini ++ [p]).map prD) :: (a1, acc.map D.int) :: [] ∧ ini ++ cor m p = cor cs (0, 0) ∧ acc ++ sqs m p.1 = sqs cs 0) ?_ ?_ ?_
  · rintro d ds ρ S' ⟨m, ini, p, acc, w11, w12, e, hm, hn, hn2, rfl, rfl, hf, hg⟩
    cases m with
    | nil => cases e
    | cons o m =>
      cases e
      rw [List.length_cons] at hn hn2
      have hat : atI ((ini ++ [p]).map prD) (-1) = some (prD p) := by
        rw [List.map_append]
        exact atI_last
      have hlen : ((ini ++ [p]).map prD).length < sizeLine := by
        rw [List.length_map, List.length_append, List.length_singleton]
        exact lt_line (m := 10000) (by omega) rfl
      have hlen2 : (acc.map D.int).length < sizeLine := by
        rw [List.length_map]
        exact lt_line (m := 10000) (by omega) rfl
      have fin : ∀ (v x y : Int) (w11 w12 : Option D), v = p.1 * dy o → x = p.1 + dx o → y = p.2 + dy o → Box (∃ (m' : List Nat) (ini' : List P2) (p' : P2) (acc' : List Int) (w11' w12' : Option D), m.map ch = m'.map ch ∧ LetW m' ∧ ini'.length + m'.length ≤ 1000 ∧ acc'.length + m'.length ≤ 1000 ∧ [some (.frz (is.map D.int)), some (.cell c), w2, w3, some (.str (wd cs)), w5, w6, w7, some (.cell t1), some (.cell a1), some (.int x), w11, w12, w13, w14, w15] = [some (.frz (is.map D.int)), some (.cell c), w2, w3, some (.str (wd cs)), w5, w6, w7, some (.cell t1), some (.cell a1), some (.int p'.1), w11', w12', w13, w14, w15] ∧ ([(c, lt), (t1, (ini ++ [p]).map prD ++ [.tup [.int x, .int y]]), (a1, acc.map D.int ++ [.int v])] : Sto) = ((c, lt) :: []) ++ (t1, (ini' ++ [p']).map prD) :: (a1, acc'.map D.int) :: [] ∧ ini' ++ cor m' p' = cor cs (0, 0) ∧ acc' ++ sqs m' p'.1 = sqs cs 0) := fun v x y w11 w12 e1 e2 e3 => by
        subst e1 e2 e3
        refine .mk ⟨m, ini ++ [p], (p.1 + dx o, p.2 + dy o), acc ++ [p.1 * dy o], w11, w12, rfl, hm.tail, by rw [List.length_append, List.length_singleton]; omega, by rw [List.length_append, List.length_singleton]; omega, rfl, by simp, ?_, ?_⟩
        · rw [← hf, List.append_assoc]
          rfl
        · rw [← hg, List.append_assoc]
          rfl
      rcases hm.head with rfl | rfl | rfl | rfl
      all_goals repeat walk_at "dw"
      all_goals refine ⟨prD p, ⟨_, List.mem_append_right _ List.mem_cons_self, hat⟩, ?_⟩
      all_goals repeat walk_at "dw"
      all_goals refine ⟨a1, [(c, lt), (t1, (ini ++ [p]).map prD)], acc.map D.int, [], rfl, rfl, ?_⟩
      all_goals repeat walk_at "dw"
      all_goals refine ⟨[(c, lt), (t1, (ini ++ [p]).map prD)], _, [], rfl, hlen2, ?_⟩
      all_goals repeat walk_at "dw"
      all_goals refine ⟨t1, [(c, lt)], (ini ++ [p]).map prD, [(a1, _)], rfl, rfl, ?_⟩
      all_goals repeat walk_at "dw"
      all_goals refine ⟨[(c, lt)], _, [(a1, _)], rfl, hlen, ?_⟩
      all_goals repeat walk_at "dw"
      all_goals refine fin _ _ _ _ _ ?_ ?_ ?_
      all_goals simp [dx, dy]
  · rintro ρ S' ⟨m, ini, p, acc, w11, w12, e, hm, hn, hn2, rfl, rfl, hf, hg⟩
    cases m with
    | cons o m => cases e
    | nil =>
      have hf2 : ini ++ [p] = cor cs (0, 0) := hf
      have hg2 : acc = sqs cs 0 := by rw [← hg]; simp [sqs]
      rw [hf2, hg2]
      with_reducible refine nx_mk ?_
      refine dss_freeze (A := [(c, lt)]) (c := t1) (B := [(a1, (sqs cs 0).map D.int)]) 8 rfl ?_
      refine dss_freeze (A := [(c, lt)]) (c := a1) (B := []) 9 rfl ?_
      exact cont _ _ _
  · exact ⟨cs, [], (0, 0), [], _, _, rfl, hw, by simp; omega, by simp; omega, rfl, rfl, rfl, rfl⟩

theorem seg_C {P : Program} {w : World} {K : PySem.W.Frag} {mg : Str → Option Value} {base : Heap} (M : Mod K w mg) {X : Cx} (A : At X P w K mg base tb_law nm_law 7) {E : DEnds} {is : List Int} {c : Addr} {b : Nat} {lt : List D} {cs es : List Nat} {q : Int} (hw : LetW cs) (hz : cs.length ≤ 100) {w2 w3 w5 w6 w7 w10 w11 w12 w13 w14 w15 : Option D} (cont : ∀ (w14 : Option D), DSs X (loopB.drop 8) [some (.frz (is.map D.int)), some (.cell c), w2, w3, some (.str (wd cs)), w5, w6, w7, some (.lst ((cor cs (0, 0)).map prD)), some (.lst ((sqs cs 0).map D.int)), w10, w11, w12, some (d3 (doW cs (0, 0, 0))), w14, w15] ((c, lt) :: []) E) : DSs X (loopB.drop 5) [some (.frz (is.map D.int)), some (.cell c), w2, w3, some (.str (wd cs)), w5, w6, w7, some (.lst ((cor cs (0, 0)).map prD)), some (.lst ((sqs cs 0).map D.int)), w10, w11, w12, w13, w14, w15] ((c, lt) :: []) E := by
  have d__law_same := ok__law_same (P := P) (w := w) (base := base) M 3
  have d_is_route := ok_is_route (P := P) (w := w) (base := base) M
  have d_deed_of := ok_deed_of (P := P) (w := w) (base := base) M
  have d_corners_of := ok_corners_of (P := P) (w := w) (base := base) M
  have d_squares_beside := ok_squares_beside (P := P) (w := w) (base := base) M
  have d_is_closed := ok_is_closed (P := P) (w := w) (base := base) M
  have G := M.nob
  have v_script := A.var "script" 0 (by decide +kernel)
  have s_script := A.stv "script" 0 (by decide +kernel)
  have l_script := A.lcv "script" 0 (by decide +kernel)
  have v_tin := A.var "tin" 1 (by decide +kernel)
  have s_tin := A.stv "tin" 1 (by decide +kernel)
  have l_tin := A.lcv "tin" 1 (by decide +kernel)
  have v_one := A.var "one" 2 (by decide +kernel)
  have s_one := A.stv "one" 2 (by decide +kernel)
  have l_one := A.lcv "one" 2 (by decide +kernel)
  have v_short_so := A.var "short_so" 3 (by decide +kernel)
  have s_short_so := A.stv "short_so" 3 (by decide +kernel)
  have l_short_so := A.lcv "short_so" 3 (by decide +kernel)
  have v_word_so := A.var "word_so" 4 (by decide +kernel)
  have s_word_so := A.stv "word_so" 4 (by decide +kernel)
  have l_word_so := A.lcv "word_so" 4 (by decide +kernel)
  have v_quarters_so := A.var "quarters_so" 5 (by decide +kernel)
  have s_quarters_so := A.stv "quarters_so" 5 (by decide +kernel)
  have v_spun_so := A.var "spun_so" 6 (by decide +kernel)
  have s_spun_so := A.stv "spun_so" 6 (by decide +kernel)
  have l_spun_so := A.lcv "spun_so" 6 (by decide +kernel)
  have v_flipped_so := A.var "flipped_so" 7 (by decide +kernel)
  have s_flipped_so := A.stv "flipped_so" 7 (by decide +kernel)
  have l_flipped_so := A.lcv "flipped_so" 7 (by decide +kernel)
  have v_trail_so := A.var "trail_so" 8 (by decide +kernel)
  have s_trail_so := A.stv "trail_so" 8 (by decide +kernel)
  have l_trail_so := A.lcv "trail_so" 8 (by decide +kernel)
  have v_adds_so := A.var "adds_so" 9 (by decide +kernel)
  have s_adds_so := A.stv "adds_so" 9 (by decide +kernel)
  have l_adds_so := A.lcv "adds_so" 9 (by decide +kernel)
  have v_x := A.var "x" 10 (by decide +kernel)
  have s_x := A.stv "x" 10 (by decide +kernel)
  have l_x := A.lcv "x" 10 (by decide +kernel)
  have v_letter_so := A.var "letter_so" 11 (by decide +kernel)
  have s_letter_so := A.stv "letter_so" 11 (by decide +kernel)
  have l_letter_so := A.lcv "letter_so" 11 (by decide +kernel)
  have v_y := A.var "y" 12 (by decide +kernel)
  have s_y := A.stv "y" 12 (by decide +kernel)
  have l_y := A.lcv "y" 12 (by decide +kernel)
  have v_due := A.var "due" 13 (by decide +kernel)
  have s_due := A.stv "due" 13 (by decide +kernel)
  have l_due := A.lcv "due" 13 (by decide +kernel)
  have v_got := A.var "got" 14 (by decide +kernel)
  have s_got := A.stv "got" 14 (by decide +kernel)
  have l_got := A.lcv "got" 14 (by decide +kernel)
  have g__law_box := A.glo "_law_box" (by decide +kernel)
  have g__law_cells := A.glo "_law_cells" (by decide +kernel)
  have g__law_word := A.glo "_law_word" (by decide +kernel)
  have g__law_take := A.glo "_law_take" (by decide +kernel)
  have g__law_hat := A.glo "_law_hat" (by decide +kernel)
  have g_sum := A.glo "sum" (by decide +kernel)
  have g_is_route := A.glo "is_route" (by decide +kernel)
  have g_deed_of := A.glo "deed_of" (by decide +kernel)
  have g_corners_of := A.glo "corners_of" (by decide +kernel)
  have g_squares_beside := A.glo "squares_beside" (by decide +kernel)
  have g_is_closed := A.glo "is_closed" (by decide +kernel)
  have g__law_same := A.glo "_law_same" (by decide +kernel)
  have g_tuple := A.glo "tuple" (by decide +kernel)
  have g_turned_route := A.glo "turned_route" (by decide +kernel)
  have g_mirrored_route := A.glo "mirrored_route" (by decide +kernel)
  have g_walked_back := A.glo "walked_back" (by decide +kernel)
  have g_read_back := A.glo "read_back" (by decide +kernel)
  have g_bare := A.glo "bare" (by decide +kernel)
  have g__law_bare := A.glo "_law_bare" (by decide +kernel)
  have g__law_join := A.glo "_law_join" (by decide +kernel)
  have g__law_do := A.glo "_law_do" (by decide +kernel)
  have g_area_inside := A.glo "area_inside" (by decide +kernel)
  have hz2 : cs.length ≤ 1000 := by omega
  have hcl := cor_len cs (0, 0)
  have hsl := sqs_len cs 0
  have hat : atI ((cor cs (0, 0)).map prD) (-1) = some (prD ((doW cs (0, 0, 0)).1, (doW cs (0, 0, 0)).2.1)) := atI_map (atI_getLast (cor_doW cs (0, 0, 0)))
  have sd : (sqs cs 0).sum = (doW cs (0, 0, 0)).2.2 := by
    have q := sqs_doW cs (0, 0, 0)
    dsimp only at q
    omega
  refine ds_cons ?_
  repeat walk_at "dw"
  refine ⟨_, hat, ?_⟩
  repeat walk_at "dw"
  rw [sd]
  refine vSet A (by assumption) ?_ ?_
  exact rfl
  repeat walk_at "dw"
  refine ⟨_, hat, ?_⟩
  repeat walk_at "dw"
  refine ⟨?_, ?_, ?_⟩
  · refine fit_lst rfl fun d hd => ?_
    simp only [List.mem_cons, List.not_mem_nil, or_false] at hd
    rcases hd with rfl | rfl | rfl | rfl | rfl
    · exact rfl
    · exact rfl
    · exact fit2P (by omega)
    · exact fit2I (by omega)
    · exact rfl
  · refine noFrz_lst fun d hd => ?_
    simp only [List.mem_cons, List.not_mem_nil, or_false] at hd
    rcases hd with rfl | rfl | rfl | rfl | rfl
    · exact rfl
    · exact rfl
    · exact noFrzP
    · exact noFrzI
    · exact rfl
  refine ⟨_, rfl, ?_⟩
  refine ite_f rfl ?_
  refine ds_nil ?_
  exact cont _

theorem seg_D {P : Program} {w : World} {K : PySem.W.Frag} {mg : Str → Option Value} {base : Heap} (M : Mod K w mg) {X : Cx} (A : At X P w K mg base tb_law nm_law 7) {E : DEnds} {is : List Int} {c : Addr} {b : Nat} {lt : List D} {cs es : List Nat} {q : Int} (hw : LetW cs) (hz : cs.length ≤ 100) {w2 w3 w8 w9 w10 w11 w12 w13 w14 w15 : Option D} (cont : ∀ (w14 : Option D), DSs X (loopB.drop 10) [some (.frz (is.map D.int)), some (.cell c), w2, w3, some (.str (wd cs)), some (.int q), some (.str (wd (cs.map (spinN (q % 4).toNat)))), some (.str (wd (cs.map flip1))), w8, w9, w10, w11, w12, w13, w14, w15] ((c, lt) :: []) E) : DSs X (loopB.drop 8) [some (.frz (is.map D.int)), some (.cell c), w2, w3, some (.str (wd cs)), some (.int q), some (.str (wd (cs.map (spinN (q % 4).toNat)))), some (.str (wd (cs.map flip1))), w8, w9, w10, w11, w12, w13, w14, w15] ((c, lt) :: []) E := by
  have d__law_same := ok__law_same (P := P) (w := w) (base := base) M 3
  have d_turned_route := ok_turned_route (P := P) (w := w) (base := base) M
  have d_mirrored_route := ok_mirrored_route (P := P) (w := w) (base := base) M
  have d_walked_back := ok_walked_back (P := P) (w := w) (base := base) M
  have d_read_back := ok_read_back (P := P) (w := w) (base := base) M
  have d_bare := ok_bare (P := P) (w := w) (base := base) M
  have d__law_hat := ok__law_hat (P := P) (w := w) (base := base) M
  have d__law_bare := ok__law_bare (P := P) (w := w) (base := base) M
  have G := M.nob
  have v_script := A.var "script" 0 (by decide +kernel)
  have s_script := A.stv "script" 0 (by decide +kernel)
  have l_script := A.lcv "script" 0 (by decide +kernel)
  have v_tin := A.var "tin" 1 (by decide +kernel)
  have s_tin := A.stv "tin" 1 (by decide +kernel)
  have l_tin := A.lcv "tin" 1 (by decide +kernel)
  have v_one := A.var "one" 2 (by decide +kernel)
  have s_one := A.stv "one" 2 (by decide +kernel)
  have l_one := A.lcv "one" 2 (by decide +kernel)
  have v_short_so := A.var "short_so" 3 (by decide +kernel)
  have s_short_so := A.stv "short_so" 3 (by decide +kernel)
  have l_short_so := A.lcv "short_so" 3 (by decide +kernel)
  have v_word_so := A.var "word_so" 4 (by decide +kernel)
  have s_word_so := A.stv "word_so" 4 (by decide +kernel)
  have l_word_so := A.lcv "word_so" 4 (by decide +kernel)
  have v_quarters_so := A.var "quarters_so" 5 (by decide +kernel)
  have s_quarters_so := A.stv "quarters_so" 5 (by decide +kernel)
  have v_spun_so := A.var "spun_so" 6 (by decide +kernel)
  have s_spun_so := A.stv "spun_so" 6 (by decide +kernel)
  have l_spun_so := A.lcv "spun_so" 6 (by decide +kernel)
  have v_flipped_so := A.var "flipped_so" 7 (by decide +kernel)
  have s_flipped_so := A.stv "flipped_so" 7 (by decide +kernel)
  have l_flipped_so := A.lcv "flipped_so" 7 (by decide +kernel)
  have v_trail_so := A.var "trail_so" 8 (by decide +kernel)
  have s_trail_so := A.stv "trail_so" 8 (by decide +kernel)
  have l_trail_so := A.lcv "trail_so" 8 (by decide +kernel)
  have v_adds_so := A.var "adds_so" 9 (by decide +kernel)
  have s_adds_so := A.stv "adds_so" 9 (by decide +kernel)
  have l_adds_so := A.lcv "adds_so" 9 (by decide +kernel)
  have v_x := A.var "x" 10 (by decide +kernel)
  have s_x := A.stv "x" 10 (by decide +kernel)
  have l_x := A.lcv "x" 10 (by decide +kernel)
  have v_letter_so := A.var "letter_so" 11 (by decide +kernel)
  have s_letter_so := A.stv "letter_so" 11 (by decide +kernel)
  have l_letter_so := A.lcv "letter_so" 11 (by decide +kernel)
  have v_y := A.var "y" 12 (by decide +kernel)
  have s_y := A.stv "y" 12 (by decide +kernel)
  have l_y := A.lcv "y" 12 (by decide +kernel)
  have v_due := A.var "due" 13 (by decide +kernel)
  have s_due := A.stv "due" 13 (by decide +kernel)
  have l_due := A.lcv "due" 13 (by decide +kernel)
  have v_got := A.var "got" 14 (by decide +kernel)
  have s_got := A.stv "got" 14 (by decide +kernel)
  have l_got := A.lcv "got" 14 (by decide +kernel)
  have g__law_box := A.glo "_law_box" (by decide +kernel)
  have g__law_cells := A.glo "_law_cells" (by decide +kernel)
  have g__law_word := A.glo "_law_word" (by decide +kernel)
  have g__law_take := A.glo "_law_take" (by decide +kernel)
  have g__law_hat := A.glo "_law_hat" (by decide +kernel)
  have g_sum := A.glo "sum" (by decide +kernel)
  have g_is_route := A.glo "is_route" (by decide +kernel)
  have g_deed_of := A.glo "deed_of" (by decide +kernel)
  have g_corners_of := A.glo "corners_of" (by decide +kernel)
  have g_squares_beside := A.glo "squares_beside" (by decide +kernel)
  have g_is_closed := A.glo "is_closed" (by decide +kernel)
  have g__law_same := A.glo "_law_same" (by decide +kernel)
  have g_tuple := A.glo "tuple" (by decide +kernel)
  have g_turned_route := A.glo "turned_route" (by decide +kernel)
  have g_mirrored_route := A.glo "mirrored_route" (by decide +kernel)
  have g_walked_back := A.glo "walked_back" (by decide +kernel)
  have g_read_back := A.glo "read_back" (by decide +kernel)
  have g_bare := A.glo "bare" (by decide +kernel)
  have g__law_bare := A.glo "_law_bare" (by decide +kernel)
  have g__law_join := A.glo "_law_join" (by decide +kernel)
  have g__law_do := A.glo "_law_do" (by decide +kernel)
  have g_area_inside := A.glo "area_inside" (by decide +kernel)
  have hz2 : cs.length ≤ 1000 := by omega
  have hz3 : (wd cs).length ≤ sizeLine := by rw [wd_len]; exact le_line (m := 1000) hz2 rfl
  refine ds_cons ?_
  refine vSet A (by assumption) ?_ ?_
  exact rfl
  repeat walk_at "dw"
  refine ⟨rfl, rfl, ?_⟩
  refine ⟨_, rfl, ?_⟩
  refine ite_f rfl ?_
  refine ds_nil ?_
  exact cont _

theorem seg_E {P : Program} {w : World} {K : PySem.W.Frag} {mg : Str → Option Value} {base : Heap} (M : Mod K w mg) {X : Cx} (A : At X P w K mg base tb_law nm_law 7) {E : DEnds} {is : List Int} {c : Addr} {b : Nat} {lt : List D} {cs es : List Nat} {q : Int} (hw : LetW cs) (hz : cs.length ≤ 100) (hw2 : LetW es) (hz2 : es.length ≤ 100) {w3 w5 w6 w7 w9 w10 w11 w12 w14 w15 : Option D} (cont : ∀ (w14 : Option D), E.nx [some (.frz (is.map D.int)), some (.cell c), some (.str (wd es)), w3, some (.str (wd cs)), w5, w6, w7, some (.lst ((cor cs (0, 0)).map prD)), w9, w10, w11, w12, some (d3 (doW cs (0, 0, 0))), w14, w15] ((c, lt) :: [])) : DSs X (loopB.drop 10) [some (.frz (is.map D.int)), some (.cell c), some (.str (wd es)), w3, some (.str (wd cs)), w5, w6, w7, some (.lst ((cor cs (0, 0)).map prD)), w9, w10, w11, w12, some (d3 (doW cs (0, 0, 0))), w14, w15] ((c, lt) :: []) E := by
  have d__law_same := ok__law_same (P := P) (w := w) (base := base) M 3
  have d__law_join := ok__law_join (P := P) (w := w) (base := base) M
  have d_deed_of := ok_deed_of (P := P) (w := w) (base := base) M
  have d__law_hat := ok__law_hat (P := P) (w := w) (base := base) M
  have d_bare := ok_bare (P := P) (w := w) (base := base) M
  have d__law_do := ok__law_do (P := P) (w := w) (base := base) M
  have d_area_inside := ok_area_inside (P := P) (w := w) (base := base) M
  have G := M.nob
  have v_script := A.var "script" 0 (by decide +kernel)
  have s_script := A.stv "script" 0 (by decide +kernel)
  have l_script := A.lcv "script" 0 (by decide +kernel)
  have v_tin := A.var "tin" 1 (by decide +kernel)
  have s_tin := A.stv "tin" 1 (by decide +kernel)
  have l_tin := A.lcv "tin" 1 (by decide +kernel)
  have v_one := A.var "one" 2 (by decide +kernel)
  have s_one := A.stv "one" 2 (by decide +kernel)
  have l_one := A.lcv "one" 2 (by decide +kernel)
  have v_short_so := A.var "short_so" 3 (by decide +kernel)
  have s_short_so := A.stv "short_so" 3 (by decide +kernel)
  have l_short_so := A.lcv "short_so" 3 (by decide +kernel)
  have v_word_so := A.var "word_so" 4 (by decide +kernel)
  have s_word_so := A.stv "word_so" 4 (by decide +kernel)
  have l_word_so := A.lcv "word_so" 4 (by decide +kernel)
  have v_quarters_so := A.var "quarters_so" 5 (by decide +kernel)
  have s_quarters_so := A.stv "quarters_so" 5 (by decide +kernel)
  have v_spun_so := A.var "spun_so" 6 (by decide +kernel)
  have s_spun_so := A.stv "spun_so" 6 (by decide +kernel)
  have l_spun_so := A.lcv "spun_so" 6 (by decide +kernel)
  have v_flipped_so := A.var "flipped_so" 7 (by decide +kernel)
  have s_flipped_so := A.stv "flipped_so" 7 (by decide +kernel)
  have l_flipped_so := A.lcv "flipped_so" 7 (by decide +kernel)
  have v_trail_so := A.var "trail_so" 8 (by decide +kernel)
  have s_trail_so := A.stv "trail_so" 8 (by decide +kernel)
  have l_trail_so := A.lcv "trail_so" 8 (by decide +kernel)
  have v_adds_so := A.var "adds_so" 9 (by decide +kernel)
  have s_adds_so := A.stv "adds_so" 9 (by decide +kernel)
  have l_adds_so := A.lcv "adds_so" 9 (by decide +kernel)
  have v_x := A.var "x" 10 (by decide +kernel)
  have s_x := A.stv "x" 10 (by decide +kernel)
  have l_x := A.lcv "x" 10 (by decide +kernel)
  have v_letter_so := A.var "letter_so" 11 (by decide +kernel)
  have s_letter_so := A.stv "letter_so" 11 (by decide +kernel)
  have l_letter_so := A.lcv "letter_so" 11 (by decide +kernel)
  have v_y := A.var "y" 12 (by decide +kernel)
  have s_y := A.stv "y" 12 (by decide +kernel)
  have l_y := A.lcv "y" 12 (by decide +kernel)
  have v_due := A.var "due" 13 (by decide +kernel)
  have s_due := A.stv "due" 13 (by decide +kernel)
  have l_due := A.lcv "due" 13 (by decide +kernel)
  have v_got := A.var "got" 14 (by decide +kernel)
  have s_got := A.stv "got" 14 (by decide +kernel)
  have l_got := A.lcv "got" 14 (by decide +kernel)
  have g__law_box := A.glo "_law_box" (by decide +kernel)
  have g__law_cells := A.glo "_law_cells" (by decide +kernel)
  have g__law_word := A.glo "_law_word" (by decide +kernel)
  have g__law_take := A.glo "_law_take" (by decide +kernel)
  have g__law_hat := A.glo "_law_hat" (by decide +kernel)
  have g_sum := A.glo "sum" (by decide +kernel)
  have g_is_route := A.glo "is_route" (by decide +kernel)
  have g_deed_of := A.glo "deed_of" (by decide +kernel)
  have g_corners_of := A.glo "corners_of" (by decide +kernel)
  have g_squares_beside := A.glo "squares_beside" (by decide +kernel)
  have g_is_closed := A.glo "is_closed" (by decide +kernel)
  have g__law_same := A.glo "_law_same" (by decide +kernel)
  have g_tuple := A.glo "tuple" (by decide +kernel)
  have g_turned_route := A.glo "turned_route" (by decide +kernel)
  have g_mirrored_route := A.glo "mirrored_route" (by decide +kernel)
  have g_walked_back := A.glo "walked_back" (by decide +kernel)
  have g_read_back := A.glo "read_back" (by decide +kernel)
  have g_bare := A.glo "bare" (by decide +kernel)
  have g__law_bare := A.glo "_law_bare" (by decide +kernel)
  have g__law_join := A.glo "_law_join" (by decide +kernel)
  have g__law_do := A.glo "_law_do" (by decide +kernel)
  have g_area_inside := A.glo "area_inside" (by decide +kernel)
  have hz3 : cs.length ≤ 1000 := by omega
  have hz4 : es.length ≤ 1000 := by omega
  have wh := letW_spin 2 (letW_rev hw)
  have wl : (cs.reverse.map (spinN 2)).length ≤ 1000 := by rw [List.length_map, List.length_reverse]; exact hz3
  have wb := bare_ltr cs [] (by intro d hd; cases hd) hw
  have wbl := bare_len cs []
  rw [List.length_nil] at wbl
  have wbl2 : (bareL [] cs).length ≤ 1000 := by omega
  have wa := hw.append hw2
  have wal : (cs ++ es).length ≤ 1000 := by rw [List.length_append]; omega
  have hcat : (wd cs).length + (wd es).length ≤ sizeLine := by
    rw [wd_len, wd_len]
    exact le_line (m := 1000) (by omega) rfl
  obtain ⟨b1, b2, b3⟩ := bd_doW cs (0, 0, 0) 0 hw (by omega) (Bd.lit rfl) (Bd.lit rfl) (Bd.lit rfl)
  obtain ⟨b4, b5, b6⟩ := bd_doW es (0, 0, 0) 0 hw2 (by omega) (Bd.lit rfl) (Bd.lit rfl) (Bd.lit rfl)
  obtain ⟨b7, b8, b9⟩ := bd_doW (cs.reverse.map (spinN 2)) (0, 0, 0) 0 wh (by omega) (Bd.lit rfl) (Bd.lit rfl) (Bd.lit rfl)
  have hat : atI ((cor cs (0, 0)).map prD) (-1) = some (prD ((doW cs (0, 0, 0)).1, (doW cs (0, 0, 0)).2.1)) := atI_map (atI_getLast (cor_doW cs (0, 0, 0)))
  refine ds_cons ?_
  refine vSet A (by assumption) ?_ ?_
  exact rfl
  repeat walk_at "dw"
  refine cSame_i ?_ ?_ ?_ ?_
  · have x1 : d3 (joinT (doW cs (0, 0, 0)) (doW (cs.reverse.map (spinN 2)) (0, 0, 0))) = t3 0 0 0 := congrArg d3 (hat_do cs hw)
    have x2 : d3 (doW (bareL [] cs) (0, 0, 0)) = d3 (doW cs (0, 0, 0)) := congrArg d3 (bare_do cs [] hw)
    have x3 : d3 (doW (cs ++ es) (0, 0, 0)) = d3 (joinT (doW cs (0, 0, 0)) (doW es (0, 0, 0))) := congrArg d3 (by rw [doW_append, doW_from])
    refine congrArg D.lst ?_
    exact congr (congrArg List.cons x1) (congr (congrArg List.cons x2) (congr (congrArg List.cons x3) rfl))
  · refine fit_lst rfl fun d hd => ?_
    simp only [List.mem_cons, List.not_mem_nil, or_false] at hd
    rcases hd with rfl | rfl | rfl
    · exact rfl
    · exact rfl
    · exact rfl
  · refine noFrz_lst fun d hd => ?_
    simp only [List.mem_cons, List.not_mem_nil, or_false] at hd
    rcases hd with rfl | rfl | rfl
    · exact rfl
    · exact rfl
    · exact rfl
  refine ⟨_, rfl, ?_⟩
  refine ite_f rfl ?_
  refine ds_nil ?_
  refine nx_mk ?_
  refine ds_one ?_
  repeat walk_at "dw"
  refine ⟨_, hat, ?_⟩
  repeat walk_at "dw"
  refine ite_c (fun e9 => ?_) (fun e9 => ?_)
  · have e9 := of_decide_eq_true e9
    have h1 : (doW cs (0, 0, 0)).1 = 0 := congrArg Prod.fst e9
    have h2 : (doW cs (0, 0, 0)).2.1 = 0 := congrArg Prod.snd e9
    repeat walk_at "dw"
    refine ⟨rfl, rfl, ?_⟩
    refine ⟨_, rfl, ?_⟩
    refine ite_f rfl ?_
    refine ds_nil ?_
    exact cont _
  · refine ite_f rfl ?_
    refine ds_nil ?_
    exact cont _

end Ar
namespace Ar
open PySem PySem.Spec PyProof.Rows L2


local macro_rules | `(tactic| walk_at "dnat") => `(tactic| first | assumption | omega | exact Nat.le_of_ble_eq_true rfl)
local macro_rules | `(tactic| walk_at "dnatz") => `(tactic| first | exact trivial | walk_at "dnat")
local macro_rules | `(tactic| walk_at "dk2") => `(tactic| first
  | ((with_reducible apply cTake_i); (with_reducible assumption); (walk_at "dnat"); (walk_at "dnat"); (walk_at "bd"))
  | ((with_reducible refine cRoute_i ?_ ?_ ?_); (assumption); (walk_at "dnat"))
  | ((with_reducible refine cSpin_i ?_ ?_ ?_); (assumption); (walk_at "dnat"))
  | ((with_reducible refine cClosed_i ?_ ?_ ?_ ?_ ?_); (assumption); (walk_at "dnat"); (assumption); (assumption))
  | ((with_reducible refine cTurnL_i ?_ ?_); (assumption))
  | refine ⟨_, ⟨_, List.mem_cons_self, rfl⟩, ?_⟩)

local macro_rules | `(tactic| walk_at "bd") => `(tactic| focus ((with_reducible apply Bd.fit); (repeat' (first | with_reducible assumption | with_reducible apply Bd.add | with_reducible apply Bd.sub | with_reducible apply Bd.mul | with_reducible apply Bd.neg | with_reducible apply Bd.ediv | with_reducible apply Bd.emod | decide | exact Bd.lit (n := 64) rfl | exact Bd.lit (n := 300) rfl)); (all_goals (exact rfl))))
local macro_rules | `(tactic| walk_at "dok") => `(tactic| first | exact trivial | assumption | exact rfl)
local macro_rules | `(tactic| walk_at "dm") => `(tactic| first | (exact Bd.okL (Bd.lit rfl)) | (exact Bd.okR (Bd.lit rfl)) | (exact Bd.okR (by with_reducible assumption)) | (refine Bd.ok (n := 60000000) (m := 60000000) ?_ ?_ rfl <;> walk_at "bd"))
local macro_rules | `(tactic| walk_at "dty") => `(tactic| first | with_reducible exact tyInt | with_reducible exact tyBool | with_reducible exact tyStr | with_reducible exact tyTuple | with_reducible exact tyList)
local macro_rules | `(tactic| walk_at "dk") => `(tactic| first
  | ((with_reducible refine cIsNumber_i ?_ ?_); (walk_at "dok"))
  | ((with_reducible refine cIsLong_i ?_ ?_); (walk_at "dok"))
  | ((with_reducible refine cTupled_i ?_ ?_); (walk_at "dok"))
  | ((with_reducible refine cPlain1_i ?_ ?_); (walk_at "dok"))
  | ((with_reducible refine cRowOf_i ?_ ?_); (walk_at "dok"))
  | ((with_reducible refine cSureDeed_i  ?_))
  | ((with_reducible refine cSureNumber_i  ?_))
  | ((with_reducible refine cD1_i ?_ ?_ ?_ ?_); (walk_at "bd"); (walk_at "bd"); (walk_at "bd"))
  | ((with_reducible refine cD2_i ?_ ?_ ?_ ?_ ?_ ?_ ?_); (walk_at "bd"); (walk_at "bd"); (walk_at "bd"); (walk_at "bd"); (walk_at "bd"); (walk_at "bd"))
  | ((with_reducible refine cDI_i ?_ ?_ ?_ ?_ ?_); (walk_at "bd"); (walk_at "bd"); (walk_at "bd"); (walk_at "bd"))
  | ((with_reducible refine cI1_i ?_ ?_); (walk_at "bd"))
  | walk_at "dk2")
local macro_rules | `(tactic| walk_at "dlen") => `(tactic| first | with_reducible assumption | ((first | (with_reducible refine le_line6 ?_) | (with_reducible refine lt_line6 ?_)); (focus ((try simp only [List.length_map, List.length_append, List.length_cons, List.length_nil, rangeD_len]); (first | done | omega)))))
local macro_rules | `(tactic| walk_at "dnorm") => `(tactic| ((try dsimp only [wipeR, List.map, List.set]); (try exact rfl)))
local macro_rules | `(tactic| walk_at "dS") => `(tactic| ((fail_if_success (with_reducible refine asg_list ?_)); (fail_if_success (with_reducible refine asg_par3l ?_)); (fail_if_success (with_reducible refine asg_par2l ?_)); (fail_if_success (with_reducible refine asg_par3a ?_)); first
  | with_reducible refine ds_retCN ?_
  | with_reducible refine ds_ret ?_
  | ((with_reducible refine vPar3 (by assumption) (by assumption) (by assumption) (by assumption) ?_ ?_ ?_ ?_); (decide +kernel); (exact rfl); (exact ⟨rfl, rfl, rfl⟩))
  | ((with_reducible refine vPar (by assumption) (by assumption) (by assumption) ?_ ?_ ?_ ?_); (decide +kernel); (exact rfl); (exact rfl))
  | ((with_reducible refine vAsgF ?_ ?_ ?_ ?_); (decide +kernel); (exact rfl); (exact rfl))
  | ((with_reducible refine vAsgC (by assumption) ?_ ?_ ?_ ?_); (decide +kernel); (exact rfl); (exact rfl))
  | ((with_reducible refine vSet (by assumption) (by assumption) ?_ ?_); (exact rfl))
  | ((with_reducible refine ds_store ?_ ?_ ?_ ?_ ?_); (exact rfl); (exact rfl); (exact rfl); (exact fun _ => rfl))
  | ((with_reducible refine ds_asg ?_ ?_ ?_ ?_); (exact rfl); (exact rfl); (exact rfl))
  | (with_reducible refine ds_if ?_)
  | ((with_reducible refine vAug (by assumption) (by assumption) ?_); (refine ⟨_, rfl, ?_⟩))
  | ((with_reducible refine ds_expr ?_ ?_); (exact rfl))))
local macro_rules | `(tactic| walk_at "dG") => `(tactic| first
  | ((with_reducible refine vG (by assumption) (by assumption) ?_ ?_); (exact rfl))
  | ((with_reducible refine dg_tup (n := _) (by assumption) rfl ?_ ?_); (exact rfl); (refine ⟨_, rfl, rfl, ?_⟩)))
local macro_rules | `(tactic| walk_at "dC") => `(tactic| first
  | ((with_reducible refine vIsi (by assumption) (by assumption) (by walk_at "dty") (by assumption) (by assumption) ?_ ?_); (exact rfl))
  | ((with_reducible refine vIsi2 (by assumption) (by assumption) (by walk_at "dty") (by walk_at "dty") (by assumption) (by assumption) (by assumption) ?_ ?_); (exact rfl))
  | ((with_reducible refine vCall (by assumption) (by assumption) (by assumption) ?_ ?_ ?_ ?_); (exact rfl); (exact rfl); (exact rfl))
  | ((with_reducible refine de_append ?_ ?_ ?_ ?_ ?_); (exact rfl); (exact rfl); (exact rfl); (exact rfl))
  | ((with_reducible refine de_extend ?_ ?_ ?_ ?_ ?_); (exact rfl); (exact rfl); (exact rfl); (exact rfl))
  | ((with_reducible refine de_join ?_ ?_ ?_ ?_); (exact rfl); (exact rfl); (exact rfl))
  | ((with_reducible refine de_sindex ?_ ?_ ?_ ?_); (exact rfl); (exact rfl); (exact rfl))
  | ((with_reducible refine de_len (by assumption) (by assumption) (Glo.g (by assumption)) ?_ ?_); (exact rfl))
  | ((with_reducible refine de_abs (by assumption) (by assumption) (Glo.g (by assumption)) ?_ ?_); (exact rfl))
  | ((with_reducible refine de_intI (by assumption) (by assumption) (Glo.g (by assumption)) ?_ ?_); (exact rfl))
  | ((with_reducible refine de_sum (by assumption) (by assumption) (Glo.g (by assumption)) ?_ ?_); (exact rfl))
  | ((with_reducible refine de_min2 (by assumption) (by assumption) (Glo.g (by assumption)) ?_ ?_ ?_ ?_); (exact rfl); (exact rfl); (exact rfl))
  | ((with_reducible refine de_tupleOf (by assumption) (by assumption) (Glo.g (by assumption)) ?_ ?_); (exact rfl))
  | ((with_reducible refine de_all (by assumption) (by assumption) (Glo.g (by assumption)) ?_ ?_); (exact rfl))
  | ((with_reducible refine de_any (by assumption) (by assumption) (Glo.g (by assumption)) ?_ ?_); (exact rfl)))
local macro_rules | `(tactic| walk_at "dE") => `(tactic| first
  | ((with_reducible refine vName (by assumption) (by assumption) ?_); (refine ⟨_, rfl, ?_⟩))
  | ((with_reducible refine de_glob (by assumption) (by assumption) (Glo.g (by assumption)) ?_))
  | (with_reducible refine de_int ?_)
  | ((with_reducible refine de_callId ?_); walk_at "dC")
  | (with_reducible refine de_bin ?_)
  | ((with_reducible refine de_cmp ?_ ?_); (exact rfl))
  | (with_reducible refine de_revS ?_)
  | (with_reducible refine de_slLo ?_)
  | (with_reducible refine de_slHi ?_)
  | (with_reducible refine de_slLH ?_)
  | ((with_reducible refine de_kd (by assumption) (by assumption) (Glo.g (by assumption)) ?_ ?_); (exact fun _ _ => rfl))
  | ((with_reducible refine de_ix ?_ ?_); (exact fun _ _ => rfl))
  | ((with_reducible refine de_tup ?_ ?_); (exact rfl))
  | (with_reducible refine de_neg ?_)
  | (with_reducible refine de_if ?_)
  | (with_reducible refine de_bl ?_)
  | (with_reducible refine de_str ?_)
  | (with_reducible refine de_non ?_)
  | (with_reducible refine de_not ?_)
  | (with_reducible refine de_and ?_)
  | (with_reducible refine de_or ?_)
  | (with_reducible refine de_bool1 ?_)
  | ((with_reducible refine de_lst ?_ ?_); (exact rfl)))
local macro_rules | `(tactic| walk_at "dT") => `(tactic| first
  | (with_reducible refine dt_bool ?_)
  | (with_reducible refine dt_not ?_)
  | ((with_reducible refine dt_cmp ?_ ?_); (exact rfl))
  | ((with_reducible refine dt_truth ?_ ?_); (exact fun _ => rfl)))
local macro_rules | `(tactic| walk_at "dW") => `(tactic| first
  | (with_reducible refine dw_and ?_)
  | (with_reducible refine dw_or ?_)
  | (with_reducible refine dw_and1 ?_)
  | (with_reducible refine dw_or1 ?_))
local macro_rules | `(tactic| walk_at "dO") => `(tactic| first
  | with_reducible refine do_add ?_
  | with_reducible refine do_sub ?_
  | ((with_reducible refine do_cat ?_ ?_); (exact sz rfl))
  | ((with_reducible refine do_mulX ?_ ?_); (walk_at "dm"))
  | ((with_reducible refine do_fdiv ?_ ?_); (exact Bd.div (by decide) (Bd.lit (n := 9000) rfl) rfl))
  | ((with_reducible refine do_fdiv ?_ ?_); (exact Bd.div (by assumption) (by assumption) rfl))
  | ((with_reducible refine do_mod ?_ ?_); (first | (exact (by decide)) | assumption | omega))
  | ((with_reducible refine do_mulS ?_ ?_); (assumption))
  | ((with_reducible refine do_catT ?_ ?_); (walk_at "dlen"))
  | (with_reducible refine do_eqC (by assumption) ?_)
  | with_reducible refine do_eqP2 (by assumption) ?_
  | with_reducible refine do_p12 ?_
  | with_reducible refine do_neP2 (by assumption) ?_
  | ((with_reducible refine do_addW ?_ ?_); (assumption))
  | ((with_reducible refine do_addS ?_ ?_); (assumption))
  | with_reducible refine do_p8 ?_
  | with_reducible refine do_p21 ?_
  | with_reducible refine do_p18 ?_
  | with_reducible refine do_p7 ?_
  | with_reducible refine do_p20 ?_
  | with_reducible refine do_p29 ?_
  | with_reducible refine do_eqI ?_
  | with_reducible refine do_neI ?_
  | with_reducible refine do_lt ?_
  | with_reducible refine do_le ?_
  | with_reducible refine do_gt ?_
  | with_reducible refine do_ge ?_
  | with_reducible refine do_isN ?_
  | with_reducible refine do_notN ?_
  | with_reducible refine do_inS ?_
  | with_reducible refine do_eqB ?_
  | with_reducible refine do_neB ?_
  | with_reducible refine do_eqS ?_
  | with_reducible refine do_neS ?_
  | with_reducible refine do_eqT3 (by assumption) ?_
  | with_reducible refine do_neNil (by assumption) ?_
  | with_reducible refine do_iadd ?_
  | with_reducible refine do_isub ?_)
local macro_rules | `(tactic| walk_at "dw") => `(tactic| first
  | ((with_reducible refine de_id ?_); walk_at "dE")
  | ((with_reducible refine do_id ?_); walk_at "dO")
  | ((with_reducible refine da_cons ?_ ?_); rotate_left; (exact rfl))
  | ((with_reducible refine dn_lst ?_ ?_); (exact rfl))
  | (with_reducible refine da_nil ?_)
  | ((with_reducible refine ds_id ?_); walk_at "dS")
  | with_reducible refine ds_cons ?_
  | with_reducible refine ds_nil ?_
  | with_reducible refine ds_one ?_
  | ((with_reducible refine dt_id ?_); walk_at "dT")
  | ((with_reducible refine dw_id ?_); walk_at "dW")
  | ((with_reducible refine dg_id ?_); walk_at "dG")
  | ((with_reducible refine dgs_cons ?_ ?_); (exact rfl))
  | (with_reducible refine dgs_nil ?_)
  | with_reducible refine nx_mk ?_
  | with_reducible refine rt_mk ?_
  | ((with_reducible apply nx_norm); (walk_at "dnorm"))
  | ((with_reducible apply nxG_norm); (walk_at "dnorm"))
  | with_reducible refine RetP.same ?_
  | ((with_reducible refine RetP.here ?_ ?_); (exact rfl))
  | ((with_reducible refine vRange1 (by assumption) (by assumption) (by assumption) ?_ ?_); (exact rfl))
  | ((with_reducible refine rng_and ?_ ?_); (exact ⟨by omega, by omega⟩))
  | ((with_reducible refine len_and ?_ ?_); (walk_at "dlen"))
  | ((with_reducible refine le_and ?_ ?_); (walk_at "dlen"))
  | ((with_reducible refine okc_and ?_ ?_); (walk_at "dok"))
  | ((with_reducible refine ite_t ?_ ?_); (exact rfl))
  | ((with_reducible refine ite_f ?_ ?_); (exact rfl))
  | ((with_reducible refine ite_t ?_ ?_); (with_reducible assumption))
  | ((with_reducible refine ite_f ?_ ?_); (with_reducible assumption))
  | walk_at "dk"
  | refine ⟨_, rfl, ?_⟩
  | refine ⟨_, _, rfl, rfl, ?_⟩
  | refine ⟨_, _, rfl, ⟨by with_reducible assumption, rfl⟩, ?_⟩
  | refine ⟨_, _, rfl, ?_⟩
  | refine ⟨_, _, _, rfl, ?_⟩
  | refine ⟨_, ⟨sz rfl, _, rfl, rfl⟩, ?_⟩
  | refine ⟨_, ⟨sz rfl, rfl⟩, ?_⟩
  | refine .inl ⟨_, rfl, ?_⟩
  | refine .inr ⟨_, rfl, ?_⟩
  | refine ⟨_, _, _, _, rfl, rfl, ?_⟩)

section
variable {P : Program} {w : World} {K : PySem.W.Frag} {mg : Str → Option Value} {base : Heap}
theorem fn_ok {tb : List (Str × Nat)} {x qual : Str} {st : Stmt} {f : Addr} {fd : FuncData} {N ps : List Str} {k : Nat} {n : Nat} {names : List (Str × NameKind)} {B : Spec} (F : Fun K x qual st f fd) (Sc : FnScope N ps (defScope st)) (hn : ps.length = n) (hnm : (defScope st).names = names) (ht : tbOk N tb = true)
    (body : ∀ X, At X P w K mg base tb names k → ∀ ds S Φ, ds.length = n → B ds S Φ → DSs X (defBody st) (ds.map some ++ List.replicate (N.length - ds.length) none) S { nx := fun _ S' => RetP S Φ .non S', rt := RetP S Φ }) : FnOk P w K mg base CX0 (k + 1) f fd ps (spOf K n B) := by
  refine F.ok Sc (fun vs H Q E h => by rw [h.1, hn]) (fun cdv A outer s H vs Q E hr h => ?_)
  obtain ⟨hl, Zh, ds, S, Φ, hS, hR, hB, hP⟩ := h
  have hat := at_def (P := P) (w := w) (K := K) (mg := mg) (base := base) (qual := qual) (f := f) (cd := cdv) (A := A) (outer := outer) (s := s) (H := H) (E := E) (tbOk_of ht) (tbOk_cov ht) Sc hr
  rw [hnm] at hat
  have b := body _ hat ds S Φ (by rw [← hR.length]; exact hl) hB
  refine ⟨_, pss_w, b.tw (ev_start hS hR) ?_⟩
  have fin : ∀ v H' d S', Step S H S' H' → Store K Zh H' S' → Rep K (keys S' ++ Zh) H' d v → RetP S Φ d S' → Q v H' := fun v H' d S' t s' r q => by
    have sub : ∀ {S2 R : Sto}, keys S2 = keys S → ∀ p, p ∈ keys S ++ Zh → p ∈ keys (S2 ++ R) ++ Zh := fun {S2 R} h p m => by
      rw [keys_append, h]
      rcases List.mem_append.mp m with z | z
      · exact List.mem_append_left _ (List.mem_append_left _ z)
      · exact List.mem_append_right _ z
    cases q with
    | mk h q =>
      rename_i S2 R
      exact hP v H' d S2 h t.1 s'.drop (r.shrink (sub h)) q
    | cell h m q =>
      rename_i p l S2 R
      obtain ⟨vs, h1, h2⟩ := s'.st p l (List.mem_append_right _ m)
      refine hP v H' (.lst l) S2 h t.1 s'.drop ?_ q
      rw [r.cell]
      unfold Rep
      refine ⟨p, vs, rfl, fun n => ?_, h1, h2.shrink (sub h)⟩
      have pk : p ∈ keys (S2 ++ R) := by
        rw [keys_append]
        exact List.mem_append_right _ (List.mem_map.mpr ⟨_, m, rfl⟩)
      rcases List.mem_append.mp n with z | z
      · have nd := s'.nd
        rw [keys_append, List.nodup_append] at nd
        exact nd.2.2 p (by rw [h]; exact z) p (List.mem_map.mpr ⟨_, m, rfl⟩) rfl
      · exact (s'.hid p z).1 pk
  exact ⟨fun σ' H' ρ' S' t ev q => fin .non H' .non S' t ev.st rep_non q, fin, fun _ _ _ _ _ _ q => q.elim, fun _ _ _ _ _ _ q => q.elim⟩
end
theorem sc_law : FnScope ["script", "tin", "one", "short_so", "word_so", "quarters_so", "spun_so", "flipped_so", "trail_so", "adds_so", "x", "letter_so", "y", "due", "got", "k"] ["script"] (defScope (topS 38)) := ⟨rfl, rfl, rfl, by decide +kernel, rfl, by decide +kernel, by decide +kernel⟩
theorem ok_law {P : Program} {w : World} {K : PySem.W.Frag} {mg : Str → Option Value} {base : Heap} {f : Addr} {fd : FuncData} (M : Mod K w mg) (F : Fun K "law" "law" (topS 38) f fd) : FnOk P w K mg base CX0 8 f fd ["script"] (spOf K 1 cLaw) := by
  have d__law_box := ok__law_box (P := P) (w := w) (base := base) M
  have d__law_cells := ok__law_cells (P := P) (w := w) (base := base) M
  have d__law_word := ok__law_word (P := P) (w := w) (base := base) M
  have d__law_take := ok__law_take (P := P) (w := w) (base := base) M
  have d__law_hat := ok__law_hat (P := P) (w := w) (base := base) M
  refine fn_ok (n := 1) (B := cLaw) (tb := tb_law) F sc_law rfl (names := nm_law) rfl (by decide +kernel) fun X A ds S Φ hl h => ?_
  have G := M.nob
  have v_script := A.var "script" 0 (by decide +kernel)
  have s_script := A.stv "script" 0 (by decide +kernel)
  have l_script := A.lcv "script" 0 (by decide +kernel)
  have v_tin := A.var "tin" 1 (by decide +kernel)
  have s_tin := A.stv "tin" 1 (by decide +kernel)
  have l_tin := A.lcv "tin" 1 (by decide +kernel)
  have v_one := A.var "one" 2 (by decide +kernel)
  have s_one := A.stv "one" 2 (by decide +kernel)
  have l_one := A.lcv "one" 2 (by decide +kernel)
  have v_short_so := A.var "short_so" 3 (by decide +kernel)
  have s_short_so := A.stv "short_so" 3 (by decide +kernel)
  have l_short_so := A.lcv "short_so" 3 (by decide +kernel)
  have v_word_so := A.var "word_so" 4 (by decide +kernel)
  have s_word_so := A.stv "word_so" 4 (by decide +kernel)
  have l_word_so := A.lcv "word_so" 4 (by decide +kernel)
  have v_quarters_so := A.var "quarters_so" 5 (by decide +kernel)
  have s_quarters_so := A.stv "quarters_so" 5 (by decide +kernel)
  have v_spun_so := A.var "spun_so" 6 (by decide +kernel)
  have s_spun_so := A.stv "spun_so" 6 (by decide +kernel)
  have l_spun_so := A.lcv "spun_so" 6 (by decide +kernel)
  have v_flipped_so := A.var "flipped_so" 7 (by decide +kernel)
  have s_flipped_so := A.stv "flipped_so" 7 (by decide +kernel)
  have l_flipped_so := A.lcv "flipped_so" 7 (by decide +kernel)
  have v_trail_so := A.var "trail_so" 8 (by decide +kernel)
  have s_trail_so := A.stv "trail_so" 8 (by decide +kernel)
  have l_trail_so := A.lcv "trail_so" 8 (by decide +kernel)
  have v_adds_so := A.var "adds_so" 9 (by decide +kernel)
  have s_adds_so := A.stv "adds_so" 9 (by decide +kernel)
  have l_adds_so := A.lcv "adds_so" 9 (by decide +kernel)
  have v_x := A.var "x" 10 (by decide +kernel)
  have s_x := A.stv "x" 10 (by decide +kernel)
  have l_x := A.lcv "x" 10 (by decide +kernel)
  have v_letter_so := A.var "letter_so" 11 (by decide +kernel)
  have s_letter_so := A.stv "letter_so" 11 (by decide +kernel)
  have l_letter_so := A.lcv "letter_so" 11 (by decide +kernel)
  have v_y := A.var "y" 12 (by decide +kernel)
  have s_y := A.stv "y" 12 (by decide +kernel)
  have l_y := A.lcv "y" 12 (by decide +kernel)
  have v_due := A.var "due" 13 (by decide +kernel)
  have s_due := A.stv "due" 13 (by decide +kernel)
  have l_due := A.lcv "due" 13 (by decide +kernel)
  have v_got := A.var "got" 14 (by decide +kernel)
  have s_got := A.stv "got" 14 (by decide +kernel)
  have l_got := A.lcv "got" 14 (by decide +kernel)
  have g__law_box := A.glo "_law_box" (by decide +kernel)
  have g__law_cells := A.glo "_law_cells" (by decide +kernel)
  have g__law_word := A.glo "_law_word" (by decide +kernel)
  have g__law_take := A.glo "_law_take" (by decide +kernel)
  have g__law_hat := A.glo "_law_hat" (by decide +kernel)
  have g_sum := A.glo "sum" (by decide +kernel)
  have g_is_route := A.glo "is_route" (by decide +kernel)
  have g_deed_of := A.glo "deed_of" (by decide +kernel)
  have g_corners_of := A.glo "corners_of" (by decide +kernel)
  have g_squares_beside := A.glo "squares_beside" (by decide +kernel)
  have g_is_closed := A.glo "is_closed" (by decide +kernel)
  have g__law_same := A.glo "_law_same" (by decide +kernel)
  have g_tuple := A.glo "tuple" (by decide +kernel)
  have g_turned_route := A.glo "turned_route" (by decide +kernel)
  have g_mirrored_route := A.glo "mirrored_route" (by decide +kernel)
  have g_walked_back := A.glo "walked_back" (by decide +kernel)
  have g_read_back := A.glo "read_back" (by decide +kernel)
  have g_bare := A.glo "bare" (by decide +kernel)
  have g__law_bare := A.glo "_law_bare" (by decide +kernel)
  have g__law_join := A.glo "_law_join" (by decide +kernel)
  have g__law_do := A.glo "_law_do" (by decide +kernel)
  have g_area_inside := A.glo "area_inside" (by decide +kernel)
  obtain ⟨is, rfl, hlen, rfl, h⟩ := h
  (change DSs X _ [some (.frz (is.map D.int)), none, none, none, none, none, none, none, none, none, none, none, none, none, none, none] _ _; (first | refine ds_one ?_ | refine ds_cons ?_))
  refine vCell A (by assumption) ?_ ?_
  exact rfl
  refine vNCall A d__law_box (by assumption) rfl rfl rfl ?_
  repeat walk_at "dw"
  refine ⟨by decide, by decide, hlen, fun js hj => ?_⟩
  repeat walk_at "dw"
  refine ⟨by decide, by decide, by omega, fun l0 ht0 => ?_⟩
  intro c
  rw [List.nil_append]
  (with_reducible apply nx_norm)
  walk_at "dnorm"
  with_reducible refine nx_mk ?_
  refine ds_cons ?_
  repeat walk_at "dw"
  intro n1 l1 n10 n11 ht1
  repeat walk_at "dw"
  refine cWordW_i ht1 (by omega) n10 (by omega) ?_
  intro es l2 hes hel ht2
  repeat walk_at "dw"
  intro n2 l3 n20 n21 ht3
  repeat walk_at "dw"
  refine cWordW_i ht3 (by omega) (by omega) (by omega) ?_
  intro ss l4 hss hsl ht4
  have hes1 : es.length ≤ 40 := by omega
  have hss1 : ss.length ≤ 6 := by omega
  have hss2 : ss.length ≤ 1000 := by omega
  have hes2 : es.length ≤ 1000 := by omega
  have hh := letW_spin 2 (letW_rev hss)
  have hhl : (ss.reverse.map (spinN 2)).length = ss.length := by rw [List.length_map, List.length_reverse]
  have hc1 : (wd ss).length + (wd (ss.reverse.map (spinN 2))).length ≤ sizeLine := by
    rw [wd_len, wd_len]
    exact le_line (m := 1000) (by omega) rfl
  have hm5 := (mul_wd (cs := ss) (n := 5) (by decide) (by decide) hss2).1
  have he5 := (mul_wd (cs := ss) (n := 5) (by decide) (by decide) hss2).2
  repeat walk_at "dw"
  refine ds_for A (fun _ => rfl) ?_
  refine di_tup ?_
  repeat walk_at "dw"
  refine cWordW_i ht4 (by omega) (by decide) (by decide) ?_
  intro ts l5 hts htl ht5
  have htl2 : ts.length = 3 := by omega
  have hc2 : (wd es).length + (wd ts).length ≤ sizeLine := by
    rw [wd_len, wd_len]
    exact le_line (m := 1000) (by omega) rfl
  repeat walk_at "dw"
  intro n3 l6 n30 n31 ht6
  have hm9 : MulOk (Str.ofString "ruld") (1 + n3) := (mul_wd (cs := [114, 117, 108, 100]) (n := 1 + n3) (by omega) (by omega) (by decide)).1
  have he9 : Txt.mul (Str.ofString "ruld") (1 + n3) = wd (repW (1 + n3).toNat [114, 117, 108, 100]) := (mul_wd (cs := [114, 117, 108, 100]) (n := 1 + n3) (by omega) (by omega) (by decide)).2
  repeat walk_at "dw"
  refine for_ind (fun ds ρ S' => (∀ d, d ∈ ds → ∃ cs, d = .str (wd cs) ∧ LetW cs ∧ cs.length ≤ 100) ∧ ∃ (b : Nat) (l' : List D) (w4 w5 w6 w7 w8 w9 w10 w11 w12 w13 w14 w15 : Option D), Tin b l' ∧ b + 2 * ds.length ≤ 500 ∧ S' = (c, l') :: [] ∧ ρ = [some (.frz (is.map D.int)), some (.cell c), some (.str (wd es)), some (.str (wd ss)), w4, w5, w6, w7, w8, w9, w10, w11, w12, w13, w14, w15]) ?_ ?_ ?_
  · rintro d ds ρ S' ⟨hd, b, l1, w4, w5, w6, w7, w8, w9, w10, w11, w12, w13, w14, w15, ht, hb, rfl, rfl⟩
    obtain ⟨cs, rfl, hw, hz⟩ := hd _ List.mem_cons_self
    rw [List.length_cons] at hb
    refine vG A (by assumption) rfl ?_
    (with_reducible apply nxG_norm)
    walk_at "dnorm"
    refine seg_A (es := []) (q := 0) M A hw hz ht (by omega) (fun q lt ht1 => ?_)
    refine seg_B (b := 0) (es := []) (q := 0) M A hw hz (fun w10 w11 w12 => ?_)
    refine seg_C (b := 0) (es := []) (q := 0) M A hw hz (fun w14 => ?_)
    refine seg_D (b := 0) (es := []) M A hw hz (fun w14 => ?_)
    refine seg_E (b := 0) (q := 0) M A hw hz hes (by omega) (fun w14 => ?_)
    exact .mk ⟨fun d hd2 => hd d (List.mem_cons_of_mem _ hd2), _, lt, _, _, _, _, _, _, _, _, _, _, _, _, ht1, by omega, rfl, rfl⟩
  · rintro ρ S' ⟨hd, b, l1, w4, w5, w6, w7, w8, w9, w10, w11, w12, w13, w14, w15, ht, hb, rfl, rfl⟩
    repeat walk_at "dw"
    exact RetP.mk (S2 := []) (R := _) rfl (h _)
  · refine ⟨fun d hd => ?_, _, l6, _, _, _, _, _, _, _, _, _, _, _, _, ht6, by simp only [List.length_cons, List.length_nil]; omega, rfl, rfl⟩
    simp only [List.mem_cons, List.not_mem_nil, or_false] at hd
    rcases hd with rfl | rfl | rfl | rfl | rfl | rfl
    · exact ⟨es, rfl, hes, by omega⟩
    · exact ⟨_, rfl, hss.append hh, by rw [List.length_append, hhl]; omega⟩
    · exact ⟨_, congrArg D.str he5, repW_ltr hss, by rw [repW_len]; show 5 * ss.length ≤ 100; omega⟩
    · exact ⟨_, rfl, hes.append hts, by rw [List.length_append]; omega⟩
    · exact ⟨[], rfl, (by intro c hc; cases hc), by decide⟩
    · exact ⟨_, congrArg D.str he9, repW_ltr (by intro c hc; simpa [Ltr] using hc), by rw [repW_len]; show (1 + n3).toNat * 4 ≤ 100; omega⟩

end Ar
namespace Ar
open PySem PySem.Spec PyProof.Rows L2


theorem has_mk {K : PySem.W.Frag} {h : Heap} {mg : Str → Option Value} {x : Str} {st : Stmt} {f : Addr} {ps : List Str} {od an : Option Addr} {sl : Array (Option Value)} {oc kV dc pm cd ct : Value} (X : K.In h) (G : h.Ns mainGlobals mg)
    (a : PySem.W.nsIn K mainGlobals x = some (some (.ref f))) (l : K.lookup f = some ⟨oc, od, .func (PySem.W.fnOf x x (defArgs st) (defBody st) (defScope st) .none kV dc pm an cd ct), sl⟩) (c : PySem.W.codeIn K cd x = true) (k : PySem.W.keepIn K (.ref f) = true)
    (b : ∀ (kV doc pm : Value) (an : Option Addr) (cdv ct : Value) (us : List Value), us.length = ps.length → bindArgs (PySem.W.fnOf x x (defArgs st) (defBody st) (defScope st) .none kV doc pm an cdv ct) ⟨us, []⟩ = pure (ps.zip us)) : Has K mg x st ps := by
  have F := fun_mk (st := st) l c k
  exact ⟨f, _, F, PySem.W.mg_of X G a, F.binds b⟩
theorem law_mk {K : PySem.W.Frag} {h : Heap} {mg : Str → Option Value} {x : Str} {st : Stmt} {f fa : Addr} {od an : Option Addr} {sl : Array (Option Value)} {oc kV dc pm cd ct : Value} (X : K.In h) (G : h.Ns mainGlobals mg) (hmg : mg x = some (.ref fa))
    (a : PySem.W.nsIn K mainGlobals x = some (some (.ref f))) (l : K.lookup f = some ⟨oc, od, .func (PySem.W.fnOf x x (defArgs st) (defBody st) (defScope st) .none kV dc pm an cd ct), sl⟩) (c : PySem.W.codeIn K cd x = true) (k : PySem.W.keepIn K (.ref f) = true)
    (b : ∀ (kV doc pm : Value) (an : Option Addr) (cdv ct : Value) (us : List Value), us.length = 1 → bindArgs (PySem.W.fnOf x x (defArgs st) (defBody st) (defScope st) .none kV doc pm an cdv ct) ⟨us, []⟩ = pure ((["script"] : List Str).zip us)) : ∃ fd, Fun K x x st fa fd ∧ ∀ (s : Shared) (u : Value), BindsTo s fd ⟨[u], []⟩ [("script", u)] := by
  have e := (PySem.W.mg_of X G a).symm.trans hmg
  cases e
  exact ⟨_, fun_mk (st := st) l c k, fun s u => .of_eq (b kV dc pm an cd ct [u] rfl)⟩
theorem Fun_has {K : PySem.W.Frag} {mg : Str → Option Value} {x : Str} {st : Stmt} {fa : Addr} {fd : FuncData} (F : Fun K x x st fa fd) (hmg : mg x = some (.ref fa)) (b : ∀ (s : Shared) (u : Value), BindsTo s fd ⟨[u], []⟩ [("script", u)]) : Has K mg x st ["script"] :=
  ⟨fa, fd, F, hmg, fun s us _ hl => by
    match us, hl with
    | [u], _ => exact b s u⟩
theorem glob_t3 {K : PySem.W.Frag} {h : Heap} {mg : Str → Option Value} {x : Str} {p : Addr} {od : Option Addr} {sl : Array (Option Value)} {i j k : Int} {t1 t2 t3' : Tok} {n : Nat} (X : K.In h) (G : h.Ns mainGlobals mg) (a : PySem.W.nsIn K mainGlobals x = some (some (.ref p)))
    (l : K.lookup p = some ⟨.type "tuple", od, .seq #[.int i t1, .int j t2, .int k t3'] n, sl⟩) : GlobD K mg x (t3 i j k) := by
  refine ⟨_, .ref p, PySem.W.mg_of X G a, rfl, fun Z H => ?_⟩
  unfold Rep
  exact ⟨p, [.int i, .int j, .int k], rfl, .inr ⟨_, _, n, l, rfl, rfl, sz rfl, .cons ⟨_, rfl⟩ (.cons ⟨_, rfl⟩ (.cons ⟨_, rfl⟩ .nil))⟩, .cons rep_int (.cons rep_int (.cons rep_int .nil))⟩
theorem rep_t3 {K : PySem.W.Frag} {q : Addr} {od : Option Addr} {sl : Array (Option Value)} {i j k : Int} {t u v : Tok} {n : Nat} (l : K.lookup q = some ⟨.type "tuple", od, .seq #[.int i t, .int j u, .int k v] n, sl⟩) (Z : List Addr) (H : Hp) : Rep K Z H (t3 i j k) (.ref q) := by
  unfold Rep
  exact ⟨q, [.int i, .int j, .int k], rfl, .inr ⟨_, _, n, l, rfl, rfl, sz rfl, .cons ⟨_, rfl⟩ (.cons ⟨_, rfl⟩ (.cons ⟨_, rfl⟩ .nil))⟩, .cons rep_int (.cons rep_int (.cons rep_int .nil))⟩
theorem glob_mp {K : PySem.W.Frag} {h : Heap} {mg : Str → Option Value} {x : Str} {p q1 q2 : Addr} {od od1 od2 : Option Addr} {sl sl1 sl2 : Array (Option Value)} {i j k i' j' k' : Int} {a1 a2 a3 b1 b2 b3 : Tok} {n n1 n2 : Nat} (X : K.In h) (G : h.Ns mainGlobals mg) (a : PySem.W.nsIn K mainGlobals x = some (some (.ref p)))
    (l : K.lookup p = some ⟨.type "tuple", od, .seq #[.ref q1, .ref q2] n, sl⟩) (l1 : K.lookup q1 = some ⟨.type "tuple", od1, .seq #[.int i a1, .int j a2, .int k a3] n1, sl1⟩) (l2 : K.lookup q2 = some ⟨.type "tuple", od2, .seq #[.int i' b1, .int j' b2, .int k' b3] n2, sl2⟩) : GlobD K mg x (.tup [t3 i j k, t3 i' j' k']) := by
  refine ⟨_, .ref p, PySem.W.mg_of X G a, rfl, fun Z H => ?_⟩
  unfold Rep
  exact ⟨p, [.ref q1, .ref q2], rfl, .inr ⟨_, _, n, l, rfl, rfl, sz rfl, .cons rfl (.cons rfl .nil)⟩, .cons (rep_t3 l1 Z H) (.cons (rep_t3 l2 Z H) .nil)⟩
theorem glob_int {K : PySem.W.Frag} {h : Heap} {mg : Str → Option Value} {x : Str} {i : Int} {t : Tok} (X : K.In h) (G : h.Ns mainGlobals mg) (a : PySem.W.nsIn K mainGlobals x = some (some (.int i t))) : GlobD K mg x (.int i) := ⟨_, .int i, PySem.W.mg_of X G a, ⟨_, rfl⟩, fun Z H => rep_int⟩
theorem glob_str {K : PySem.W.Frag} {h : Heap} {mg : Str → Option Value} {x i : Str} {t : Tok} (X : K.In h) (G : h.Ns mainGlobals mg) (a : PySem.W.nsIn K mainGlobals x = some (some (.str i t))) : GlobD K mg x (.str i) := ⟨_, .str i, PySem.W.mg_of X G a, ⟨_, rfl⟩, fun Z H => rep_str⟩
theorem nob_mk {K : PySem.W.Frag} {h : Heap} {mg : Str → Option Value} (X : K.In h) (G : h.Ns mainGlobals mg) (z : ∀ x, x ∈ (["len", "abs", "int", "isinstance", "all", "any", "sum", "tuple", "list", "range", "zip", "enumerate", "bool", "str", "min", "max", "sorted", "divmod", "set", "dict", "pow", "ord", "chr", "reversed", "type"] : List Str) → PySem.W.nsIn K mainGlobals x = some none) : NoB mg := ⟨fun x hx => PySem.W.mg_none_of X G (z x (by
  unfold bltB at hx
  simp only [Bool.or_eq_true, beq_iff_eq] at hx
  simp only [List.mem_cons, List.not_mem_nil, or_false]
  simp only [or_assoc] at hx
  exact hx))⟩


theorem rep_pair {K : PySem.W.Frag} {q : Addr} {od : Option Addr} {sl : Array (Option Value)} {i j : Int} {t u : Tok} {n : Nat} (l : K.lookup q = some ⟨.type "tuple", od, .seq #[.int i t, .int j u] n, sl⟩) (Z : List Addr) (H : Hp) : Rep K Z H (.tup [.int i, .int j]) (.ref q) := by
  unfold Rep
  exact ⟨q, [.int i, .int j], rfl, .inr ⟨_, _, n, l, rfl, rfl, sz rfl, .cons ⟨_, rfl⟩ (.cons ⟨_, rfl⟩ .nil)⟩, .cons rep_int (.cons rep_int .nil)⟩
theorem dict_steps {K : PySem.W.Frag} {w : World} {h : Heap} {mg : Str → Option Value} {p : Addr} {es : Array DictEntry} {q1 q2 q3 q4 : Nat} {od1 od2 od3 od4 : Option Addr} {sl1 sl2 sl3 sl4 : Array (Option Value)} {t1 t2 t3 t4 u1 u2 u3 u4 : Tok} {n1 n2 n3 n4 m : Nat} (X : K.In h) (G : h.Ns mainGlobals mg) (a : PySem.W.nsIn K mainGlobals "STEPS" = some (some (.ref p)))
    (l : K.lookup p = some ⟨.type "dict", none, .dict es m, #[]⟩) (hk : PySem.W.KeysLit w.params es.toList)
    (r1 : PySem.W.nsIn K p "r" = some (some (.ref q1))) (l1 : K.lookup q1 = some ⟨.type "tuple", od1, .seq #[.int 1 t1, .int 0 u1] n1, sl1⟩) (r2 : PySem.W.nsIn K p "u" = some (some (.ref q2))) (l2 : K.lookup q2 = some ⟨.type "tuple", od2, .seq #[.int 0 t2, .int 1 u2] n2, sl2⟩) (r3 : PySem.W.nsIn K p "l" = some (some (.ref q3))) (l3 : K.lookup q3 = some ⟨.type "tuple", od3, .seq #[.int (-1) t3, .int 0 u3] n3, sl3⟩) (r4 : PySem.W.nsIn K p "d" = some (some (.ref q4))) (l4 : K.lookup q4 = some ⟨.type "tuple", od4, .seq #[.int 0 t4, .int (-1) u4] n4, sl4⟩) : DictG K w mg "STEPS" stepF := by
  refine ⟨p, PySem.W.mg_of X G a, fun z d hz => ?_⟩
  obtain ⟨⟨zs⟩⟩ := z
  unfold stepF at hz
  dsimp only at hz
  split at hz
  · cases hz
    exact ⟨.ref q1, ⟨es, m, _, l, hk, r1, rfl⟩, rep_pair l1⟩
  · cases hz
    exact ⟨.ref q2, ⟨es, m, _, l, hk, r2, rfl⟩, rep_pair l2⟩
  · cases hz
    exact ⟨.ref q3, ⟨es, m, _, l, hk, r3, rfl⟩, rep_pair l3⟩
  · cases hz
    exact ⟨.ref q4, ⟨es, m, _, l, hk, r4, rfl⟩, rep_pair l4⟩
  · cases hz


theorem dict_mir {K : PySem.W.Frag} {w : World} {h : Heap} {mg : Str → Option Value} {p : Addr} {es : Array DictEntry} {y1 y2 y3 y4 : Str} {t1 t2 t3 t4 : Tok} {m : Nat} (X : K.In h) (G : h.Ns mainGlobals mg) (a : PySem.W.nsIn K mainGlobals "MIRRORED" = some (some (.ref p)))
    (l : K.lookup p = some ⟨.type "dict", none, .dict es m, #[]⟩) (hk : PySem.W.KeysLit w.params es.toList)
    (r1 : PySem.W.nsIn K p "r" = some (some (.str y1 t1))) (e1 : y1 = ⟨#[108]⟩) (r2 : PySem.W.nsIn K p "u" = some (some (.str y2 t2))) (e2 : y2 = ⟨#[117]⟩) (r3 : PySem.W.nsIn K p "l" = some (some (.str y3 t3))) (e3 : y3 = ⟨#[114]⟩) (r4 : PySem.W.nsIn K p "d" = some (some (.str y4 t4))) (e4 : y4 = ⟨#[100]⟩) : DictG K w mg "MIRRORED" mirF := by
  subst e1 e2 e3 e4
  refine ⟨p, PySem.W.mg_of X G a, fun z d hz => ?_⟩
  obtain ⟨⟨zs⟩⟩ := z
  unfold mirF at hz
  dsimp only at hz
  split at hz
  · cases hz
    exact ⟨.str ⟨#[108]⟩, ⟨es, m, _, l, hk, r1, ⟨_, rfl⟩⟩, fun _ _ => rep_str⟩
  · cases hz
    exact ⟨.str ⟨#[117]⟩, ⟨es, m, _, l, hk, r2, ⟨_, rfl⟩⟩, fun _ _ => rep_str⟩
  · cases hz
    exact ⟨.str ⟨#[114]⟩, ⟨es, m, _, l, hk, r3, ⟨_, rfl⟩⟩, fun _ _ => rep_str⟩
  · cases hz
    exact ⟨.str ⟨#[100]⟩, ⟨es, m, _, l, hk, r4, ⟨_, rfl⟩⟩, fun _ _ => rep_str⟩
  · cases hz

end Ar
namespace Ar
open PySem PySem.Spec PyProof.Rows L2


theorem law_spec {K : PySem.W.Frag} {H : Hp} {a : Addr} {ns : List Int} (hl : ns.length ≤ 63) (hS : SqL K H a (ns.map V.int)) : spOf K 1 cLaw [.ref a] H (fun v _ => v = .bl true) fun _ _ _ => False := by
  refine ⟨rfl, [], [.frz (ns.map D.int)], [], fun d _ => d = .bl true, ⟨List.nodup_nil, (by intro p l h; cases h), (by intro p h; cases h)⟩, .one ?_, ⟨ns, rfl, hl, rfl, fun _ => rfl⟩, fun v H' d S' _ _ _ r q => by subst q; exact r.bl⟩
  unfold Rep
  exact ⟨a, ns.map V.int, rfl, hS.imp (fun h => ⟨(by intro m; cases m), h⟩) id, RepL.of_ints ns⟩
end Ar
open PySem PySem.W PyProof.Rows in
set_option maxRecDepth 100000 in
set_option maxHeartbeats 0 in
theorem PySem.Challenge.cw_arearoutes_k01_whole_routes_and_what_the_holds : PySem.Challenge.rw_arearoutes_k01_whole_routes_and_what_the.Holds := by
  w_on; o_law; k_head; (case hw => w_witness2)
  k_fill
  refine L2.walk_of (l := PySem.Challenge.rw_arearoutes_k01_whole_routes_and_what_the) (n := 63) (k := 8) (x := "script") (CX := fun _ => L2.CX0) (sp := fun w => Ar.spOf _ 1 Ar.cLaw) rfl (by decide) rfl ⟨rfl, by decide, by decide⟩ (fun w h Y => PySem.W.kIn_of Y) ?F (fun _ _ a ns hl _ hS => Ar.law_spec hl hS) (fun _ _ _ _ _ z => z)
  case F =>
    intro w mg fa h KX G hmg
    change mg "law" = some (.ref fa) at hmg
    have z_len : PySem.W.nsIn (L2.KOf KX) PySem.mainGlobals "len" = some none := by delta L2.KOf; k_is
    have z_abs : PySem.W.nsIn (L2.KOf KX) PySem.mainGlobals "abs" = some none := by delta L2.KOf; k_is
    have z_int : PySem.W.nsIn (L2.KOf KX) PySem.mainGlobals "int" = some none := by delta L2.KOf; k_is
    have z_isinstance : PySem.W.nsIn (L2.KOf KX) PySem.mainGlobals "isinstance" = some none := by delta L2.KOf; k_is
    have z_all : PySem.W.nsIn (L2.KOf KX) PySem.mainGlobals "all" = some none := by delta L2.KOf; k_is
    have z_any : PySem.W.nsIn (L2.KOf KX) PySem.mainGlobals "any" = some none := by delta L2.KOf; k_is
    have z_sum : PySem.W.nsIn (L2.KOf KX) PySem.mainGlobals "sum" = some none := by delta L2.KOf; k_is
    have z_tuple : PySem.W.nsIn (L2.KOf KX) PySem.mainGlobals "tuple" = some none := by delta L2.KOf; k_is
    have z_list : PySem.W.nsIn (L2.KOf KX) PySem.mainGlobals "list" = some none := by delta L2.KOf; k_is
    have z_range : PySem.W.nsIn (L2.KOf KX) PySem.mainGlobals "range" = some none := by delta L2.KOf; k_is
    have z_zip : PySem.W.nsIn (L2.KOf KX) PySem.mainGlobals "zip" = some none := by delta L2.KOf; k_is
    have z_enumerate : PySem.W.nsIn (L2.KOf KX) PySem.mainGlobals "enumerate" = some none := by delta L2.KOf; k_is
    have z_bool : PySem.W.nsIn (L2.KOf KX) PySem.mainGlobals "bool" = some none := by delta L2.KOf; k_is
    have z_str : PySem.W.nsIn (L2.KOf KX) PySem.mainGlobals "str" = some none := by delta L2.KOf; k_is
    have z_min : PySem.W.nsIn (L2.KOf KX) PySem.mainGlobals "min" = some none := by delta L2.KOf; k_is
    have z_max : PySem.W.nsIn (L2.KOf KX) PySem.mainGlobals "max" = some none := by delta L2.KOf; k_is
    have z_sorted : PySem.W.nsIn (L2.KOf KX) PySem.mainGlobals "sorted" = some none := by delta L2.KOf; k_is
    have z_divmod : PySem.W.nsIn (L2.KOf KX) PySem.mainGlobals "divmod" = some none := by delta L2.KOf; k_is
    have z_set : PySem.W.nsIn (L2.KOf KX) PySem.mainGlobals "set" = some none := by delta L2.KOf; k_is
    have z_dict : PySem.W.nsIn (L2.KOf KX) PySem.mainGlobals "dict" = some none := by delta L2.KOf; k_is
    have z_pow : PySem.W.nsIn (L2.KOf KX) PySem.mainGlobals "pow" = some none := by delta L2.KOf; k_is
    have z_ord : PySem.W.nsIn (L2.KOf KX) PySem.mainGlobals "ord" = some none := by delta L2.KOf; k_is
    have z_chr : PySem.W.nsIn (L2.KOf KX) PySem.mainGlobals "chr" = some none := by delta L2.KOf; k_is
    have z_reversed : PySem.W.nsIn (L2.KOf KX) PySem.mainGlobals "reversed" = some none := by delta L2.KOf; k_is
    have z_type : PySem.W.nsIn (L2.KOf KX) PySem.mainGlobals "type" = some none := by delta L2.KOf; k_is
    have h_is_number : Ar.Has (L2.KOf KX) mg "is_number" (Ar.topS 4) ["thing"] := by
      delta L2.KOf
      refine' Ar.has_mk KX G ?a ?l ?c ?k ?b
      (case a => k_is)
      (case l => k_is)
      (case c => k_is)
      (case k => k_is)
      (case b => exact fun _ _ _ _ _ _ us hl => match us, hl with | [_], _ => rfl)
    have h_sure_number : Ar.Has (L2.KOf KX) mg "sure_number" (Ar.topS 5) ["value"] := by
      delta L2.KOf
      refine' Ar.has_mk KX G ?a ?l ?c ?k ?b
      (case a => k_is)
      (case l => k_is)
      (case c => k_is)
      (case k => k_is)
      (case b => exact fun _ _ _ _ _ _ us hl => match us, hl with | [_], _ => rfl)
    have h_is_route : Ar.Has (L2.KOf KX) mg "is_route" (Ar.topS 10) ["thing"] := by
      delta L2.KOf
      refine' Ar.has_mk KX G ?a ?l ?c ?k ?b
      (case a => k_is)
      (case l => k_is)
      (case c => k_is)
      (case k => k_is)
      (case b => exact fun _ _ _ _ _ _ us hl => match us, hl with | [_], _ => rfl)
    have h_sure_route : Ar.Has (L2.KOf KX) mg "sure_route" (Ar.topS 11) ["value"] := by
      delta L2.KOf
      refine' Ar.has_mk KX G ?a ?l ?c ?k ?b
      (case a => k_is)
      (case l => k_is)
      (case c => k_is)
      (case k => k_is)
      (case b => exact fun _ _ _ _ _ _ us hl => match us, hl with | [_], _ => rfl)
    have h_turned_letter : Ar.Has (L2.KOf KX) mg "turned_letter" (Ar.topS 12) ["letter", "quarters"] := by
      delta L2.KOf
      refine' Ar.has_mk KX G ?a ?l ?c ?k ?b
      (case a => k_is)
      (case l => k_is)
      (case c => k_is)
      (case k => k_is)
      (case b => exact fun _ _ _ _ _ _ us hl => match us, hl with | [_, _], _ => rfl)
    have h_turned_in : Ar.Has (L2.KOf KX) mg "turned_in" (Ar.topS 13) ["route", "quarters"] := by
      delta L2.KOf
      refine' Ar.has_mk KX G ?a ?l ?c ?k ?b
      (case a => k_is)
      (case l => k_is)
      (case c => k_is)
      (case k => k_is)
      (case b => exact fun _ _ _ _ _ _ us hl => match us, hl with | [_, _], _ => rfl)
    have h_turned_route : Ar.Has (L2.KOf KX) mg "turned_route" (Ar.topS 14) ["route", "quarters"] := by
      delta L2.KOf
      refine' Ar.has_mk KX G ?a ?l ?c ?k ?b
      (case a => k_is)
      (case l => k_is)
      (case c => k_is)
      (case k => k_is)
      (case b => exact fun _ _ _ _ _ _ us hl => match us, hl with | [_, _], _ => rfl)
    have h_mirrored_route : Ar.Has (L2.KOf KX) mg "mirrored_route" (Ar.topS 15) ["route"] := by
      delta L2.KOf
      refine' Ar.has_mk KX G ?a ?l ?c ?k ?b
      (case a => k_is)
      (case l => k_is)
      (case c => k_is)
      (case k => k_is)
      (case b => exact fun _ _ _ _ _ _ us hl => match us, hl with | [_], _ => rfl)
    have h_back_in : Ar.Has (L2.KOf KX) mg "back_in" (Ar.topS 16) ["route"] := by
      delta L2.KOf
      refine' Ar.has_mk KX G ?a ?l ?c ?k ?b
      (case a => k_is)
      (case l => k_is)
      (case c => k_is)
      (case k => k_is)
      (case b => exact fun _ _ _ _ _ _ us hl => match us, hl with | [_], _ => rfl)
    have h_walked_back : Ar.Has (L2.KOf KX) mg "walked_back" (Ar.topS 17) ["route"] := by
      delta L2.KOf
      refine' Ar.has_mk KX G ?a ?l ?c ?k ?b
      (case a => k_is)
      (case l => k_is)
      (case c => k_is)
      (case k => k_is)
      (case b => exact fun _ _ _ _ _ _ us hl => match us, hl with | [_], _ => rfl)
    have h_read_back : Ar.Has (L2.KOf KX) mg "read_back" (Ar.topS 18) ["route"] := by
      delta L2.KOf
      refine' Ar.has_mk KX G ?a ?l ?c ?k ?b
      (case a => k_is)
      (case l => k_is)
      (case c => k_is)
      (case k => k_is)
      (case b => exact fun _ _ _ _ _ _ us hl => match us, hl with | [_], _ => rfl)
    have h_deed_in : Ar.Has (L2.KOf KX) mg "deed_in" (Ar.topS 19) ["route"] := by
      delta L2.KOf
      refine' Ar.has_mk KX G ?a ?l ?c ?k ?b
      (case a => k_is)
      (case l => k_is)
      (case c => k_is)
      (case k => k_is)
      (case b => exact fun _ _ _ _ _ _ us hl => match us, hl with | [_], _ => rfl)
    have h_deed_of : Ar.Has (L2.KOf KX) mg "deed_of" (Ar.topS 20) ["route"] := by
      delta L2.KOf
      refine' Ar.has_mk KX G ?a ?l ?c ?k ?b
      (case a => k_is)
      (case l => k_is)
      (case c => k_is)
      (case k => k_is)
      (case b => exact fun _ _ _ _ _ _ us hl => match us, hl with | [_], _ => rfl)
    have h_corners_of : Ar.Has (L2.KOf KX) mg "corners_of" (Ar.topS 21) ["route"] := by
      delta L2.KOf
      refine' Ar.has_mk KX G ?a ?l ?c ?k ?b
      (case a => k_is)
      (case l => k_is)
      (case c => k_is)
      (case k => k_is)
      (case b => exact fun _ _ _ _ _ _ us hl => match us, hl with | [_], _ => rfl)
    have h_is_closed : Ar.Has (L2.KOf KX) mg "is_closed" (Ar.topS 22) ["route"] := by
      delta L2.KOf
      refine' Ar.has_mk KX G ?a ?l ?c ?k ?b
      (case a => k_is)
      (case l => k_is)
      (case c => k_is)
      (case k => k_is)
      (case b => exact fun _ _ _ _ _ _ us hl => match us, hl with | [_], _ => rfl)
    have h_area_inside : Ar.Has (L2.KOf KX) mg "area_inside" (Ar.topS 23) ["route"] := by
      delta L2.KOf
      refine' Ar.has_mk KX G ?a ?l ?c ?k ?b
      (case a => k_is)
      (case l => k_is)
      (case c => k_is)
      (case k => k_is)
      (case b => exact fun _ _ _ _ _ _ us hl => match us, hl with | [_], _ => rfl)
    have h_squares_beside : Ar.Has (L2.KOf KX) mg "squares_beside" (Ar.topS 24) ["route"] := by
      delta L2.KOf
      refine' Ar.has_mk KX G ?a ?l ?c ?k ?b
      (case a => k_is)
      (case l => k_is)
      (case c => k_is)
      (case k => k_is)
      (case b => exact fun _ _ _ _ _ _ us hl => match us, hl with | [_], _ => rfl)
    have h_bare_in : Ar.Has (L2.KOf KX) mg "bare_in" (Ar.topS 25) ["route"] := by
      delta L2.KOf
      refine' Ar.has_mk KX G ?a ?l ?c ?k ?b
      (case a => k_is)
      (case l => k_is)
      (case c => k_is)
      (case k => k_is)
      (case b => exact fun _ _ _ _ _ _ us hl => match us, hl with | [_], _ => rfl)
    have h_bare : Ar.Has (L2.KOf KX) mg "bare" (Ar.topS 26) ["route"] := by
      delta L2.KOf
      refine' Ar.has_mk KX G ?a ?l ?c ?k ?b
      (case a => k_is)
      (case l => k_is)
      (case c => k_is)
      (case k => k_is)
      (case b => exact fun _ _ _ _ _ _ us hl => match us, hl with | [_], _ => rfl)
    have h__law_box : Ar.Has (L2.KOf KX) mg "_law_box" (Ar.topS 28) ["script", "k"] := by
      delta L2.KOf
      refine' Ar.has_mk KX G ?a ?l ?c ?k ?b
      (case a => k_is)
      (case l => k_is)
      (case c => k_is)
      (case k => k_is)
      (case b => exact fun _ _ _ _ _ _ us hl => match us, hl with | [_, _], _ => rfl)
    have h__law_take : Ar.Has (L2.KOf KX) mg "_law_take" (Ar.topS 29) ["tin", "below_so"] := by
      delta L2.KOf
      refine' Ar.has_mk KX G ?a ?l ?c ?k ?b
      (case a => k_is)
      (case l => k_is)
      (case c => k_is)
      (case k => k_is)
      (case b => exact fun _ _ _ _ _ _ us hl => match us, hl with | [_, _], _ => rfl)
    have h__law_cells : Ar.Has (L2.KOf KX) mg "_law_cells" (Ar.topS 30) ["script", "most_so"] := by
      delta L2.KOf
      refine' Ar.has_mk KX G ?a ?l ?c ?k ?b
      (case a => k_is)
      (case l => k_is)
      (case c => k_is)
      (case k => k_is)
      (case b => exact fun _ _ _ _ _ _ us hl => match us, hl with | [_, _], _ => rfl)
    have h__law_of : Ar.Has (L2.KOf KX) mg "_law_of" (Ar.topS 31) ["tin", "goods_so"] := by
      delta L2.KOf
      refine' Ar.has_mk KX G ?a ?l ?c ?k ?b
      (case a => k_is)
      (case l => k_is)
      (case c => k_is)
      (case k => k_is)
      (case b => exact fun _ _ _ _ _ _ us hl => match us, hl with | [_, _], _ => rfl)
    have h__law_same : Ar.Has (L2.KOf KX) mg "_law_same" (Ar.topS 32) ["got", "due"] := by
      delta L2.KOf
      refine' Ar.has_mk KX G ?a ?l ?c ?k ?b
      (case a => k_is)
      (case l => k_is)
      (case c => k_is)
      (case k => k_is)
      (case b => exact fun _ _ _ _ _ _ us hl => match us, hl with | [_, _], _ => rfl)
    have h__law_word : Ar.Has (L2.KOf KX) mg "_law_word" (Ar.topS 33) ["tin", "size_so"] := by
      delta L2.KOf
      refine' Ar.has_mk KX G ?a ?l ?c ?k ?b
      (case a => k_is)
      (case l => k_is)
      (case c => k_is)
      (case k => k_is)
      (case b => exact fun _ _ _ _ _ _ us hl => match us, hl with | [_, _], _ => rfl)
    have h__law_do : Ar.Has (L2.KOf KX) mg "_law_do" (Ar.topS 34) ["word_so"] := by
      delta L2.KOf
      refine' Ar.has_mk KX G ?a ?l ?c ?k ?b
      (case a => k_is)
      (case l => k_is)
      (case c => k_is)
      (case k => k_is)
      (case b => exact fun _ _ _ _ _ _ us hl => match us, hl with | [_], _ => rfl)
    have h__law_join : Ar.Has (L2.KOf KX) mg "_law_join" (Ar.topS 35) ["one", "two"] := by
      delta L2.KOf
      refine' Ar.has_mk KX G ?a ?l ?c ?k ?b
      (case a => k_is)
      (case l => k_is)
      (case c => k_is)
      (case k => k_is)
      (case b => exact fun _ _ _ _ _ _ us hl => match us, hl with | [_, _], _ => rfl)
    have h__law_hat : Ar.Has (L2.KOf KX) mg "_law_hat" (Ar.topS 36) ["word_so"] := by
      delta L2.KOf
      refine' Ar.has_mk KX G ?a ?l ?c ?k ?b
      (case a => k_is)
      (case l => k_is)
      (case c => k_is)
      (case k => k_is)
      (case b => exact fun _ _ _ _ _ _ us hl => match us, hl with | [_], _ => rfl)
    have h__law_bare : Ar.Has (L2.KOf KX) mg "_law_bare" (Ar.topS 37) ["word_so"] := by
      delta L2.KOf
      refine' Ar.has_mk KX G ?a ?l ?c ?k ?b
      (case a => k_is)
      (case l => k_is)
      (case c => k_is)
      (case k => k_is)
      (case b => exact fun _ _ _ _ _ _ us hl => match us, hl with | [_], _ => rfl)
    have h_law : ∃ fd, L2.Fun (L2.KOf KX) "law" "law" (Ar.topS 38) fa fd ∧ ∀ (s : Shared) (u : Value), BindsTo s fd ⟨[u], []⟩ [("script", u)] := by
      delta L2.KOf
      refine' Ar.law_mk KX G hmg ?a ?l ?c ?k ?b
      (case a => k_is)
      (case l => k_is)
      (case c => k_is)
      (case k => k_is)
      (case b => exact fun _ _ _ _ _ _ us hl => match us, hl with | [_], _ => rfl)
    have gl_LETTERS : Ar.GlobD (L2.KOf KX) mg "LETTERS" (.str "ruld") := by
      delta L2.KOf
      refine' Ar.glob_str KX G ?a
      (case a => k_is)
    have gl_STEPS : Ar.DictG (L2.KOf KX) w mg "STEPS" Ar.stepF := by
      delta L2.KOf
      refine' Ar.dict_steps KX G ?a ?l ?hk ?r1 ?l1 ?r2 ?l2 ?r3 ?l3 ?r4 ?l4
      (case a => k_is)
      (case l => k_is)
      (case r1 => k_is)
      (case l1 => k_is)
      (case r2 => k_is)
      (case l2 => k_is)
      (case r3 => k_is)
      (case l3 => k_is)
      (case r4 => k_is)
      (case l4 => k_is)
      (case hk => exact ⟨⟨_, _, rfl, rfl⟩, ⟨_, _, rfl, rfl⟩, ⟨_, _, rfl, rfl⟩, ⟨_, _, rfl, rfl⟩, trivial⟩)
    have gl_MIRRORED : Ar.DictG (L2.KOf KX) w mg "MIRRORED" Ar.mirF := by
      delta L2.KOf
      refine' Ar.dict_mir KX G ?a ?l ?hk ?r1 ?e1 ?r2 ?e2 ?r3 ?e3 ?r4 ?e4
      (case a => k_is)
      (case l => k_is)
      (case r1 => k_is)
      (case r2 => k_is)
      (case r3 => k_is)
      (case r4 => k_is)
      (case hk => exact ⟨⟨_, _, rfl, rfl⟩, ⟨_, _, rfl, rfl⟩, ⟨_, _, rfl, rfl⟩, ⟨_, _, rfl, rfl⟩, trivial⟩)
      (case e1 => rfl)
      (case e2 => rfl)
      (case e3 => rfl)
      (case e4 => rfl)
    have nob := Ar.nob_mk KX G (by
      intro x hx
      simp only [List.mem_cons, List.not_mem_nil, or_false] at hx
      rcases hx with rfl | rfl | rfl | rfl | rfl | rfl | rfl | rfl | rfl | rfl | rfl | rfl | rfl | rfl | rfl | rfl | rfl | rfl | rfl | rfl | rfl | rfl | rfl | rfl | rfl <;> assumption)
    have h_law2 := h_law.elim fun _ F => Ar.Fun_has F.1 hmg F.2
    have M : Ar.Mod (L2.KOf KX) w mg := { nob := nob, h_law := h_law2, h_is_number := h_is_number, h_sure_number := h_sure_number, h_is_route := h_is_route, h_sure_route := h_sure_route, h_turned_letter := h_turned_letter, h_turned_in := h_turned_in, h_turned_route := h_turned_route, h_mirrored_route := h_mirrored_route, h_back_in := h_back_in, h_walked_back := h_walked_back, h_read_back := h_read_back, h_deed_in := h_deed_in, h_deed_of := h_deed_of, h_corners_of := h_corners_of, h_is_closed := h_is_closed, h_area_inside := h_area_inside, h_squares_beside := h_squares_beside, h_bare_in := h_bare_in, h_bare := h_bare, h__law_box := h__law_box, h__law_take := h__law_take, h__law_cells := h__law_cells, h__law_of := h__law_of, h__law_same := h__law_same, h__law_word := h__law_word, h__law_do := h__law_do, h__law_join := h__law_join, h__law_hat := h__law_hat, h__law_bare := h__law_bare, gl_LETTERS := gl_LETTERS, gl_STEPS := gl_STEPS, gl_MIRRORED := gl_MIRRORED }
    exact h_law.elim fun fd F => ⟨fd, F.2, fun base _ _ => Ar.ok_law M F.1⟩

import PyProof.Rows.All
import Wide.All
import OpenK.AllK
import Wide.FinOn
import HandS.ForMost
import HandS.Flow
import HandS.IsInst
import HandS.Wide
import HandS.Style
import HandS.Zip
import HandS.TupAny
import HandS.Replace
import HandS.More
import PyProof.Rows.StrRev
import HandS.Exc
import HandS.ExcOwn
import HandS.ExcIs
import HandS.WordsExc
import HandS.TryMany
import HandS.ExcBuiltin
import HandS.WideBits
import KE.DataCmp
import KE.DataMinMax
import KE.DataEq
import KE.SortData
import KE.GoesZip
import KE.GoesMore
import PyProof.ListCopy
import HandS.NoneIn
import HandS.TryOnly
import PySem.Challenge.RW_arearoutes_k32_routes_and_runs_refused
set_option Elab.async false
set_option linter.all false
set_option maxRecDepth 100000
set_option maxHeartbeats 0
/-! Ar: data in the place of values; a walk over the text by data. -/
namespace Ar
open PySem PySem.Spec PyProof.Rows L2

/-! ### data -/
inductive D where
  | non | bl (b : Bool) | int (i : Int) | str (x : Str) | tup (l : List D) | lst (l : List D) | frz (l : List D) | cell (p : Addr) | dct (ks : List Str) (l : List D) | rng (lo hi : Int)
abbrev Sto := List (Addr × List D)
abbrev Ro := List (Option D)
def keys (S : Sto) : List Addr := S.map (·.1)
/-- a list of the written part -/
def KL (K : PySem.W.Frag) (a : Addr) (xs : List V) : Prop := ∃ (o : Obj) (its : Array Value) (n : Nat), K.lookup a = some o ∧ o.cls = .type "list" ∧ o.dict = none ∧ o.data = .seq its n ∧ its.size ≤ sizeLine ∧ Vals xs its.toList
mutual
def Rep (K : PySem.W.Frag) (Z : List Addr) (H : Hp) : D → V → Prop
  | .non, v => v = .non
  | .bl b, v => v = .bl b
  | .int i, v => v = .int i
  | .str x, v => v = .str x
  | .tup l, v => ∃ p vs, v = .ref p ∧ SqT K H p vs ∧ RepL K Z H l vs
  | .lst l, v => ∃ p vs, v = .ref p ∧ p ∉ Z ∧ H p = some (.lst vs) ∧ RepL K Z H l vs
  | .frz l, v => ∃ p vs, v = .ref p ∧ ((p ∉ Z ∧ Rd H p (.lst vs)) ∨ KL K p vs) ∧ RepL K Z H l vs
  | .cell p, v => v = .ref p
  | .dct ks l, v => ∃ p vs, v = .ref p ∧ p ∉ Z ∧ H p = some (.dK ((ks.map Sum.inr).zip vs)) ∧ RepL K Z H l vs
  | .rng lo hi, v => ∃ i, v = .int i ∧ lo ≤ i ∧ i ≤ hi
def RepL (K : PySem.W.Frag) (Z : List Addr) (H : Hp) : List D → List V → Prop
  | [], vs => vs = []
  | d :: l, vs => ∃ v r, vs = v :: r ∧ Rep K Z H d v ∧ RepL K Z H l r
end
def Grow (Z : List Addr) (H H' : Hp) : Prop := ∀ b x, b ∉ Z → H b = some x → H' b = some x
def Zl (Z : List Addr) (H : Hp) : Prop := ∀ p, p ∈ Z → ∃ vs, H p = some (.lst vs)
theorem Grow.refl {Z : List Addr} {H : Hp} : Grow Z H H := fun _ _ _ h => h
theorem Grow.trans {Z : List Addr} {H H1 H2 : Hp} (a : Grow Z H H1) (b : Grow Z H1 H2) : Grow Z H H2 := fun c x n h => b c x n (a c x n h)
theorem Grow.new {Z : List Addr} {H : Hp} {p : Addr} {o : HO} (h : H p = none) : Grow Z H (upd H p o) := fun b x _ e => by
  rw [upd_ne (ne_of_none e h)]
  exact e
theorem Zl.notup {Z : List Addr} {H : Hp} {p : Addr} {vs : List V} (z : Zl Z H) (r : Rd H p (.tup vs)) : p ∉ Z := fun m => by
  obtain ⟨us, e⟩ := z p m
  rcases r with r | ⟨o, r⟩
  · rw [e] at r
    cases r
  · rw [e] at r
    cases r
theorem SqT.grow {K : PySem.W.Frag} {Z : List Addr} {H H' : Hp} {p : Addr} {vs : List V} (z : Zl Z H) (g : Grow Z H H') (h : SqT K H p vs) : SqT K H' p vs := by
  rcases h with h | h
  · have n := z.notup h
    rcases h with h | ⟨o, h⟩
    · exact .inl (.inl (g _ _ n h))
    · exact .inl (.inr ⟨o, g _ _ n h⟩)
  · exact .inr h
theorem frz_sq {K : PySem.W.Frag} {Z : List Addr} {H : Hp} {p : Addr} {vs : List V} (h : (p ∉ Z ∧ Rd H p (.lst vs)) ∨ KL K p vs) : SqL K H p vs := by
  rcases h with ⟨_, h⟩ | h
  · exact .inl h
  · exact .inr h
theorem frz_grow {K : PySem.W.Frag} {Zg Z : List Addr} {H H' : Hp} {p : Addr} {vs : List V} (g : Grow Zg H H') (hs : ∀ p, p ∈ Zg → p ∈ Z) (h : (p ∉ Z ∧ Rd H p (.lst vs)) ∨ KL K p vs) : (p ∉ Z ∧ Rd H' p (.lst vs)) ∨ KL K p vs := by
  rcases h with ⟨n, h⟩ | h
  · refine .inl ⟨n, ?_⟩
    rcases h with h | ⟨o, h⟩
    · exact .inl (g _ _ (fun m => n (hs _ m)) h)
    · exact .inr ⟨o, g _ _ (fun m => n (hs _ m)) h⟩
  · exact .inr h
mutual
theorem Rep.grow {K : PySem.W.Frag} {Zg Z : List Addr} {H H' : Hp} (z : Zl Zg H) (g : Grow Zg H H') (hs : ∀ p, p ∈ Zg → p ∈ Z) : ∀ {d : D} {v : V}, Rep K Z H d v → Rep K Z H' d v
  | .non, _, h => by unfold Rep at h ⊢; exact h
  | .bl _, _, h => by unfold Rep at h ⊢; exact h
  | .int _, _, h => by unfold Rep at h ⊢; exact h
  | .rng _ _, _, h => by unfold Rep at h ⊢; exact h
  | .str _, _, h => by unfold Rep at h ⊢; exact h
  | .cell _, _, h => by unfold Rep at h ⊢; exact h
  | .dct ks l, v, h => by
    unfold Rep at h ⊢
    obtain ⟨p, vs, e, n, s, r⟩ := h
    exact ⟨p, vs, e, n, g _ _ (fun m => n (hs _ m)) s, RepL.grow z g hs r⟩
  | .tup l, v, h => by
    unfold Rep at h ⊢
    obtain ⟨p, vs, e, s, r⟩ := h
    exact ⟨p, vs, e, SqT.grow z g s, RepL.grow z g hs r⟩
  | .lst l, v, h => by
    unfold Rep at h ⊢
    obtain ⟨p, vs, e, n, s, r⟩ := h
    exact ⟨p, vs, e, n, g _ _ (fun m => n (hs _ m)) s, RepL.grow z g hs r⟩
  | .frz l, v, h => by
    unfold Rep at h ⊢
    obtain ⟨p, vs, e, s, r⟩ := h
    exact ⟨p, vs, e, frz_grow g hs s, RepL.grow z g hs r⟩
theorem RepL.grow {K : PySem.W.Frag} {Zg Z : List Addr} {H H' : Hp} (z : Zl Zg H) (g : Grow Zg H H') (hs : ∀ p, p ∈ Zg → p ∈ Z) : ∀ {l : List D} {vs : List V}, RepL K Z H l vs → RepL K Z H' l vs
  | [], _, h => by unfold RepL at h ⊢; exact h
  | d :: l, vs, h => by
    unfold RepL at h ⊢
    obtain ⟨v, r, e, h1, h2⟩ := h
    exact ⟨v, r, e, Rep.grow z g hs h1, RepL.grow z g hs h2⟩
end
theorem RepL.length {K : PySem.W.Frag} {Z : List Addr} {H : Hp} : ∀ {l : List D} {vs : List V}, RepL K Z H l vs → vs.length = l.length
  | [], vs, h => by
    unfold RepL at h
    rw [h] <;> rfl
  | d :: l, vs, h => by
    unfold RepL at h
    obtain ⟨v, r, e, _, h2⟩ := h
    rw [e, List.length_cons, List.length_cons, RepL.length h2]
theorem RepL.get {K : PySem.W.Frag} {Z : List Addr} {H : Hp} : ∀ {l : List D} {vs : List V} {i : Nat} {d : D}, RepL K Z H l vs → l[i]? = some d → ∃ v, vs[i]? = some v ∧ Rep K Z H d v
  | [], _, _, _, _, e => by simp at e
  | c :: l, vs, 0, d, h, e => by
    unfold RepL at h
    obtain ⟨v, r, e1, h1, _⟩ := h
    have e2 : c = d := Option.some.inj e
    subst e2
    exact ⟨v, by rw [e1] <;> rfl, h1⟩
  | c :: l, vs, i + 1, d, h, e => by
    unfold RepL at h
    obtain ⟨v, r, e1, _, h2⟩ := h
    obtain ⟨u, e3, h3⟩ := RepL.get (i := i) (d := d) h2 e
    exact ⟨u, by rw [e1] <;> exact e3, h3⟩
theorem RepL.get2 {K : PySem.W.Frag} {Z : List Addr} {H : Hp} : ∀ {l : List D} {vs : List V} {i : Nat} {v : V}, RepL K Z H l vs → vs[i]? = some v → ∃ d, l[i]? = some d ∧ Rep K Z H d v := fun {l vs i v} h e => by
  have hl := h.length
  have hi : i < vs.length := (List.getElem?_eq_some_iff.mp e).1
  have hi2 : i < l.length := by omega
  obtain ⟨u, e3, h3⟩ := h.get (List.getElem?_eq_getElem hi2)
  rw [e] at e3
  cases e3
  exact ⟨_, List.getElem?_eq_getElem hi2, h3⟩
theorem RepL.append {K : PySem.W.Frag} {Z : List Addr} {H : Hp} : ∀ {l l2 : List D} {vs ws : List V}, RepL K Z H l vs → RepL K Z H l2 ws → RepL K Z H (l ++ l2) (vs ++ ws)
  | [], _, vs, _, h, h2 => by
    unfold RepL at h
    rw [h]
    exact h2
  | d :: l, l2, vs, ws, h, h2 => by
    unfold RepL at h
    obtain ⟨v, r, e, h1, h3⟩ := h
    rw [e]
    show RepL K Z H (d :: (l ++ l2)) (v :: (r ++ ws))
    unfold RepL
    exact ⟨v, _, rfl, h1, RepL.append h3 h2⟩
theorem RepL.nil {K : PySem.W.Frag} {Z : List Addr} {H : Hp} : RepL K Z H [] [] := by
  unfold RepL
  rfl
theorem RepL.cons {K : PySem.W.Frag} {Z : List Addr} {H : Hp} {d : D} {v : V} {l : List D} {vs : List V} (h : Rep K Z H d v) (r : RepL K Z H l vs) : RepL K Z H (d :: l) (v :: vs) := by
  unfold RepL
  exact ⟨v, vs, rfl, h, r⟩
theorem RepL.one {K : PySem.W.Frag} {Z : List Addr} {H : Hp} {d : D} {v : V} (h : Rep K Z H d v) : RepL K Z H [d] [v] := .cons h .nil
theorem RepL.uncons {K : PySem.W.Frag} {Z : List Addr} {H : Hp} {d : D} {l : List D} {vs : List V} (h : RepL K Z H (d :: l) vs) : ∃ v r, vs = v :: r ∧ Rep K Z H d v ∧ RepL K Z H l r := by
  unfold RepL at h
  exact h
theorem RepL.un0 {K : PySem.W.Frag} {Z : List Addr} {H : Hp} {vs : List V} (h : RepL K Z H [] vs) : vs = [] := by
  unfold RepL at h
  exact h
theorem RepL.ints {K : PySem.W.Frag} {Z : List Addr} {H : Hp} : ∀ {ns : List Int} {vs : List V}, RepL K Z H (ns.map D.int) vs → vs = ns.map V.int
  | [], _, h => h.un0
  | n :: ns, vs, h => by
    obtain ⟨v, r, e, h1, h2⟩ := RepL.uncons h
    have e2 : v = .int n := h1
    rw [e, e2, RepL.ints h2] <;> rfl
theorem RepL.of_ints {K : PySem.W.Frag} {Z : List Addr} {H : Hp} : ∀ (ns : List Int), RepL K Z H (ns.map D.int) (ns.map V.int)
  | [] => .nil
  | n :: ns => .cons (show Rep K Z H (.int n) (.int n) by unfold Rep; rfl) (RepL.of_ints ns)
/-! ### the store, the names -/
structure Store (K : PySem.W.Frag) (Zh : List Addr) (H : Hp) (S : Sto) : Prop where
  nd : (keys S).Nodup
  st : ∀ p l, (p, l) ∈ S → ∃ vs, H p = some (.lst vs) ∧ RepL K (keys S ++ Zh) H l vs
  hid : ∀ p, p ∈ Zh → p ∉ keys S ∧ ∃ vs, H p = some (.lst vs)
theorem Store.zl {K : PySem.W.Frag} {Zh : List Addr} {H : Hp} {S : Sto} (s : Store K Zh H S) : Zl (keys S) H := fun p m => by
  obtain ⟨⟨q, l⟩, h, e⟩ := List.mem_map.mp m
  cases e
  obtain ⟨vs, h1, _⟩ := s.st _ _ h
  exact ⟨vs, h1⟩
theorem sub_l {A B : List Addr} : ∀ p, p ∈ A → p ∈ A ++ B := fun _ h => List.mem_append_left _ h
theorem Store.gr {K : PySem.W.Frag} {Zh : List Addr} {H H' : Hp} {S : Sto} (s : Store K Zh H S) (g : Grow (keys S) H H') {d : D} {v : V} (r : Rep K (keys S ++ Zh) H d v) : Rep K (keys S ++ Zh) H' d v := Rep.grow s.zl g sub_l r
theorem Store.grL {K : PySem.W.Frag} {Zh : List Addr} {H H' : Hp} {S : Sto} (s : Store K Zh H S) (g : Grow (keys S) H H') {d : List D} {v : List V} (r : RepL K (keys S ++ Zh) H d v) : RepL K (keys S ++ Zh) H' d v := RepL.grow s.zl g sub_l r
theorem Store.free {K : PySem.W.Frag} {Zh : List Addr} {H : Hp} {S : Sto} {p : Addr} (s : Store K Zh H S) (hp : H p = none) : p ∉ keys S ++ Zh := fun m => by
  rcases List.mem_append.mp m with m | m
  · obtain ⟨vs, e⟩ := s.zl p m
    rw [hp] at e
    cases e
  · obtain ⟨_, vs, e⟩ := s.hid p m
    rw [hp] at e
    cases e
/-- where all that was tracked is kept -/
theorem Store.keep {K : PySem.W.Frag} {Zh : List Addr} {H H' : Hp} {S : Sto} (s : Store K Zh H S) (g : ∀ b x, H b = some x → H' b = some x) : Store K Zh H' S := ⟨s.nd, fun q l m => by
  obtain ⟨vs, h1, h2⟩ := s.st q l m
  exact ⟨vs, g _ _ h1, s.grL (fun b x _ h => g b x h) h2⟩, fun p m => by
  obtain ⟨n, vs, e⟩ := s.hid p m
  exact ⟨n, vs, g _ _ e⟩⟩
theorem Store.new {K : PySem.W.Frag} {Zh : List Addr} {H : Hp} {S : Sto} {p : Addr} {o : HO} (s : Store K Zh H S) (hp : H p = none) : Store K Zh (upd H p o) S := s.keep fun b x e => by
  rw [upd_ne (ne_of_none e hp)]
  exact e
structure Ev (K : PySem.W.Frag) (Zh : List Addr) (H : Hp) (σ : L2.St) (ρ : Ro) (S : Sto) : Prop where
  st : Store K Zh H S
  len : σ.length = ρ.length
  var : ∀ (i : Nat) (d : D), ρ[i]? = some (some d) → ∃ v, σ[i]? = some (some v) ∧ Rep K (keys S ++ Zh) H d v
theorem Ev.next {K : PySem.W.Frag} {Zh : List Addr} {H H' : Hp} {σ : L2.St} {ρ : Ro} {S S' : Sto} (E : Ev K Zh H σ ρ S) (k : keys S' = keys S) (g : Grow (keys S) H H') (s : Store K Zh H' S') : Ev K Zh H' σ ρ S' :=
  ⟨s, E.len, fun i d h => by
    obtain ⟨v, e, r⟩ := E.var i d h
    exact ⟨v, e, by rw [k]; exact E.st.gr g r⟩⟩
theorem Ev.put {K : PySem.W.Frag} {Zh : List Addr} {H : Hp} {σ : L2.St} {ρ : Ro} {S : Sto} {i : Nat} {d : D} {v : V} (E : Ev K Zh H σ ρ S) (r : Rep K (keys S ++ Zh) H d v) : Ev K Zh H (σ.set i (some v)) (ρ.set i (some d)) S :=
  ⟨E.st, by rw [List.length_set, List.length_set]; exact E.len, fun j c h => by
    by_cases hj : i = j
    · subst hj
      by_cases hl : i < ρ.length
      · rw [List.getElem?_set_self hl] at h
        cases h
        exact ⟨v, by rw [List.getElem?_set_self (by rw [E.len]; exact hl)], r⟩
      · rw [List.getElem?_eq_none (by rw [List.length_set]; omega)] at h
        cases h
    · rw [List.getElem?_set_ne hj] at h
      rw [List.getElem?_set_ne hj]
      exact E.var j c h⟩
/-! ### what is wanted behind a piece -/
def Post (K : PySem.W.Frag) (Zh : List Addr) (H : Hp) (S : Sto) (Φ : D → Sto → Prop) (Q : VK) : Prop :=
  ∀ v H' d S', keys S' = keys S → Grow (keys S) H H' → Store K Zh H' S' → Rep K (keys S ++ Zh) H' d v → Φ d S' → Q v H'
def PostL (K : PySem.W.Frag) (Zh : List Addr) (H : Hp) (S : Sto) (n : Nat) (Φ : List D → Sto → Prop) (Q : List V → Hp → Prop) : Prop :=
  ∀ vs H' ds S', keys S' = keys S → Grow (keys S) H H' → Store K Zh H' S' → RepL K (keys S ++ Zh) H' ds vs → ds.length = n → Φ ds S' → Q vs H'
def PostT (K : PySem.W.Frag) (Zh : List Addr) (H : Hp) (S : Sto) (Φ : Bool → Sto → Prop) (Q : Bool → Hp → Prop) : Prop :=
  ∀ b H' S', keys S' = keys S → Grow (keys S) H H' → Store K Zh H' S' → Φ b S' → Q b H'
/-- go on from the state behind a part -/
theorem Post.next {K : PySem.W.Frag} {Zh : List Addr} {H H1 : Hp} {S S1 : Sto} {Φ : D → Sto → Prop} {Q : VK} (P : Post K Zh H S Φ Q) (k : keys S1 = keys S) (g : Grow (keys S) H H1) : Post K Zh H1 S1 Φ Q := fun v H' d S' k' g' s' r q =>
  P v H' d S' (k'.trans k) (g.trans (by rw [← k]; exact g')) s' (by rw [← k]; exact r) q
theorem PostL.next {K : PySem.W.Frag} {Zh : List Addr} {H H1 : Hp} {S S1 : Sto} {n : Nat} {Φ : List D → Sto → Prop} {Q : List V → Hp → Prop} (P : PostL K Zh H S n Φ Q) (k : keys S1 = keys S) (g : Grow (keys S) H H1) : PostL K Zh H1 S1 n Φ Q := fun v H' d S' k' g' s' r l q =>
  P v H' d S' (k'.trans k) (g.trans (by rw [← k]; exact g')) s' (by rw [← k]; exact r) l q
theorem PostT.next {K : PySem.W.Frag} {Zh : List Addr} {H H1 : Hp} {S S1 : Sto} {Φ : Bool → Sto → Prop} {Q : Bool → Hp → Prop} (P : PostT K Zh H S Φ Q) (k : keys S1 = keys S) (g : Grow (keys S) H H1) : PostT K Zh H1 S1 Φ Q := fun v H' S' k' g' s' q =>
  P v H' S' (k'.trans k) (g.trans (by rw [← k]; exact g')) s' q
theorem Post.here {K : PySem.W.Frag} {Zh : List Addr} {H : Hp} {S : Sto} {Φ : D → Sto → Prop} {Q : VK} {d : D} {v : V} (P : Post K Zh H S Φ Q) (s : Store K Zh H S) (r : Rep K (keys S ++ Zh) H d v) (q : Φ d S) : Q v H := P v H d S rfl Grow.refl s r q
theorem Post.tup {K : PySem.W.Frag} {Zh : List Addr} {H : Hp} {S : Sto} {Φ : D → Sto → Prop} {Q : VK} {l : List D} {vs : List V} {p : Addr} (P : Post K Zh H S Φ Q) (s : Store K Zh H S) (r : RepL K (keys S ++ Zh) H l vs) (q : Φ (.tup l) S) (hp : H p = none) : Q (.ref p) (upd H p (.tup vs)) :=
  P _ _ _ S rfl (Grow.new hp) (s.new hp) (show Rep K (keys S ++ Zh) (upd H p (.tup vs)) (.tup l) (.ref p) by
    unfold Rep
    exact ⟨p, vs, rfl, .inl (.inl upd_same), s.grL (Grow.new hp) r⟩) q
theorem Post.lst {K : PySem.W.Frag} {Zh : List Addr} {H : Hp} {S : Sto} {Φ : D → Sto → Prop} {Q : VK} {l : List D} {vs : List V} {p : Addr} (P : Post K Zh H S Φ Q) (s : Store K Zh H S) (r : RepL K (keys S ++ Zh) H l vs) (q : Φ (.lst l) S) (hp : H p = none) : Q (.ref p) (upd H p (.lst vs)) :=
  P _ _ _ S rfl (Grow.new hp) (s.new hp) (show Rep K (keys S ++ Zh) (upd H p (.lst vs)) (.lst l) (.ref p) by
    unfold Rep
    exact ⟨p, vs, rfl, s.free hp, upd_same, s.grL (Grow.new hp) r⟩) q

/-! ### the judgements -/
def DE (X : Cx) (e : Expr) (ρ : Ro) (S : Sto) (Φ : D → Sto → Prop) : Prop :=
  ∀ (Zh : List Addr) (pins : List (Addr × Obj)) (s : Shared) (σ : L2.St) (H : Hp) (Q : VK), Inv X pins σ H s → Ev X.K Zh H σ ρ S → Post X.K Zh H S Φ Q → wpAny (model X.prog X.w) X.A (eval e X.env) (EP X pins σ Q) X.xe s
def DT (X : Cx) (e : Expr) (ρ : Ro) (S : Sto) (Φ : Bool → Sto → Prop) : Prop :=
  ∀ (Zh : List Addr) (pins : List (Addr × Obj)) (s : Shared) (σ : L2.St) (H : Hp) (Q : Bool → Hp → Prop), Inv X pins σ H s → Ev X.K Zh H σ ρ S → PostT X.K Zh H S Φ Q → wpAny (model X.prog X.w) X.A (isTrue e X.env (eval e X.env)) (TP X pins σ Q) X.xe s
def DA (X : Cx) (es : List Expr) (ρ : Ro) (S : Sto) (Φ : List D → Sto → Prop) : Prop :=
  ∀ (Zh : List Addr) (pos : Pos) (pins : List (Addr × Obj)) (s : Shared) (σ : L2.St) (H : Hp) (Q : List V → Hp → Prop), Inv X pins σ H s → Ev X.K Zh H σ ρ S → PostL X.K Zh H S es.length Φ Q → wpAny (model X.prog X.w) X.A (spliced (backTo pos (starEach es X.env))) (AP X pins σ Q) X.xe s
/-- the widest readings -/
def tW (X : Cx) (e : Expr) : TE := fun σ H Q => ∀ (pins : List (Addr × Obj)) (s : Shared), Inv X pins σ H s → wpAny (model X.prog X.w) X.A (eval e X.env) (EP X pins σ Q) X.xe s
def ttW (X : Cx) (e : Expr) : TT := fun σ H Q => ∀ (pins : List (Addr × Obj)) (s : Shared), Inv X pins σ H s → wpAny (model X.prog X.w) X.A (isTrue e X.env (eval e X.env)) (TP X pins σ Q) X.xe s
def taW (X : Cx) (es : List Expr) : TA := fun σ H Q => ∀ (pos : Pos) (pins : List (Addr × Obj)) (s : Shared), Inv X pins σ H s → wpAny (model X.prog X.w) X.A (spliced (backTo pos (starEach es X.env))) (AP X pins σ Q) X.xe s
section
variable {X : Cx} {ρ : Ro} {S : Sto}
theorem pe_w {e : Expr} : PE X e (tW X e) := ⟨fun pins s _ _ _ I h => h pins s I⟩
theorem pt_w {e : Expr} : PT X e (ttW X e) := ⟨fun pins s _ _ _ I h => h pins s I⟩
theorem pa_w {es : List Expr} : PA X es (taW X es) := ⟨fun pos pins s _ _ _ I h => h pos pins s I⟩
theorem DE.tw {e : Expr} {Φ : D → Sto → Prop} {Zh : List Addr} {σ : L2.St} {H : Hp} {Q : VK} (h : DE X e ρ S Φ) (E : Ev X.K Zh H σ ρ S) (q : Post X.K Zh H S Φ Q) : tW X e σ H Q := fun pins s I => h Zh pins s σ H Q I E q
theorem DT.tw {e : Expr} {Φ : Bool → Sto → Prop} {Zh : List Addr} {σ : L2.St} {H : Hp} {Q : Bool → Hp → Prop} (h : DT X e ρ S Φ) (E : Ev X.K Zh H σ ρ S) (q : PostT X.K Zh H S Φ Q) : ttW X e σ H Q := fun pins s I => h Zh pins s σ H Q I E q
theorem DA.tw {es : List Expr} {Φ : List D → Sto → Prop} {Zh : List Addr} {σ : L2.St} {H : Hp} {Q : List V → Hp → Prop} (h : DA X es ρ S Φ) (E : Ev X.K Zh H σ ρ S) (q : PostL X.K Zh H S es.length Φ Q) : taW X es σ H Q := fun pos pins s I => h Zh pos pins s σ H Q I E q
theorem DE.of {e : Expr} {t : TE} {Φ : D → Sto → Prop} (p : PE X e t) (h : ∀ Zh σ H Q, Ev X.K Zh H σ ρ S → Post X.K Zh H S Φ Q → t σ H Q) : DE X e ρ S Φ := fun Zh pins s σ H Q I E q => p.run pins s σ H Q I (h Zh σ H Q E q)
theorem DT.of {e : Expr} {t : TT} {Φ : Bool → Sto → Prop} (p : PT X e t) (h : ∀ Zh σ H Q, Ev X.K Zh H σ ρ S → PostT X.K Zh H S Φ Q → t σ H Q) : DT X e ρ S Φ := fun Zh pins s σ H Q I E q => p.run pins s σ H Q I (h Zh σ H Q E q)
theorem DA.of {es : List Expr} {t : TA} {Φ : List D → Sto → Prop} (p : PA X es t) (h : ∀ Zh σ H Q, Ev X.K Zh H σ ρ S → PostL X.K Zh H S es.length Φ Q → t σ H Q) : DA X es ρ S Φ := fun Zh pos pins s σ H Q I E q => p.run pos pins s σ H Q I (h Zh σ H Q E q)
/-- a part, then the rest from its state -/
theorem DE.bind {e : Expr} {Ψ : D → Sto → Prop} {Zh : List Addr} {σ : L2.St} {H : Hp} {Q : VK} (h : DE X e ρ S Ψ) (E : Ev X.K Zh H σ ρ S)
    (k : ∀ v H1 d S1, keys S1 = keys S → Grow (keys S) H H1 → Ev X.K Zh H1 σ ρ S1 → Rep X.K (keys S1 ++ Zh) H1 d v → Ψ d S1 → Q v H1) : tW X e σ H Q :=
  h.tw E fun v H1 d S1 k1 g1 s1 r1 q1 => k v H1 d S1 k1 g1 (E.next k1 g1 s1) (by rw [k1]; exact r1) q1
end

/-! ### operations by values -/
def DO (X : Cx) (f : Value → Value → Sem Value) (a b : D) (S : Sto) (Φ : D → Sto → Prop) : Prop :=
  ∀ (Zh : List Addr) (pins : List (Addr × Obj)) (s : Shared) (σ : L2.St) (H : Hp) (x y : V) (v u : Value) (Q : VK), Inv X pins σ H s → Store X.K Zh H S → Rep X.K (keys S ++ Zh) H a x → Rep X.K (keys S ++ Zh) H b y → RelV x v → RelV y u → Post X.K Zh H S Φ Q →
    wpAny (model X.prog X.w) X.A (f v u) (EP X pins σ Q) X.xe s
def rW (X : Cx) (f : Value → Value → Sem Value) : R2 := fun x y H Q => ∀ (pins : List (Addr × Obj)) (s : Shared) (σ : L2.St) (v u : Value), Inv X pins σ H s → RelV x v → RelV y u → wpAny (model X.prog X.w) X.A (f v u) (EP X pins σ Q) X.xe s
section
variable {X : Cx} {ρ : Ro} {S : Sto} {f : Value → Value → Sem Value} {a b : D} {Φ : D → Sto → Prop}
theorem op_w : OpR X f (rW X f) := fun pins s σ _ _ _ v u _ I rx ry h => h pins s σ v u I rx ry
theorem DO.of {r : R2} (o : OpR X f r) (h : ∀ Zh H x y Q, Store X.K Zh H S → Rep X.K (keys S ++ Zh) H a x → Rep X.K (keys S ++ Zh) H b y → Post X.K Zh H S Φ Q → r x y H Q) : DO X f a b S Φ :=
  fun Zh pins s σ H x y v u Q I st ra rb rx ry q => o pins s σ H x y v u Q I rx ry (h Zh H x y Q st ra rb q)
theorem DO.rw {Zh : List Addr} {H : Hp} {x y : V} {Q : VK} (h : DO X f a b S Φ) (st : Store X.K Zh H S) (ra : Rep X.K (keys S ++ Zh) H a x) (rb : Rep X.K (keys S ++ Zh) H b y) (q : Post X.K Zh H S Φ Q) : rW X f x y H Q :=
  fun pins s σ v u I rx ry => h Zh pins s σ H x y v u Q I st ra rb rx ry q
theorem two {e1 e2 : Expr} {Zh : List Addr} {σ : L2.St} {H : Hp} {Q : VK} (h : DE X e1 ρ S fun da S1 => DE X e2 ρ S1 fun db S2 => DO X f da db S2 Φ) (E : Ev X.K Zh H σ ρ S) (P : Post X.K Zh H S Φ Q) : tOp (rW X f) (tW X e1) (tW X e2) σ H Q :=
  h.bind E fun x H1 da S1 k1 g1 E1 ra h1 => h1.bind E1 fun y H2 db S2 k2 g2 E2 rb h2 =>
    h2.rw E2.st (by rw [k2]; exact E1.st.gr g2 ra) rb ((P.next k1 g1).next k2 g2)
theorem de_bin {op : Operator} {e1 e2 : Expr} {pos : Pos} (h : DE X e1 ρ S fun da S1 => DE X e2 ρ S1 fun db S2 => DO X (binaryOp op) da db S2 Φ) : DE X (.BinOp e1 op e2 pos) ρ S Φ :=
  DE.of (pe_op op_w pe_w pe_w) fun _ _ _ _ E P => two h E P
theorem de_cmp {op : CmpOp} {e1 e2 : Expr} {pos : Pos} (hm : behindInMarks op e2 = false) (h : DE X e1 ρ S fun da S1 => DE X e2 ρ S1 fun db S2 => DO X (compareOp op) da db S2 Φ) : DE X (.Compare e1 [op] [e2] pos) ρ S Φ :=
  DE.of (pe_cmpR op_w pe_w pe_w hm) fun _ _ _ _ E P => two h E P
theorem dt_cmp {op : CmpOp} {e1 e2 : Expr} {pos : Pos} {Φ : Bool → Sto → Prop} (hm : behindInMarks op e2 = false) (h : DE X e1 ρ S fun da S1 => DE X e2 ρ S1 fun db S2 => DO X (compareOp op) da db S2 fun d S3 => ∃ k, d = .bl k ∧ Φ k S3) : DT X (.Compare e1 [op] [e2] pos) ρ S Φ :=
  DT.of (pt_cmpR op_w pe_w pe_w hm) fun Zh σ H Q E P => two h E fun v H' d S' k g s r q => by
    obtain ⟨c, rfl, q⟩ := q
    exact ⟨c, by unfold Rep at r; exact r, P c H' S' k g s q⟩
/-- ints -/
theorem rep_int {K : PySem.W.Frag} {Z : List Addr} {H : Hp} {i : Int} : Rep K Z H (.int i) (.int i) := by
  unfold Rep
  rfl
theorem rep_bl {K : PySem.W.Frag} {Z : List Addr} {H : Hp} {i : Bool} : Rep K Z H (.bl i) (.bl i) := by
  unfold Rep
  rfl
theorem rep_str {K : PySem.W.Frag} {Z : List Addr} {H : Hp} {i : Str} : Rep K Z H (.str i) (.str i) := by
  unfold Rep
  rfl
theorem rep_non {K : PySem.W.Frag} {Z : List Addr} {H : Hp} : Rep K Z H .non .non := by
  unfold Rep
  rfl
theorem Rep.int {K : PySem.W.Frag} {Z : List Addr} {H : Hp} {i : Int} {v : V} (h : Rep K Z H (.int i) v) : v = .int i := by
  unfold Rep at h
  exact h
theorem Rep.rng {K : PySem.W.Frag} {Z : List Addr} {H : Hp} {lo hi : Int} {v : V} (h : Rep K Z H (.rng lo hi) v) : ∃ i, v = .int i ∧ lo ≤ i ∧ i ≤ hi := by
  unfold Rep at h
  exact h
theorem rep_rng {K : PySem.W.Frag} {Z : List Addr} {H : Hp} {lo hi i : Int} (h1 : lo ≤ i) (h2 : i ≤ hi) : Rep K Z H (.rng lo hi) (.int i) := by
  unfold Rep
  exact ⟨i, rfl, h1, h2⟩
theorem Rep.bl {K : PySem.W.Frag} {Z : List Addr} {H : Hp} {i : Bool} {v : V} (h : Rep K Z H (.bl i) v) : v = .bl i := by
  unfold Rep at h
  exact h
theorem Rep.str {K : PySem.W.Frag} {Z : List Addr} {H : Hp} {i : Str} {v : V} (h : Rep K Z H (.str i) v) : v = .str i := by
  unfold Rep at h
  exact h
theorem Rep.non {K : PySem.W.Frag} {Z : List Addr} {H : Hp} {v : V} (h : Rep K Z H .non v) : v = .non := by
  unfold Rep at h
  exact h
theorem Rep.tup {K : PySem.W.Frag} {Z : List Addr} {H : Hp} {l : List D} {v : V} (h : Rep K Z H (.tup l) v) : ∃ p vs, v = .ref p ∧ SqT K H p vs ∧ RepL K Z H l vs := by
  unfold Rep at h
  exact h
theorem Rep.lst {K : PySem.W.Frag} {Z : List Addr} {H : Hp} {l : List D} {v : V} (h : Rep K Z H (.lst l) v) : ∃ p vs, v = .ref p ∧ p ∉ Z ∧ H p = some (.lst vs) ∧ RepL K Z H l vs := by
  unfold Rep at h
  exact h
theorem Rep.frz {K : PySem.W.Frag} {Z : List Addr} {H : Hp} {l : List D} {v : V} (h : Rep K Z H (.frz l) v) : ∃ p vs, v = .ref p ∧ ((p ∉ Z ∧ Rd H p (.lst vs)) ∨ KL K p vs) ∧ RepL K Z H l vs := by
  unfold Rep at h
  exact h
theorem Rep.cell {K : PySem.W.Frag} {Z : List Addr} {H : Hp} {p : Addr} {v : V} (h : Rep K Z H (.cell p) v) : v = .ref p := by
  unfold Rep at h
  exact h
theorem Rep.dct {K : PySem.W.Frag} {Z : List Addr} {H : Hp} {ks : List Str} {l : List D} {v : V} (h : Rep K Z H (.dct ks l) v) : ∃ p vs, v = .ref p ∧ p ∉ Z ∧ H p = some (.dK ((ks.map Sum.inr).zip vs)) ∧ RepL K Z H l vs := by
  unfold Rep at h
  exact h
variable {i j : Int}
theorem do_i0 {g : Int → Int → Int} (o : OpR X f (rI0 fun i j => .int (g i j))) (q : Φ (.int (g i j)) S) : DO X f (.int i) (.int j) S Φ := DO.of o fun Zh H x y Q st ra rb P => ⟨i, j, ra.int, rb.int, P.here st rep_int q⟩
theorem do_b0 {g : Int → Int → Bool} (o : OpR X f (rI0 fun i j => .bl (g i j))) (q : Φ (.bl (g i j)) S) : DO X f (.int i) (.int j) S Φ := DO.of o fun Zh H x y Q st ra rb P => ⟨i, j, ra.int, rb.int, P.here st rep_bl q⟩
theorem do_iC {C : Int → Int → Prop} {g : Int → Int → Int} (o : OpR X f (rI C fun i j => .int (g i j))) (c : C i j) (q : Φ (.int (g i j)) S) : DO X f (.int i) (.int j) S Φ := DO.of o fun Zh H x y Q st ra rb P => ⟨i, j, ra.int, rb.int, c, P.here st rep_int q⟩
theorem do_add (q : Φ (.int (i + j)) S) : DO X (binaryOp .Add) (.int i) (.int j) S Φ := do_i0 op_add q
theorem do_sub (q : Φ (.int (i - j)) S) : DO X (binaryOp .Sub) (.int i) (.int j) S Φ := do_i0 op_sub q
theorem do_mul (c : CMulW i j) (q : Φ (.int (i * j)) S) : DO X (binaryOp .Mult) (.int i) (.int j) S Φ := do_iC op_mulW c q
theorem do_fdiv (c : CDivW i j) (q : Φ (.int (i / j)) S) : DO X (binaryOp .FloorDiv) (.int i) (.int j) S Φ := do_iC op_fdivW c q
theorem do_mod (c : 0 < j) (q : Φ (.int (i % j)) S) : DO X (binaryOp .Mod) (.int i) (.int j) S Φ := do_iC (C := fun _ j => 0 < j) op_mod c q
theorem do_pow (c : CPow i j) (q : Φ (.int (i ^ j.toNat)) S) : DO X (binaryOp .Pow) (.int i) (.int j) S Φ := do_iC op_pow c q
theorem do_lt (q : Φ (.bl (decide (i < j))) S) : DO X (compareOp .Lt) (.int i) (.int j) S Φ := do_b0 op_lt q
theorem do_le (q : Φ (.bl (decide (i ≤ j))) S) : DO X (compareOp .LtE) (.int i) (.int j) S Φ := do_b0 op_le q
theorem do_gt (q : Φ (.bl (decide (j < i))) S) : DO X (compareOp .Gt) (.int i) (.int j) S Φ := do_b0 op_gt q
theorem do_ge (q : Φ (.bl (decide (j ≤ i))) S) : DO X (compareOp .GtE) (.int i) (.int j) S Φ := do_b0 op_ge q
theorem do_eqI (q : Φ (.bl (decide (i = j))) S) : DO X (compareOp .Eq) (.int i) (.int j) S Φ := DO.of op_eq fun Zh H x y Q st ra rb P => by
  rw [ra.int, rb.int]
  refine ⟨rfl, P.here st rep_bl ?_⟩
  rw [show decide (V.int i = V.int j) = decide (i = j) by simp]
  exact q
theorem do_neI (q : Φ (.bl (!decide (i = j))) S) : DO X (compareOp .NotEq) (.int i) (.int j) S Φ := DO.of op_ne fun Zh H x y Q st ra rb P => by
  rw [ra.int, rb.int]
  refine ⟨rfl, P.here st rep_bl ?_⟩
  rw [show decide (V.int i = V.int j) = decide (i = j) by simp]
  exact q
theorem do_eqB {i j : Bool} (q : Φ (.bl (decide (i = j))) S) : DO X (compareOp .Eq) (.bl i) (.bl j) S Φ := DO.of op_eq fun Zh H x y Q st ra rb P => by
  rw [ra.bl, rb.bl]
  refine ⟨rfl, P.here st rep_bl ?_⟩
  rw [show decide (V.bl i = V.bl j) = decide (i = j) by simp]
  exact q
theorem do_neB {i j : Bool} (q : Φ (.bl (!decide (i = j))) S) : DO X (compareOp .NotEq) (.bl i) (.bl j) S Φ := DO.of op_ne fun Zh H x y Q st ra rb P => by
  rw [ra.bl, rb.bl]
  refine ⟨rfl, P.here st rep_bl ?_⟩
  rw [show decide (V.bl i = V.bl j) = decide (i = j) by simp]
  exact q
theorem do_eqS {i j : Str} (q : Φ (.bl (decide (i = j))) S) : DO X (compareOp .Eq) (.str i) (.str j) S Φ := DO.of op_eq fun Zh H x y Q st ra rb P => by
  rw [ra.str, rb.str]
  refine ⟨rfl, P.here st rep_bl ?_⟩
  rw [show decide (V.str i = V.str j) = decide (i = j) by simp]
  exact q
theorem do_neS {i j : Str} (q : Φ (.bl (!decide (i = j))) S) : DO X (compareOp .NotEq) (.str i) (.str j) S Φ := DO.of op_ne fun Zh H x y Q st ra rb P => by
  rw [ra.str, rb.str]
  refine ⟨rfl, P.here st rep_bl ?_⟩
  rw [show decide (V.str i = V.str j) = decide (i = j) by simp]
  exact q
/-- is None -/
def isNon : D → Bool
  | .non => true
  | _ => false
theorem rep_non_iff {K : PySem.W.Frag} {Z : List Addr} {H : Hp} : ∀ {d : D} {v : V}, Rep K Z H d v → decide (v = .non) = isNon d
  | .non, v, h => by rw [h.non]; rfl
  | .bl _, v, h => by rw [h.bl]; rfl
  | .int _, v, h => by rw [h.int]; rfl
  | .rng _ _, v, h => by
    obtain ⟨i, e, _⟩ := h.rng
    rw [e]
    rfl
  | .str _, v, h => by rw [h.str]; rfl
  | .cell _, v, h => by rw [h.cell]; rfl
  | .dct _ _, v, h => by
    obtain ⟨p, vs, e, _⟩ := h.dct
    rw [e]
    rfl
  | .tup _, v, h => by
    obtain ⟨p, vs, e, _⟩ := h.tup
    rw [e]
    rfl
  | .lst _, v, h => by
    obtain ⟨p, vs, e, _⟩ := h.lst
    rw [e]
    rfl
  | .frz _, v, h => by
    obtain ⟨p, vs, e, _⟩ := h.frz
    rw [e]
    rfl
theorem do_isN (q : Φ (.bl (isNon a)) S) : DO X (compareOp .Is) a .non S Φ := DO.of op_isN fun Zh H x y Q st ra rb P => ⟨rb.non, P.here st (by rw [rep_non_iff ra]; exact rep_bl) q⟩
theorem do_notN (q : Φ (.bl (!isNon a)) S) : DO X (compareOp .IsNot) a .non S Φ := DO.of op_notN fun Zh H x y Q st ra rb P => ⟨rb.non, P.here st (by rw [rep_non_iff ra]; exact rep_bl) q⟩
theorem do_addS {i j : Str} (c : i.length + j.length ≤ sizeLine) (q : Φ (.str (i ++ j)) S) : DO X (binaryOp .Add) (.str i) (.str j) S Φ := DO.of op_add_str fun Zh H x y Q st ra rb P => ⟨i, j, ra.str, rb.str, c, P.here st rep_str q⟩
theorem do_cat {l m : List D} (c : l.length + m.length ≤ sizeLine) (q : Φ (.lst (l ++ m)) S) : DO X (binaryOp .Add) (.lst l) (.lst m) S Φ := DO.of op_cat fun Zh H x y Q st ra rb P => by
  obtain ⟨p, vs, rfl, n1, h1, r1⟩ := ra.lst
  obtain ⟨p2, vs2, rfl, n2, h2, r2⟩ := rb.lst
  exact ⟨p, p2, vs, vs2, rfl, rfl, h1, h2, by rw [r1.length, r2.length]; exact c, fun z hz => P.lst st (r1.append r2) q hz⟩
end

/-! ### names, constants, displays, calls -/
def visB : Option NameKind → Bool
  | some .local => true
  | some .cell => true
  | some .free => true
  | _ => false
def stB : Option NameKind → Bool
  | some .local => true
  | some .cell => true
  | _ => false
def cfB : Option NameKind → Bool
  | some .cell => true
  | some .free => true
  | _ => false
structure At (X : Cx) (P : Program) (w : World) (K : PySem.W.Frag) (mg : Str → Option Value) (base : Heap) (tb : List (Str × Nat)) (names : List (Str × NameKind)) (k : Nat) : Prop where
  prog : X.prog = P
  w : X.w = w
  K : X.K = K
  mg : X.mg = mg
  base : X.base = base
  slot : ∀ x i, tb.lookup x = some i → X.N[i]? = some x
  cov : ∀ x, x ∈ X.N → (tb.lookup x).isSome = true
  vis : ∀ x, visB (names.lookup x) = true → Vis X.env.scope x
  gl : ∀ x, names.lookup x = some .globalImplicit → Gl X x
  sto : ∀ x, stB (names.lookup x) = true → Loc X.env.scope x ∧ (X.fn x = true ∨ X.env.scope.names.lookup x = some .local)
  loc : ∀ x, names.lookup x = some .local → X.env.scope.names.lookup x = some .local
  cf : ∀ x, cfB (names.lookup x) = true → X.env.scope.names.lookup x = some .cell ∨ X.env.scope.names.lookup x = some .free
  kind : X.env.scope.kind = .function
  room : Room k X.A
  calm : X.calm = true
  nd : X.N.Nodup
  own : PassesOwn (model X.prog X.w) X.A X.env X.xe
def plainName (x : Str) : Bool := !(x == ("__debug__" : Str)) && !(x == ("__classdict__" : Str)) && !(x == ("__name__" : Str))
theorem plain1 {x : Str} (h : plainName x = true) : (x == ("__debug__" : Str)) = false ∧ (x == ("__classdict__" : Str)) = false ∧ x ≠ "__name__" := by
  unfold plainName at h
  simp only [Bool.and_eq_true, Bool.not_eq_true'] at h
  exact ⟨h.1.1, h.1.2, by simpa using h.2⟩
section
variable {X : Cx} {ρ : Ro} {S : Sto} {Φ : D → Sto → Prop} {P : Program} {w : World} {K : PySem.W.Frag} {mg : Str → Option Value} {base : Heap} {tb : List (Str × Nat)} {names : List (Str × NameKind)} {k : Nat} {pos : Pos}
theorem de_name {x : Str} (A : At X P w K mg base tb names k) (h : ∃ i d, tb.lookup x = some i ∧ (plainName x && visB (names.lookup x)) = true ∧ ρ[i]? = some (some d) ∧ Φ d S) : DE X (.Name x pos) ρ S Φ := by
  obtain ⟨i, d, hi, hv, h, q⟩ := h
  rw [Bool.and_eq_true] at hv
  exact DE.of (pe_var (A.slot _ _ hi) (A.vis _ hv.2) (plain1 hv.1).1 (plain1 hv.1).2.1) fun Zh σ H Q E P => by
    obtain ⟨v, e, r⟩ := E.var i d h
    exact ⟨v, e, P.here E.st r q⟩
theorem de_int {i : Int} {j} (q : Φ (.int i) S) : DE X (.Constant (.int i) j pos) ρ S Φ := DE.of pe_int fun Zh σ H Q E P => P.here E.st rep_int q
theorem de_bl {i : Bool} {j} (q : Φ (.bl i) S) : DE X (.Constant (.bool i) j pos) ρ S Φ := DE.of pe_bl fun Zh σ H Q E P => P.here E.st rep_bl q
theorem de_str {i : Str} {j} (q : Φ (.str i) S) : DE X (.Constant (.str i) j pos) ρ S Φ := DE.of pe_str fun Zh σ H Q E P => P.here E.st rep_str q
theorem de_non {j} (q : Φ .non S) : DE X (.Constant .none j pos) ρ S Φ := DE.of pe_non fun Zh σ H Q E P => P.here E.st rep_non q
theorem da_nil {Φ : List D → Sto → Prop} (q : Φ [] S) : DA X [] ρ S Φ := DA.of pa_nil fun Zh σ H Q E P => P [] H [] S rfl Grow.refl E.st .nil rfl q
theorem da_cons {e : Expr} {es : List Expr} {Φ : List D → Sto → Prop} (h : DE X e ρ S fun d S1 => DA X es ρ S1 fun ds S2 => Φ (d :: ds) S2) (hs : starEach (e :: es) X.env = (false, eval e X.env) :: starEach es X.env) : DA X (e :: es) ρ S Φ :=
  DA.of (pa_cons pe_w pa_w hs) fun Zh σ H Q E P => h.bind E fun v H1 d S1 k1 g1 E1 r1 h1 => h1.tw E1 fun vs H2 ds S2 k2 g2 s2 r2 l2 q2 =>
    (P.next k1 g1) (v :: vs) H2 (d :: ds) S2 k2 g2 s2 (.cons (E1.st.gr g2 r1) r2) (by rw [List.length_cons, l2]; rfl) q2
theorem sz {n : Nat} (h : Nat.ble n 1000 = true) : n ≤ sizeLine := Nat.le_of_lt (small1000 (Nat.le_of_ble_eq_true h))
theorem de_tup {es : List Expr} {x1} (hl : Nat.ble es.length 1000 = true) (h : DA X es ρ S fun ds S1 => Φ (.tup ds) S1) : DE X (.Tuple es x1 pos) ρ S Φ :=
  DE.of (pe_tup pa_w) fun Zh σ H Q E P => h.tw E fun vs H1 ds S1 k1 g1 s1 r1 l1 q1 => ⟨by rw [r1.length, l1]; exact sz hl, fun p hp => (P.next k1 g1).tup s1 (by rw [k1]; exact r1) q1 hp⟩
theorem de_lst {es : List Expr} (hl : Nat.ble es.length 1000 = true) (h : DA X es ρ S fun ds S1 => Φ (.lst ds) S1) : DE X (.List es pos) ρ S Φ :=
  DE.of (pe_lst pa_w) fun Zh σ H Q E P => h.tw E fun vs H1 ds S1 k1 g1 s1 r1 l1 q1 => ⟨by rw [r1.length, l1]; exact sz hl, fun p hp => (P.next k1 g1).lst s1 (by rw [k1]; exact r1) q1 hp⟩
/-! a def's contract by data -/
abbrev Spec := List D → Sto → (D → Sto → Prop) → Prop
def spOf (K : PySem.W.Frag) (n : Nat) (B : Spec) : Sp := fun vs H Q _ => vs.length = n ∧ ∃ Zh ds S Φ, Store K Zh H S ∧ RepL K (keys S ++ Zh) H ds vs ∧ B ds S Φ ∧ Post K Zh H S Φ Q
/-- what stands at a def's address -/
def FdAt (K : PySem.W.Frag) (f : Addr) (fd : FuncData) : Prop := ∃ oc od osl, K.lookup f = some ⟨oc, od, .func fd, osl⟩
theorem FdAt.one {K : PySem.W.Frag} {f : Addr} {fd fd' : FuncData} (a : FdAt K f fd) (b : FdAt K f fd') : fd = fd' := by
  obtain ⟨_, _, _, a⟩ := a
  obtain ⟨_, _, _, b⟩ := b
  rw [a] at b
  cases b
  rfl
theorem FdAt.of {K : PySem.W.Frag} {x q : Str} {st : Stmt} {f : Addr} {fd : FuncData} (F : Fun K x q st f fd) : FdAt K f fd := by
  obtain ⟨oc, od, kV, doc, pm, an, cdv, ct, osl, h1, lk, hcd⟩ := F.ex
  exact ⟨_, _, _, lk⟩
structure Fn (P : Program) (w : World) (K : PySem.W.Frag) (mg : Str → Option Value) (base : Heap) (x : Str) (n k : Nat) (B : Spec) : Prop where
  ex : ∃ f fd ps, FnOk P w K mg base CX0 k f fd ps (spOf K n B) ∧ mg x = some (.ref f) ∧ PySem.W.keepIn K (.ref f) = true ∧ Binds K fd ps [] ∧ ps.length = n ∧ FdAt K f fd
/-- names that are used as globals: a def's, a built-in's -/
def glB (names : List (Str × NameKind)) (x : Str) : Bool := plainName x && (match names.lookup x with | some .globalImplicit => true | _ => false)
theorem glB_of {x : Str} (h : glB names x = true) : plainName x = true ∧ names.lookup x = some .globalImplicit := by
  unfold glB at h
  rw [Bool.and_eq_true] at h
  refine ⟨h.1, ?_⟩
  have h2 := h.2
  split at h2
  · assumption
  · cases h2
theorem de_call {x : Str} {p : Pos} {e : Expr} {es : List Expr} {n j : Nat} {B : Spec} (A : At X P w K mg base tb names k) (F : Fn P w K mg base x n j B) (hc : (Nat.ble j k && Nat.beq (e :: es).length n && glB names x) = true)
    (he : starEach (e :: es) X.env = (false, eval e X.env) :: starEach es X.env) (hpl : (backTo pos (starEach es X.env)).any (·.1) = false)
    (h : DA X (e :: es) ρ S fun ds S1 => B ds S1 Φ) : DE X (.Call (.Name x p) (e :: es) [] pos) ρ S Φ := by
  rw [Bool.and_eq_true, Bool.and_eq_true] at hc
  obtain ⟨⟨hj, hn⟩, hg⟩ := hc
  obtain ⟨f, fd, ps, F, m, kp, b, _⟩ := F.ex
  cases A.prog
  cases A.w
  cases A.K
  cases A.mg
  cases A.base
  exact DE.of (pe_call F (A.room.mono (Nat.le_of_ble_eq_true hj)) (A.gl _ (glB_of hg).2) m kp b .nil pass0 pa_w (plain1 (glB_of hg).1).1 he hpl) fun Zh σ H Q E P => h.tw E fun vs H1 ds S1 k1 g1 s1 r1 l1 q1 => by
    refine ⟨?_, Zh, ds, S1, Φ, s1, by rw [k1, List.append_nil]; exact r1, q1, P.next k1 g1⟩
    rw [List.append_nil, r1.length, l1]
    exact Nat.eq_of_beq_eq_true hn
end
end Ar
namespace Ar
open PySem PySem.Spec PyProof.Rows L2

/-! ### steps of a body -/
def Step (S : Sto) (H : Hp) (S' : Sto) (H' : Hp) : Prop := Grow (keys S) H H' ∧ ∀ p, p ∈ keys S' → p ∈ keys S ∨ H p = none
theorem Step.refl {S : Sto} {H : Hp} : Step S H S H := ⟨Grow.refl, fun _ h => .inl h⟩
theorem Step.of {S S' : Sto} {H H' : Hp} (k : keys S' = keys S) (g : Grow (keys S) H H') : Step S H S' H' := ⟨g, fun _ h => .inl (by rw [← k]; exact h)⟩
theorem Step.trans {S S1 S2 : Sto} {H H1 H2 : Hp} (a : Step S H S1 H1) (b : Step S1 H1 S2 H2) : Step S H S2 H2 := by
  refine ⟨fun c x n h => b.1 c x (fun m => ?_) (a.1 c x n h), fun p m => ?_⟩
  · rcases a.2 c m with q | q
    · exact n q
    · rw [h] at q
      cases q
  · rcases b.2 p m with q | q
    · exact a.2 p q
    · by_cases hp : p ∈ keys S
      · exact .inl hp
      · cases e : H p with
        | none => exact .inr rfl
        | some x =>
          rw [a.1 p x hp e] at q
          cases q
mutual
theorem Rep.step {K : PySem.W.Frag} {Zh : List Addr} {S S' : Sto} {H H' : Hp} (z : Zl (keys S) H) (g : Step S H S' H') : ∀ {d : D} {v : V}, Rep K (keys S ++ Zh) H d v → Rep K (keys S' ++ Zh) H' d v
  | .non, _, h => by unfold Rep at h ⊢; exact h
  | .bl _, _, h => by unfold Rep at h ⊢; exact h
  | .int _, _, h => by unfold Rep at h ⊢; exact h
  | .rng _ _, _, h => by unfold Rep at h ⊢; exact h
  | .str _, _, h => by unfold Rep at h ⊢; exact h
  | .cell _, _, h => by unfold Rep at h ⊢; exact h
  | .tup l, v, h => by
    unfold Rep at h ⊢
    obtain ⟨p, vs, e, s, r⟩ := h
    exact ⟨p, vs, e, SqT.grow z g.1 s, RepL.step z g r⟩
  | .lst l, v, h => by
    unfold Rep at h ⊢
    obtain ⟨p, vs, e, n, s, r⟩ := h
    refine ⟨p, vs, e, fun m => ?_, g.1 _ _ (fun m => n (sub_l _ m)) s, RepL.step z g r⟩
    rcases List.mem_append.mp m with m | m
    · rcases g.2 p m with q | q
      · exact n (sub_l _ q)
      · rw [s] at q
        cases q
    · exact n (List.mem_append_right _ m)
  | .dct ks l, v, h => by
    unfold Rep at h ⊢
    obtain ⟨p, vs, e, n, s, r⟩ := h
    refine ⟨p, vs, e, fun m => ?_, g.1 _ _ (fun m => n (sub_l _ m)) s, RepL.step z g r⟩
    rcases List.mem_append.mp m with m | m
    · rcases g.2 p m with q | q
      · exact n (sub_l _ q)
      · rw [s] at q
        cases q
    · exact n (List.mem_append_right _ m)
  | .frz l, v, h => by
    unfold Rep at h ⊢
    obtain ⟨p, vs, e, s, r⟩ := h
    refine ⟨p, vs, e, ?_, RepL.step z g r⟩
    rcases s with ⟨n, s⟩ | s
    · refine .inl ⟨fun m => ?_, ?_⟩
      · rcases List.mem_append.mp m with m | m
        · rcases g.2 p m with q | q
          · exact n (sub_l _ q)
          · rcases s with s | ⟨o, s⟩
            · rw [s] at q
              cases q
            · rw [s] at q
              cases q
        · exact n (List.mem_append_right _ m)
      · rcases s with s | ⟨o, s⟩
        · exact .inl (g.1 _ _ (fun m => n (sub_l _ m)) s)
        · exact .inr ⟨o, g.1 _ _ (fun m => n (sub_l _ m)) s⟩
    · exact .inr s
theorem RepL.step {K : PySem.W.Frag} {Zh : List Addr} {S S' : Sto} {H H' : Hp} (z : Zl (keys S) H) (g : Step S H S' H') : ∀ {l : List D} {vs : List V}, RepL K (keys S ++ Zh) H l vs → RepL K (keys S' ++ Zh) H' l vs
  | [], _, h => by unfold RepL at h ⊢; exact h
  | d :: l, vs, h => by
    unfold RepL at h ⊢
    obtain ⟨v, r, e, h1, h2⟩ := h
    exact ⟨v, r, e, Rep.step z g h1, RepL.step z g h2⟩
end
/-! ### statements -/
structure DEnds where
  nx : Ro → Sto → Prop
  rt : D → Sto → Prop
  bk : Ro → Sto → Prop := fun _ _ => False
  ct : Ro → Sto → Prop := fun _ _ => False
def Nx (E : DEnds) (ρ : Ro) (S : Sto) : Prop := E.nx ρ S
theorem nx_norm {E : DEnds} {ρ ρ' : Ro} {S : Sto} (e : ρ = ρ') (h : E.nx ρ' S) : Nx E ρ S := by
  rw [e]
  exact h
theorem nx_mk {f : Ro → Sto → Prop} {r b c ρ S} (h : f ρ S) : DEnds.nx ⟨f, r, b, c⟩ ρ S := h
theorem rt_mk {f : D → Sto → Prop} {n b c d S} (h : f d S) : DEnds.rt ⟨n, f, b, c⟩ d S := h
theorem bk_mk {f : Ro → Sto → Prop} {n r c ρ S} (h : f ρ S) : DEnds.bk ⟨n, r, f, c⟩ ρ S := h
theorem ct_mk {f : Ro → Sto → Prop} {n r b ρ S} (h : f ρ S) : DEnds.ct ⟨n, r, b, f⟩ ρ S := h
structure EndsOk (K : PySem.W.Frag) (Zh : List Addr) (H : Hp) (S : Sto) (E : DEnds) (Dn : Ends) : Prop where
  nx : ∀ σ' H' ρ' S', Step S H S' H' → Ev K Zh H' σ' ρ' S' → E.nx ρ' S' → Dn.nx σ' H'
  rt : ∀ v H' d S', Step S H S' H' → Store K Zh H' S' → Rep K (keys S' ++ Zh) H' d v → E.rt d S' → Dn.rt v H'
  bk : ∀ σ' H' ρ' S', Step S H S' H' → Ev K Zh H' σ' ρ' S' → E.bk ρ' S' → Dn.bk σ' H'
  ct : ∀ σ' H' ρ' S', Step S H S' H' → Ev K Zh H' σ' ρ' S' → E.ct ρ' S' → Dn.ct σ' H'
theorem EndsOk.next {K : PySem.W.Frag} {Zh : List Addr} {H H1 : Hp} {S S1 : Sto} {E : DEnds} {Dn : Ends} (k : EndsOk K Zh H S E Dn) (s : Step S H S1 H1) : EndsOk K Zh H1 S1 E Dn :=
  ⟨fun _ _ _ _ t => k.nx _ _ _ _ (s.trans t), fun _ _ _ _ t => k.rt _ _ _ _ (s.trans t), fun _ _ _ _ t => k.bk _ _ _ _ (s.trans t), fun _ _ _ _ t => k.ct _ _ _ _ (s.trans t)⟩
def DS (X : Cx) (st : Stmt) (ρ : Ro) (S : Sto) (E : DEnds) : Prop :=
  ∀ (Zh : List Addr) (pins : List (Addr × Obj)) (s : Shared) (σ : L2.St) (H : Hp) (Dn : Ends), Inv X pins σ H s → Ev X.K Zh H σ ρ S → EndsOk X.K Zh H S E Dn → wpAny (model X.prog X.w) X.A (exec st X.env) (SP X pins Dn) X.xe s
def DSs (X : Cx) (st : List Stmt) (ρ : Ro) (S : Sto) (E : DEnds) : Prop :=
  ∀ (Zh : List Addr) (pins : List (Addr × Obj)) (s : Shared) (σ : L2.St) (H : Hp) (Dn : Ends), Inv X pins σ H s → Ev X.K Zh H σ ρ S → EndsOk X.K Zh H S E Dn → wpAny (model X.prog X.w) X.A (execs st X.env) (SP X pins Dn) X.xe s
def tsW (X : Cx) (st : Stmt) : TS := fun Dn σ H => ∀ (pins : List (Addr × Obj)) (s : Shared), Inv X pins σ H s → wpAny (model X.prog X.w) X.A (exec st X.env) (SP X pins Dn) X.xe s
def tssW (X : Cx) (st : List Stmt) : TS := fun Dn σ H => ∀ (pins : List (Addr × Obj)) (s : Shared), Inv X pins σ H s → wpAny (model X.prog X.w) X.A (execs st X.env) (SP X pins Dn) X.xe s
section
variable {X : Cx} {ρ : Ro} {S : Sto} {E : DEnds} {st : Stmt} {sts : List Stmt}
theorem ps_w : PS X st (tsW X st) := ⟨fun pins s _ _ _ I h => h pins s I⟩
theorem pss_w : PSs X sts (tssW X sts) := ⟨fun pins s _ _ _ I h => h pins s I⟩
theorem DS.of {t : TS} (p : PS X st t) (h : ∀ Zh σ H Dn, Ev X.K Zh H σ ρ S → EndsOk X.K Zh H S E Dn → t Dn σ H) : DS X st ρ S E := fun Zh pins s σ H Dn I e k => p.run pins s σ H Dn I (h Zh σ H Dn e k)
theorem DSs.of {t : TS} (p : PSs X sts t) (h : ∀ Zh σ H Dn, Ev X.K Zh H σ ρ S → EndsOk X.K Zh H S E Dn → t Dn σ H) : DSs X sts ρ S E := fun Zh pins s σ H Dn I e k => p.run pins s σ H Dn I (h Zh σ H Dn e k)
theorem DS.tw {Zh : List Addr} {σ : L2.St} {H : Hp} {Dn : Ends} (h : DS X st ρ S E) (e : Ev X.K Zh H σ ρ S) (k : EndsOk X.K Zh H S E Dn) : tsW X st Dn σ H := fun pins s I => h Zh pins s σ H Dn I e k
theorem DSs.tw {Zh : List Addr} {σ : L2.St} {H : Hp} {Dn : Ends} (h : DSs X sts ρ S E) (e : Ev X.K Zh H σ ρ S) (k : EndsOk X.K Zh H S E Dn) : tssW X sts Dn σ H := fun pins s I => h Zh pins s σ H Dn I e k
theorem ds_nil (h : E.nx ρ S) : DSs X [] ρ S E := DSs.of pss_nil fun Zh σ H Dn e k => k.nx σ H ρ S Step.refl e h
theorem ds_cons (h : DS X st ρ S { E with nx := fun r s => DSs X sts r s E }) : DSs X (st :: sts) ρ S E := DSs.of (pss_cons ps_w pss_w) fun Zh σ H Dn e k =>
  h.tw e ⟨fun σ' H' ρ' S' t e' q => q.tw e' (k.next t), k.rt, k.bk, k.ct⟩
theorem ds_one (h : DS X st ρ S E) : DSs X [st] ρ S E := DSs.of (pss_one ps_w) fun Zh σ H Dn e k => h.tw e k
variable {pos : Pos} {e : Expr}
theorem ds_ret (h : DE X e ρ S E.rt) : DS X (.Return (some e) pos) ρ S E := DS.of (ps_ret pe_w) fun Zh σ H Dn ev k => h.tw ev fun v H' d S' k' g s r q => k.rt v H' d S' (.of k' g) s (by rw [k']; exact r) q
theorem ds_retN (h : E.rt .non S) : DS X (.Return none pos) ρ S E := DS.of ps_retN fun Zh σ H Dn ev k => k.rt .non H .non S Step.refl ev.st rep_non h
theorem ds_pass (h : E.nx ρ S) : DS X (.Pass pos) ρ S E := DS.of ps_pass fun Zh σ H Dn ev k => k.nx σ H ρ S Step.refl ev h
theorem ds_break (h : E.bk ρ S) : DS X (.Break pos) ρ S E := DS.of ps_break fun Zh σ H Dn ev k => k.bk σ H ρ S Step.refl ev h
theorem ds_continue (h : E.ct ρ S) : DS X (.Continue pos) ρ S E := DS.of ps_continue fun Zh σ H Dn ev k => k.ct σ H ρ S Step.refl ev h
theorem ds_never (h : False) : DS X st ρ S E := h.elim
theorem ds_if {c : Expr} {a b : List Stmt} (h : DT X c ρ S fun k S1 => if k = true then DSs X a ρ S1 E else DSs X b ρ S1 E) : DS X (.If c a b pos) ρ S E := DS.of (ps_if pt_w pss_w pss_w) fun Zh σ H Dn ev k =>
  h.tw ev fun c H1 S1 k1 g1 s1 q => by
    have ev1 := ev.next k1 g1 s1
    have k2 := k.next (Step.of k1 g1)
    cases c with
    | true => exact q.tw ev1 k2
    | false => exact q.tw ev1 k2
variable {P : Program} {w : World} {K : PySem.W.Frag} {mg : Str → Option Value} {base : Heap} {tb : List (Str × Nat)} {names : List (Str × NameKind)} {k : Nat}
theorem ds_set {x : Str} {pos' : Pos} (A : At X P w K mg base tb names k) (hs : swapsWith e (some (.Name x pos')) pos.line X.env = pure false) 
    (h : ∃ i, tb.lookup x = some i ∧ stB (names.lookup x) = true ∧ DE X e ρ S fun d S1 => Nx E (ρ.set i (some d)) S1) : DS X (.Assign [.Name x pos'] e pos) ρ S E := by
  obtain ⟨i, hi, hv, h⟩ := h
  exact DS.of (ps_set A.nd (A.slot _ _ hi) (A.sto _ hv).1 pe_w hs (A.sto _ hv).2) fun Zh σ H Dn ev k => h.tw ev fun v H' d S' k' g s r q => by
    have ev1 := ev.next k' g s
    exact k.nx _ _ _ _ (.of k' g) (ev1.put (by rw [k']; exact r)) q
theorem ds_expr (hs : swapsWith e none pos.line X.env = pure false) (h : DE X e ρ S fun _ S1 => E.nx ρ S1) : DS X (.Expr e pos) ρ S E :=
  DS.of (ps_expr pe_w hs) fun Zh σ H Dn ev k => h.tw ev fun v H' d S' k' g s r q => k.nx _ _ _ _ (.of k' g) (ev.next k' g s) q
def locB (names : List (Str × NameKind)) (x : Str) : Bool := match names.lookup x with | some .local => true | _ => false
theorem locB_of {x : Str} (h : locB names x = true) : names.lookup x = some .local := by
  unfold locB at h
  split at h
  · assumption
  · cases h
theorem ne_of_beq {i j : Nat} (h : Nat.beq i j = false) : i ≠ j := fun e => by
  subst e
  rw [Nat.beq_refl] at h
  cases h
theorem ds_par {x y : Str} {a b : Expr} {px py pt : Pos} {kt k2 pt2} (A : At X P w K mg base tb names k) 
    (hw : swappedStores [.Tuple [.Name x px, .Name y py] kt pt] (.Tuple [a, b] k2 pt2) X.env = pure (some [x, y]))
    (hs : swapsWithSole [.Tuple [.Name x px, .Name y py] kt pt] (.Tuple [a, b] k2 pt2) pos.line X.env = pure false)
    (h : ∃ i j, tb.lookup x = some i ∧ tb.lookup y = some j ∧ Nat.beq i j = false ∧ (locB names x && locB names y) = true ∧
      DA X [a, b] ρ S fun ds S1 => ∃ c d, ds = [c, d] ∧ Nx E ((ρ.set i (some c)).set j (some d)) S1) : DS X (.Assign [.Tuple [.Name x px, .Name y py] kt pt] (.Tuple [a, b] k2 pt2) pos) ρ S E := by
  obtain ⟨i, j, hi, hj, hij, hv, h⟩ := h
  rw [Bool.and_eq_true] at hv
  exact DS.of (ps_par A.calm A.nd (A.slot _ _ hi) (A.slot _ _ hj) (ne_of_beq hij) (A.loc _ (locB_of hv.1)) (A.loc _ (locB_of hv.2)) pa_w hw hs) fun Zh σ H Dn ev k => h.tw ev fun vs H' ds S' k' g s r l q => by
    obtain ⟨c, d, rfl, q⟩ := q
    obtain ⟨v, r1, rfl, rv, r⟩ := r.uncons
    obtain ⟨u, r2, rfl, ru, r⟩ := r.uncons
    cases r.un0
    have ev1 := ev.next k' g s
    exact ⟨v, u, rfl, k.nx _ _ _ _ (.of k' g) ((ev1.put (by rw [k']; exact rv)).put (by rw [k']; exact ru)) q⟩
theorem ds_par3 {x y z : Str} {a b c : Expr} {px py pz pt : Pos} {kt k2 pt2} (A : At X P w K mg base tb names k) 
    (hw : swappedStores [.Tuple [.Name x px, .Name y py, .Name z pz] kt pt] (.Tuple [a, b, c] k2 pt2) X.env = pure (some [x, y, z]))
    (hs : swapsWithSole [.Tuple [.Name x px, .Name y py, .Name z pz] kt pt] (.Tuple [a, b, c] k2 pt2) pos.line X.env = pure false)
    (h : ∃ i j l, tb.lookup x = some i ∧ tb.lookup y = some j ∧ tb.lookup z = some l ∧ (Nat.beq i j = false ∧ Nat.beq i l = false ∧ Nat.beq j l = false) ∧ (locB names x && locB names y && locB names z) = true ∧
      DA X [a, b, c] ρ S fun ds S1 => ∃ a b c, ds = [a, b, c] ∧ Nx E (((ρ.set i (some a)).set j (some b)).set l (some c)) S1) : DS X (.Assign [.Tuple [.Name x px, .Name y py, .Name z pz] kt pt] (.Tuple [a, b, c] k2 pt2) pos) ρ S E := by
  obtain ⟨i, j, l, hi, hj, hl, ⟨hij, hil, hjl⟩, hv, h⟩ := h
  rw [Bool.and_eq_true, Bool.and_eq_true] at hv
  exact DS.of (ps_par3 A.calm A.nd (A.slot _ _ hi) (A.slot _ _ hj) (A.slot _ _ hl) (ne_of_beq hij) (ne_of_beq hil) (ne_of_beq hjl) (A.loc _ (locB_of hv.1.1)) (A.loc _ (locB_of hv.1.2)) (A.loc _ (locB_of hv.2)) pa_w hw hs) fun Zh σ H Dn ev k => h.tw ev fun vs H' ds S' k' g s r l q => by
    obtain ⟨a, b, c, rfl, q⟩ := q
    obtain ⟨v, r1, rfl, rv, r⟩ := r.uncons
    obtain ⟨u, r2, rfl, ru, r⟩ := r.uncons
    obtain ⟨u3, r3, rfl, ru3, r⟩ := r.uncons
    cases r.un0
    have ev1 := ev.next k' g s
    exact ⟨v, u, u3, rfl, k.nx _ _ _ _ (.of k' g) (((ev1.put (by rw [k']; exact rv)).put (by rw [k']; exact ru)).put (by rw [k']; exact ru3)) q⟩
end
/-! ### a def -/
inductive RetP (S0 : Sto) (Φ : D → Sto → Prop) : D → Sto → Prop where
  | mk {d : D} {S2 R : Sto} (h : keys S2 = keys S0) (q : Φ d S2) : RetP S0 Φ d (S2 ++ R)
  | cell {p : Addr} {l : List D} {S2 R : Sto} (h : keys S2 = keys S0) (m : (p, l) ∈ R) (q : Φ (.lst l) S2) : RetP S0 Φ (.cell p) (S2 ++ R)
theorem RetP.here {S0 S : Sto} {Φ : D → Sto → Prop} {d : D} (h : keys S = keys S0) (q : Φ d S) : RetP S0 Φ d S := by
  have z := RetP.mk (R := []) h q
  rw [List.append_nil] at z
  exact z
theorem RetP.same {S : Sto} {Φ : D → Sto → Prop} {d : D} (q : Φ d S) : RetP S Φ d S := .here rfl q
mutual
theorem Rep.shrink {K : PySem.W.Frag} {Z Z' : List Addr} {H : Hp} (z : ∀ p, p ∈ Z' → p ∈ Z) : ∀ {d : D} {v : V}, Rep K Z H d v → Rep K Z' H d v
  | .non, _, h => by unfold Rep at h ⊢; exact h
  | .bl _, _, h => by unfold Rep at h ⊢; exact h
  | .int _, _, h => by unfold Rep at h ⊢; exact h
  | .rng _ _, _, h => by unfold Rep at h ⊢; exact h
  | .str _, _, h => by unfold Rep at h ⊢; exact h
  | .cell _, _, h => by unfold Rep at h ⊢; exact h
  | .tup l, v, h => by
    unfold Rep at h ⊢
    obtain ⟨p, vs, e, s, r⟩ := h
    exact ⟨p, vs, e, s, RepL.shrink z r⟩
  | .lst l, v, h => by
    unfold Rep at h ⊢
    obtain ⟨p, vs, e, n, s, r⟩ := h
    exact ⟨p, vs, e, fun m => n (z _ m), s, RepL.shrink z r⟩
  | .dct ks l, v, h => by
    unfold Rep at h ⊢
    obtain ⟨p, vs, e, n, s, r⟩ := h
    exact ⟨p, vs, e, fun m => n (z _ m), s, RepL.shrink z r⟩
  | .frz l, v, h => by
    unfold Rep at h ⊢
    obtain ⟨p, vs, e, s, r⟩ := h
    exact ⟨p, vs, e, s.imp (fun t => ⟨fun m => t.1 (z _ m), t.2⟩) id, RepL.shrink z r⟩
theorem RepL.shrink {K : PySem.W.Frag} {Z Z' : List Addr} {H : Hp} (z : ∀ p, p ∈ Z' → p ∈ Z) : ∀ {l : List D} {vs : List V}, RepL K Z H l vs → RepL K Z' H l vs
  | [], _, h => by unfold RepL at h ⊢; exact h
  | d :: l, vs, h => by
    unfold RepL at h ⊢
    obtain ⟨v, r, e, h1, h2⟩ := h
    exact ⟨v, r, e, Rep.shrink z h1, RepL.shrink z h2⟩
end
theorem keys_append (S R : Sto) : keys (S ++ R) = keys S ++ keys R := by
  unfold keys
  rw [List.map_append]
theorem Store.drop {K : PySem.W.Frag} {Zh : List Addr} {H : Hp} {S R : Sto} (s : Store K Zh H (S ++ R)) : Store K Zh H S := ⟨by
  have z := s.nd
  rw [keys_append] at z
  exact (List.nodup_append.mp z).1, fun p l m => by
  obtain ⟨vs, h1, h2⟩ := s.st p l (List.mem_append_left _ m)
  refine ⟨vs, h1, h2.shrink fun q hq => ?_⟩
  rw [keys_append]
  rcases List.mem_append.mp hq with z | z
  · exact List.mem_append_left _ (List.mem_append_left _ z)
  · exact List.mem_append_right _ z, fun p m => by
  obtain ⟨n, e⟩ := s.hid p m
  exact ⟨fun z => n (by rw [keys_append]; exact List.mem_append_left _ z), e⟩⟩
theorem lookup_map_get {α : Type} {l : List (Option α)} {n : Nat} : True := trivial
section
variable {P : Program} {w : World} {K : PySem.W.Frag} {mg : Str → Option Value} {base : Heap}
theorem ev_start {N : List Str} {H : Hp} {S : Sto} {ds : List D} {vs : List V} (s : Store K Zh H S) (r : RepL K (keys S ++ Zh) H ds vs) : Ev K Zh H (L2.start N vs) (ds.map some ++ List.replicate (N.length - ds.length) none) S := by
  refine ⟨s, ?_, fun i d h => ?_⟩
  · unfold L2.start
    rw [List.length_append, List.length_append, List.length_map, List.length_map, List.length_replicate, List.length_replicate, r.length]
  · by_cases hi : i < ds.length
    · rw [List.getElem?_append_left (by rw [List.length_map]; exact hi), List.getElem?_map] at h
      cases e : ds[i]? with
      | none => rw [e] at h; cases h
      | some c =>
        rw [e] at h
        have e2 : c = d := Option.some.inj (Option.some.inj h)
        subst e2
        obtain ⟨v, e3, r3⟩ := r.get e
        refine ⟨v, ?_, r3⟩
        unfold L2.start
        rw [List.getElem?_append_left (by rw [List.length_map, r.length]; exact hi), List.getElem?_map, e3]
        rfl
    · rw [List.getElem?_append_right (by rw [List.length_map]; omega), List.getElem?_replicate] at h
      split at h <;> cases h
theorem at_def {N ps : List Str} {tb : List (Str × Nat)} (ht : ∀ x i, tb.lookup x = some i → N[i]? = some x) (hc : ∀ x, x ∈ N → (tb.lookup x).isSome = true) {qual : Str} {sc : Scope} {f : Addr} {cd : Value} {A : Around} {outer : List Env} {s : Shared} {H : Hp} {E : XK} {k : Nat} (F : FnScope N ps sc) (hr : Room k (A.deeper (envOfC qual sc s.heap.objs.size f cd))) :
    At (cxOf CX0 P w K mg base N qual sc f cd A outer s H E).nox P w K mg base tb sc.names k where
  prog := rfl
  w := rfl
  K := rfl
  mg := rfl
  base := rfl
  slot := ht
  cov := hc
  vis := fun x h => by
    show Vis sc x
    unfold Vis
    revert h
    cases sc.names.lookup x with
    | none => intro h; cases h
    | some k => cases k <;> intro h <;> first | exact .inl rfl | exact .inr (.inl rfl) | exact .inr (.inr rfl) | cases h
  gl := fun x h => h
  sto := fun x h => by
    refine ⟨?_, .inl rfl⟩
    show L2.Loc sc x
    unfold L2.Loc
    revert h
    cases sc.names.lookup x with
    | none => intro h; cases h
    | some k => cases k <;> intro h <;> first | exact .inl rfl | exact .inr rfl | cases h
  loc := fun x h => h
  cf := fun x h => by
    show sc.names.lookup x = some .cell ∨ sc.names.lookup x = some .free
    revert h
    cases sc.names.lookup x with
    | none => intro h; cases h
    | some k => cases k <;> intro h <;> first | exact .inl rfl | exact .inr rfl | cases h
  kind := F.kind
  room := hr
  calm := rfl
  nd := F.nd
  own := PassesOwn.never
/-- the slots of names, by a table -/
def tbOk (N : List Str) (tb : List (Str × Nat)) : Bool := (tb.all fun p => decide (N[p.2]? = some p.1)) && N.all fun x => (tb.lookup x).isSome
theorem tbOk_of {N : List Str} {tb : List (Str × Nat)} (h : tbOk N tb = true) : ∀ x i, tb.lookup x = some i → N[i]? = some x := fun x i e => by
  unfold tbOk at h
  rw [Bool.and_eq_true, List.all_eq_true] at h
  exact of_decide_eq_true (h.1 (x, i) (PySem.mem_of_lookup e))
theorem tbOk_cov {N : List Str} {tb : List (Str × Nat)} (h : tbOk N tb = true) : ∀ x, x ∈ N → (tb.lookup x).isSome = true := fun x hx => by
  unfold tbOk at h
  rw [Bool.and_eq_true, List.all_eq_true, List.all_eq_true] at h
  exact h.2 x hx
/-- a def keeps its contract by data -/
theorem fn_data {tb : List (Str × Nat)} {x qual : Str} {st : Stmt} {f : Addr} {fd : FuncData} {N ps : List Str} {k : Nat} {n : Nat} {names : List (Str × NameKind)} {B : Spec} (F : Fun K x qual st f fd) (Sc : FnScope N ps (defScope st)) (hn : ps.length = n) (hnm : (defScope st).names = names) (ht : tbOk N tb = true)
    (hm : mg x = some (.ref f)) (hb : Binds K fd ps [])
    (body : ∀ X, At X P w K mg base tb names k → ∀ ds S Φ, ds.length = n → B ds S Φ → DSs X (defBody st) (ds.map some ++ List.replicate (N.length - ds.length) none) S { nx := fun _ S' => RetP S Φ .non S', rt := RetP S Φ }) : Fn P w K mg base x n (k + 1) B := by
  refine ⟨f, fd, ps, F.ok Sc (fun vs H Q E h => by rw [h.1, hn]) (fun cdv A outer s H vs Q E hr h => ?_), hm, F.kp, hb, hn, .of F⟩
  obtain ⟨hl, Zh, ds, S, Φ, hS, hR, hB, hP⟩ := h
  have hat := at_def (P := P) (w := w) (K := K) (mg := mg) (base := base) (qual := qual) (f := f) (cd := cdv) (A := A) (outer := outer) (s := s) (H := H) (E := E) (tbOk_of ht) (tbOk_cov ht) Sc hr
  rw [hnm] at hat
  have b := body _ hat ds S Φ (by rw [← hR.length]; exact hl) hB
  refine ⟨_, pss_w, b.tw (ev_start hS hR) ?_⟩
  have fin : ∀ v H' d S', Step S H S' H' → Store K Zh H' S' → Rep K (keys S' ++ Zh) H' d v → RetP S Φ d S' → Q v H' := fun v H' d S' t s' r q => by
    have sub : ∀ {S2 R : Sto}, keys S2 = keys S → ∀ p, p ∈ keys S ++ Zh → p ∈ keys (S2 ++ R) ++ Zh := fun {S2 R} h p m => by
      rw [keys_append, h]
      rcases List.mem_append.mp m with z | z
      · exact List.mem_append_left _ (List.mem_append_left _ z)
      · exact List.mem_append_right _ z
    cases q with
    | mk h q =>
      rename_i S2 R
      exact hP v H' d S2 h t.1 s'.drop (r.shrink (sub h)) q
    | cell h m q =>
      rename_i p l S2 R
      obtain ⟨vs, h1, h2⟩ := s'.st p l (List.mem_append_right _ m)
      refine hP v H' (.lst l) S2 h t.1 s'.drop ?_ q
      rw [r.cell]
      unfold Rep
      refine ⟨p, vs, rfl, fun n => ?_, h1, h2.shrink (sub h)⟩
      have pk : p ∈ keys (S2 ++ R) := by
        rw [keys_append]
        exact List.mem_append_right _ (List.mem_map.mpr ⟨_, m, rfl⟩)
      rcases List.mem_append.mp n with z | z
      · have nd := s'.nd
        rw [keys_append, List.nodup_append] at nd
        exact nd.2.2 p (by rw [h]; exact z) p (List.mem_map.mpr ⟨_, m, rfl⟩) rfl
      · exact (s'.hid p z).1 pk
  exact ⟨fun σ' H' ρ' S' t ev q => fin .non H' .non S' t ev.st rep_non q, fin, fun _ _ _ _ _ _ q => q.elim, fun _ _ _ _ _ _ q => q.elim⟩
end
end Ar
namespace Ar
open PySem PySem.Spec PyProof.Rows L2

/-! ### targets -/
def PostG (K : PySem.W.Frag) (Zh : List Addr) (H : Hp) (S : Sto) (σ : L2.St) (ok : Nat → Bool) (Φ : Ro → Sto → Prop) (Q : L2.St → Hp → Prop) : Prop :=
  ∀ σ' H' ρ' S', keys S' = keys S → Grow (keys S) H H' → Ev K Zh H' σ' ρ' S' → σ'.length = σ.length → (∀ j, ok j = false → σ'[j]? = σ[j]?) → Φ ρ' S' → Q σ' H'
def DG (X : Cx) (ok : Nat → Bool) (tg : Expr) (d : D) (ρ : Ro) (S : Sto) (Φ : Ro → Sto → Prop) : Prop :=
  ∀ (Zh : List Addr) (pins : List (Addr × Obj)) (s : Shared) (σ : L2.St) (H : Hp) (v : V) (u : Value) (Q : L2.St → Hp → Prop), Inv X pins σ H s → Ev X.K Zh H σ ρ S → Rep X.K (keys S ++ Zh) H d v → RelV v u → PostG X.K Zh H S σ ok Φ Q →
    wpAny (model X.prog X.w) X.A (assign tg X.env u) (fun _ s' => ∃ σ' H', Inv X pins σ' H' s' ∧ Q σ' H') X.xe s
def DGs (X : Cx) (ok : Nat → Bool) (ts : List Expr) (ds : List D) (ρ : Ro) (S : Sto) (Φ : Ro → Sto → Prop) : Prop :=
  ∀ (Zh : List Addr) (pins : List (Addr × Obj)) (s : Shared) (σ : L2.St) (H : Hp) (vs : List V) (us : List Value) (Q : L2.St → Hp → Prop), Inv X pins σ H s → Ev X.K Zh H σ ρ S → RepL X.K (keys S ++ Zh) H ds vs → Vals vs us → PostG X.K Zh H S σ ok Φ Q →
    wpAny (model X.prog X.w) X.A (assignInOrder ((assignEach ts X.env).map (·.2)) us) (fun _ s' => ∃ σ' H', Inv X pins σ' H' s' ∧ Q σ' H') X.xe s
def gW (X : Cx) (tg : Expr) : TG := fun v σ H Q => ∀ (pins : List (Addr × Obj)) (s : Shared) (u : Value), Inv X pins σ H s → RelV v u → wpAny (model X.prog X.w) X.A (assign tg X.env u) (fun _ s' => ∃ σ' H', Inv X pins σ' H' s' ∧ Q σ' H') X.xe s
def gsW (X : Cx) (ts : List Expr) : TGs := fun vs σ H Q => ∀ (pins : List (Addr × Obj)) (s : Shared) (us : List Value), Inv X pins σ H s → Vals vs us →
  wpAny (model X.prog X.w) X.A (assignInOrder ((assignEach ts X.env).map (·.2)) us) (fun _ s' => ∃ σ' H', Inv X pins σ' H' s' ∧ Q σ' H') X.xe s
section
variable {X : Cx} {ρ : Ro} {S : Sto} {ok : Nat → Bool} {tg : Expr} {ts : List Expr} {d : D} {ds : List D} {Φ : Ro → Sto → Prop}
theorem pg_w : PG X tg (gW X tg) := ⟨fun pins s _ _ _ u _ I r h => h pins s u I r⟩
theorem pgs_w : PGs X ts (gsW X ts) := ⟨fun pins s _ _ _ u _ I r h => h pins s u I r⟩
theorem DG.of {t : TG} (p : PG X tg t) (h : ∀ Zh σ H v Q, Ev X.K Zh H σ ρ S → Rep X.K (keys S ++ Zh) H d v → PostG X.K Zh H S σ ok Φ Q → t v σ H Q) : DG X ok tg d ρ S Φ := fun Zh pins s σ H v u Q I E r rv k => p.run pins s σ H v u Q I rv (h Zh σ H v Q E r k)
theorem DGs.of {t : TGs} (p : PGs X ts t) (h : ∀ Zh σ H vs Q, Ev X.K Zh H σ ρ S → RepL X.K (keys S ++ Zh) H ds vs → PostG X.K Zh H S σ ok Φ Q → t vs σ H Q) : DGs X ok ts ds ρ S Φ := fun Zh pins s σ H v u Q I E r rv k => p.run pins s σ H v u Q I rv (h Zh σ H v Q E r k)
theorem DG.tw {Zh : List Addr} {σ : L2.St} {H : Hp} {v : V} {Q : L2.St → Hp → Prop} (h : DG X ok tg d ρ S Φ) (E : Ev X.K Zh H σ ρ S) (r : Rep X.K (keys S ++ Zh) H d v) (k : PostG X.K Zh H S σ ok Φ Q) : gW X tg v σ H Q := fun pins s u I rv => h Zh pins s σ H v u Q I E r rv k
theorem DGs.tw {Zh : List Addr} {σ : L2.St} {H : Hp} {v : List V} {Q : L2.St → Hp → Prop} (h : DGs X ok ts ds ρ S Φ) (E : Ev X.K Zh H σ ρ S) (r : RepL X.K (keys S ++ Zh) H ds v) (k : PostG X.K Zh H S σ ok Φ Q) : gsW X ts v σ H Q := fun pins s u I rv => h Zh pins s σ H v u Q I E r rv k
variable {P : Program} {w : World} {K : PySem.W.Frag} {mg : Str → Option Value} {base : Heap} {tb : List (Str × Nat)} {names : List (Str × NameKind)} {k : Nat} {pos : Pos}
def NxG (Φ : Ro → Sto → Prop) (ρ : Ro) (S : Sto) : Prop := Φ ρ S
theorem nxG_norm {Φ : Ro → Sto → Prop} {ρ ρ' : Ro} {S : Sto} (e : ρ = ρ') (h : Φ ρ' S) : NxG Φ ρ S := by
  rw [e]
  exact h
theorem dg_name {x : Str} (A : At X P w K mg base tb names k) (h : ∃ i, tb.lookup x = some i ∧ (stB (names.lookup x) && ok i) = true ∧ NxG Φ (ρ.set i (some d)) S) : DG X ok (.Name x pos) d ρ S Φ := by
  obtain ⟨i, hi, hv, h⟩ := h
  rw [Bool.and_eq_true] at hv
  exact DG.of (pg_name A.nd (A.slot _ _ hi) (A.sto _ hv.1).1 (A.sto _ hv.1).2) fun Zh σ H v Q E r k => k _ _ _ _ rfl Grow.refl (E.put r) List.length_set (fun j hj => by
    rw [List.getElem?_set_ne]
    intro e
    subst e
    rw [hv.2] at hj
    cases hj) h
theorem dgs_nil (h : Φ ρ S) : DGs X ok [] [] ρ S Φ := DGs.of pgs_nil fun Zh σ H vs Q E r k => ⟨r.un0, k _ _ _ _ rfl Grow.refl E rfl (fun _ _ => rfl) h⟩
theorem dgs_cons (hs : (assignEach (tg :: ts) X.env).map (·.2) = assign tg X.env :: (assignEach ts X.env).map (·.2)) (h : DG X ok tg d ρ S fun ρ1 S1 => DGs X ok ts ds ρ1 S1 Φ) : DGs X ok (tg :: ts) (d :: ds) ρ S Φ :=
  DGs.of (pgs_cons pg_w pgs_w hs) fun Zh σ H vs Q E r k => by
    obtain ⟨v, r', rfl, rv, rr⟩ := r.uncons
    refine ⟨v, r', rfl, h.tw E rv fun σ1 H1 ρ1 S1 k1 g1 E1 l1 o1 q1 => q1.tw E1 (by rw [k1]; exact E.st.grL g1 rr) fun σ2 H2 ρ2 S2 k2 g2 E2 l2 o2 q2 =>
      k σ2 H2 ρ2 S2 (k2.trans k1) (g1.trans (by rw [← k1]; exact g2)) E2 (l2.trans l1) (fun j hj => (o2 j hj).trans (o1 j hj)) q2⟩
theorem dg_tup {es : List Expr} {kk : Nat} {n : Nat} (A : At X P w K mg base tb names k) (hn : (assignEach es X.env).length = n) (hst : (assignEach es X.env).findIdx? (·.1) = none) (h : ∃ l, d = .tup l ∧ Nat.beq l.length n = true ∧ DGs X ok es l ρ S Φ) : DG X ok (.Tuple es kk pos) d ρ S Φ := by
  obtain ⟨l, rfl, hl, h⟩ := h
  exact DG.of (pg_tup A.calm pgs_w hn hst) fun Zh σ H v Q E r k => by
    obtain ⟨p, vs, rfl, sq, rl⟩ := r.tup
    exact ⟨p, vs, rfl, sq, by rw [rl.length]; exact Nat.eq_of_beq_eq_true hl, h.tw E rl k⟩
theorem ds_asg {e : Expr} {E : DEnds} (hs : swapsWithSole [tg] e pos.line X.env = pure false) (hw : swappedStores [tg] e X.env = pure none) (h1 : (assignEach [tg] X.env).map (·.2) = [assign tg X.env])
    (h : DE X e ρ S fun d S1 => DG X (fun _ => true) tg d ρ S1 E.nx) : DS X (.Assign [tg] e pos) ρ S E :=
  DS.of (ps_asg pe_w pg_w hs hw h1) fun Zh σ H Dn ev k => h.bind ev fun v H1 d S1 k1 g1 E1 r1 h1 => h1.tw E1 r1 fun σ2 H2 ρ2 S2 k2 g2 E2 l2 o2 q2 =>
    k.nx _ _ _ _ ((Step.of k1 g1).trans (Step.of k2 g2)) E2 q2
end
/-! ### what is walked -/
structure ItOk (K : PySem.W.Frag) (Zh : List Addr) (S : Sto) (H0 : Hp) (ds : List D) (J : It) : Prop where
  go : ∀ i S' H, Step S H0 S' H → i < ds.length → J.go i H
  stop : ∀ S' H, Step S H0 S' H → J.stop ds.length H
  yld : ∀ i S' H x H' Zx, (∀ p, p ∈ Zx → H0 p = none) → Step S H0 S' H → Store K (Zx ++ Zh) H S' → i < ds.length → J.yld i H x H' → ∃ d, ds[i]? = some d ∧ Same H H' ∧ Rep K (keys S' ++ (Zx ++ Zh)) H' d x
mutual
theorem Rep.fresh {K : PySem.W.Frag} {A Zh Zx : List Addr} {H : Hp} (z : ∀ p, p ∈ Zx → H p = none) : ∀ {d : D} {v : V}, Rep K (A ++ Zh) H d v → Rep K (A ++ (Zx ++ Zh)) H d v
  | .non, _, h => by unfold Rep at h ⊢; exact h
  | .bl _, _, h => by unfold Rep at h ⊢; exact h
  | .int _, _, h => by unfold Rep at h ⊢; exact h
  | .rng _ _, _, h => by unfold Rep at h ⊢; exact h
  | .str _, _, h => by unfold Rep at h ⊢; exact h
  | .cell _, _, h => by unfold Rep at h ⊢; exact h
  | .tup l, v, h => by
    unfold Rep at h ⊢
    obtain ⟨p, vs, e, s, r⟩ := h
    exact ⟨p, vs, e, s, RepL.fresh z r⟩
  | .lst l, v, h => by
    unfold Rep at h ⊢
    obtain ⟨p, vs, e, n, s, r⟩ := h
    refine ⟨p, vs, e, fun m => ?_, s, RepL.fresh z r⟩
    rcases List.mem_append.mp m with m | m
    · exact n (List.mem_append_left _ m)
    · rcases List.mem_append.mp m with m | m
      · rw [z p m] at s
        cases s
      · exact n (List.mem_append_right _ m)
  | .dct ks l, v, h => by
    unfold Rep at h ⊢
    obtain ⟨p, vs, e, n, s, r⟩ := h
    refine ⟨p, vs, e, fun m => ?_, s, RepL.fresh z r⟩
    rcases List.mem_append.mp m with m | m
    · exact n (List.mem_append_left _ m)
    · rcases List.mem_append.mp m with m | m
      · rw [z p m] at s
        cases s
      · exact n (List.mem_append_right _ m)
  | .frz l, v, h => by
    unfold Rep at h ⊢
    obtain ⟨p, vs, e, s, r⟩ := h
    refine ⟨p, vs, e, s.imp (fun t => ⟨fun m => ?_, t.2⟩) id, RepL.fresh z r⟩
    rcases List.mem_append.mp m with m | m
    · exact t.1 (List.mem_append_left _ m)
    · rcases List.mem_append.mp m with m | m
      · rcases t.2 with s | ⟨o, s⟩
        · rw [z p m] at s
          cases s
        · rw [z p m] at s
          cases s
      · exact t.1 (List.mem_append_right _ m)
theorem RepL.fresh {K : PySem.W.Frag} {A Zh Zx : List Addr} {H : Hp} (z : ∀ p, p ∈ Zx → H p = none) : ∀ {l : List D} {vs : List V}, RepL K (A ++ Zh) H l vs → RepL K (A ++ (Zx ++ Zh)) H l vs
  | [], _, h => by unfold RepL at h ⊢; exact h
  | d :: l, vs, h => by
    unfold RepL at h ⊢
    obtain ⟨v, r, e, h1, h2⟩ := h
    exact ⟨v, r, e, Rep.fresh z h1, RepL.fresh z h2⟩
end
def DI (X : Cx) (tg iter : Expr) (ρ : Ro) (S : Sto) (Φ : List D → Sto → Prop) : Prop :=
  ∀ (Zh : List Addr) (pins : List (Addr × Obj)) (s : Shared) (σ : L2.St) (H : Hp) (R : It → Hp → Prop), Inv X pins σ H s → Ev X.K Zh H σ ρ S →
    (∀ J H' ds S', keys S' = keys S → Grow (keys S) H H' → Store X.K Zh H' S' → ItOk X.K Zh S' H' ds J → Φ ds S' → R J H') →
    wpAny (model X.prog X.w) X.A (eval iter X.env) (fun v s1 => wpAny (model X.prog X.w) X.A (pyIter v) (PIE X pins σ tg R) X.xe s1) X.xe s
def tiW (X : Cx) (tg iter : Expr) : TI := fun σ H R => ∀ (pins : List (Addr × Obj)) (s : Shared), Inv X pins σ H s → wpAny (model X.prog X.w) X.A (eval iter X.env) (fun v s1 => wpAny (model X.prog X.w) X.A (pyIter v) (PIE X pins σ tg R) X.xe s1) X.xe s
theorem Same.ev {K : PySem.W.Frag} {Zh : List Addr} {H H' : Hp} {σ : L2.St} {ρ : Ro} {S : Sto} (E : Ev K Zh H σ ρ S) (g : Same H H') : Ev K Zh H' σ ρ S :=
  E.next rfl (fun b x _ h => g b x h) (E.st.keep g)
theorem Same.step {S : Sto} {H H' : Hp} (g : Same H H') : Step S H S H' := .of rfl fun b x _ h => g b x h
section
variable {X : Cx} {ρ : Ro} {S : Sto} {tg iter e : Expr} {Φ : List D → Sto → Prop}
theorem pi_w : PI X tg iter (tiW X tg iter) := ⟨fun pins s _ _ _ I h => h pins s I⟩
theorem DI.of {t : TI} (p : PI X tg iter t) (h : ∀ Zh σ H R, Ev X.K Zh H σ ρ S → (∀ J H' ds S', keys S' = keys S → Grow (keys S) H H' → Store X.K Zh H' S' → ItOk X.K Zh S' H' ds J → Φ ds S' → R J H') → t σ H R) : DI X tg iter ρ S Φ := fun Zh pins s σ H R I E k => p.run pins s σ H R I (h Zh σ H R E k)
theorem DI.tw {Zh : List Addr} {σ : L2.St} {H : Hp} {R : It → Hp → Prop} (h : DI X tg iter ρ S Φ) (E : Ev X.K Zh H σ ρ S) (k : ∀ J H' ds S', keys S' = keys S → Grow (keys S) H H' → Store X.K Zh H' S' → ItOk X.K Zh S' H' ds J → Φ ds S' → R J H') : tiW X tg iter σ H R := fun pins s I => h Zh pins s σ H R I E k
theorem it_tup {K : PySem.W.Frag} {Zh : List Addr} {H : Hp} {l : List D} {p : Addr} {vs : List V} (st : Store K Zh H S) (sq : SqT K H p vs) (rl : RepL K (keys S ++ Zh) H l vs) : ItOk K Zh S H l (Itt K p) where
  go := fun i S' H' t hi => ⟨vs, vs[i]'(by rw [rl.length]; exact hi), SqT.grow st.zl t.1 sq, List.getElem?_eq_getElem _⟩
  stop := fun S' H' t => ⟨vs, SqT.grow st.zl t.1 sq, by rw [rl.length]; exact Nat.le_refl _⟩
  yld := fun i S' H' x H2 Zx zx t st' hi y => by
    obtain ⟨rfl, y⟩ := y
    obtain ⟨d, hd, r⟩ := rl.get2 (y vs (SqT.grow st.zl t.1 sq))
    exact ⟨d, hd, Same.refl _, Rep.step st.zl t (Rep.fresh zx r)⟩
theorem lst_step {K : PySem.W.Frag} {S S' : Sto} {H H' : Hp} {p : Addr} {vs : List V} (t : Step S H S' H') (h : (p ∉ keys S ∧ Rd H p (.lst vs)) ∨ KL K p vs) : SqL K H' p vs := by
  rcases h with ⟨n, h⟩ | h
  · rcases h with h | ⟨o, h⟩
    · exact .inl (.inl (t.1 _ _ n h))
    · exact .inl (.inr ⟨o, t.1 _ _ n h⟩)
  · exact .inr h
theorem frz_l {K : PySem.W.Frag} {Zh : List Addr} {H : Hp} {p : Addr} {vs : List V} (h : (p ∉ keys S ++ Zh ∧ Rd H p (.lst vs)) ∨ KL K p vs) : (p ∉ keys S ∧ Rd H p (.lst vs)) ∨ KL K p vs := h.imp (fun t => ⟨fun m => t.1 (sub_l _ m), t.2⟩) id
theorem it_lst {K : PySem.W.Frag} {Zh : List Addr} {H : Hp} {l : List D} {p : Addr} {vs : List V} (st : Store K Zh H S) (sq : (p ∉ keys S ∧ Rd H p (.lst vs)) ∨ KL K p vs) (rl : RepL K (keys S ++ Zh) H l vs) : ItOk K Zh S H l (Itl K p) where
  go := fun i S' H' t hi => ⟨vs, vs[i]'(by rw [rl.length]; exact hi), lst_step t sq, List.getElem?_eq_getElem _⟩
  stop := fun S' H' t => ⟨vs, lst_step t sq, by rw [rl.length]; exact Nat.le_refl _⟩
  yld := fun i S' H' x H2 Zx zx t st' hi y => by
    obtain ⟨rfl, y⟩ := y
    obtain ⟨d, hd, r⟩ := rl.get2 (y vs (lst_step t sq))
    exact ⟨d, hd, Same.refl _, Rep.step st.zl t (Rep.fresh zx r)⟩
theorem di_tup (h : DE X e ρ S fun d S1 => ∃ l, d = .tup l ∧ Φ l S1) : DI X tg e ρ S Φ := DI.of (pi_tup pe_w) fun Zh σ H R E k => h.bind E fun v H1 d S1 k1 g1 E1 r1 h1 => by
  obtain ⟨l, rfl, q⟩ := h1
  obtain ⟨p, vs, rfl, sq, rl⟩ := r1.tup
  exact ⟨p, rfl, ⟨vs, sq⟩, k _ H1 l S1 k1 g1 E1.st (it_tup E1.st sq rl) q⟩
theorem di_lst (h : DE X e ρ S fun d S1 => ∃ l, d = .lst l ∧ Φ l S1) : DI X tg e ρ S Φ := DI.of (pi_list pe_w) fun Zh σ H R E k => h.bind E fun v H1 d S1 k1 g1 E1 r1 h1 => by
  obtain ⟨l, rfl, q⟩ := h1
  obtain ⟨p, vs, rfl, n, sq, rl⟩ := r1.lst
  exact ⟨p, rfl, ⟨vs, .inl (.inl sq)⟩, k _ H1 l S1 k1 g1 E1.st (it_lst E1.st (frz_l (.inl ⟨n, .inl sq⟩)) rl) q⟩
theorem di_frz (h : DE X e ρ S fun d S1 => ∃ l, d = .frz l ∧ Φ l S1) : DI X tg e ρ S Φ := DI.of (pi_list pe_w) fun Zh σ H R E k => h.bind E fun v H1 d S1 k1 g1 E1 r1 h1 => by
  obtain ⟨l, rfl, q⟩ := h1
  obtain ⟨p, vs, rfl, sq, rl⟩ := r1.frz
  exact ⟨p, rfl, ⟨vs, frz_sq sq⟩, k _ H1 l S1 k1 g1 E1.st (it_lst E1.st (frz_l sq) rl) q⟩
/-- lo, lo + 1, .. -/
def rangeD (lo : Int) (n : Nat) : List D := (List.range n).map fun (i : Nat) => D.int (lo + (i : Int))
theorem rangeD_len {lo : Int} {n : Nat} : (rangeD lo n).length = n := by
  unfold rangeD
  rw [List.length_map, List.length_range]
theorem rangeD_get {lo : Int} {n i : Nat} (h : i < n) : (rangeD lo n)[i]? = some (.int (lo + i)) := by
  unfold rangeD
  rw [List.getElem?_map, List.getElem?_range h]
  rfl
theorem it_range {K : PySem.W.Frag} {Zh : List Addr} {H : Hp} {lo : Int} {n : Nat} : ItOk K Zh S H (rangeD lo n) (Itr lo n) where
  go := fun i S' H' t hi => by
    rw [rangeD_len] at hi
    exact hi
  stop := fun S' H' t => by
    rw [rangeD_len]
    exact Nat.le_refl n
  yld := fun i S' H' x H2 Zx zx t st' hi y => by
    obtain ⟨rfl, rfl⟩ := y
    rw [rangeD_len] at hi
    exact ⟨_, rangeD_get hi, Same.refl _, rep_int⟩
/-- the signs of a text -/
def charsD (x : Str) : List D := x.cps.toList.map fun c => D.str ⟨#[c]⟩
theorem it_str {K : PySem.W.Frag} {Zh : List Addr} {H : Hp} {x : Str} : ItOk K Zh S H (charsD x) (Its x) where
  go := fun i S' H' t hi => by
    unfold charsD at hi
    rw [List.length_map] at hi
    exact hi
  stop := fun S' H' t => by
    show x.cps.size ≤ (charsD x).length
    unfold charsD
    rw [List.length_map]
    exact Nat.le_refl _
  yld := fun i S' H' v H2 Zx zx t st' hi y => by
    obtain ⟨rfl, c, hc, rfl⟩ := y
    refine ⟨.str ⟨#[c]⟩, ?_, Same.refl _, rep_str⟩
    unfold charsD
    rw [List.getElem?_map, Array.getElem?_toList, hc]
    rfl
theorem di_str (h : DE X e ρ S fun d S1 => ∃ x, d = .str x ∧ Φ (charsD x) S1) : DI X tg e ρ S Φ := DI.of (pi_str pe_w) fun Zh σ H R E k => h.bind E fun v H1 d S1 k1 g1 E1 r1 h1 => by
  obtain ⟨x, rfl, q⟩ := h1
  exact ⟨x, r1.str, k _ H1 _ S1 k1 g1 E1.st it_str q⟩
variable {P : Program} {w : World} {K : PySem.W.Frag} {mg : Str → Option Value} {base : Heap} {tb : List (Str × Nat)} {names : List (Str × NameKind)} {k : Nat} {pos p : Pos}
theorem di_range1 (A : At X P w K mg base tb names k) (hm : mg "range" = none) (hg : glB names "range" = true) (hs : starEach [e] X.env = [(false, eval e X.env)])
    (h : DE X e ρ S fun d S1 => ∃ i, d = .int i ∧ (-(2 ^ 62) ≤ i ∧ i < 2 ^ 62) ∧ Φ (rangeD 0 i.toNat) S1) (hs2 : starEach (e :: []) X.env = (false, eval e X.env) :: starEach [] X.env) : DI X tg (.Call (.Name "range" p) [e] [] pos) ρ S Φ :=
  DI.of (pi_range1 (A.gl _ (glB_of hg).2) (by rw [A.mg]; exact hm) (pa_cons pe_w pa_nil hs2) hs) fun Zh σ H R E k => h.bind E fun v H1 d S1 k1 g1 E1 r1 h1 => by
    obtain ⟨i, rfl, ⟨h1, h2⟩, q⟩ := h1
    refine ⟨i, by rw [r1.int], h1, h2, k _ H1 _ S1 k1 g1 E1.st it_range q⟩
theorem di_range2 {e2 : Expr} (A : At X P w K mg base tb names k) (hm : mg "range" = none) (hg : glB names "range" = true) (hs : starEach [e, e2] X.env = [(false, eval e X.env), (false, eval e2 X.env)]) (hs2 : starEach [e2] X.env = [(false, eval e2 X.env)])
    (hs3 : starEach (e :: [e2]) X.env = (false, eval e X.env) :: starEach [e2] X.env) (hs4 : starEach (e2 :: []) X.env = (false, eval e2 X.env) :: starEach [] X.env)
    (h : DE X e ρ S fun d S1 => DE X e2 ρ S1 fun c S2 => ∃ i j, d = .int i ∧ c = .int j ∧ (-(2 ^ 62) ≤ i ∧ i < 2 ^ 62 ∧ -(2 ^ 62) ≤ j ∧ j < 2 ^ 62) ∧ Φ (rangeD i (j - i).toNat) S2) : DI X tg (.Call (.Name "range" p) [e, e2] [] pos) ρ S Φ :=
  DI.of (pi_range2 (A.gl _ (glB_of hg).2) (by rw [A.mg]; exact hm) (pa_cons pe_w (pa_cons pe_w pa_nil hs4) hs3) hs hs2) fun Zh σ H R E k => h.bind E fun v H1 d S1 k1 g1 E1 r1 h1 => h1.bind E1 fun v2 H2 d2 S2 k2 g2 E2 r2 h2 => by
    obtain ⟨i, j, rfl, rfl, hb, q⟩ := h2
    refine ⟨i, j, by rw [(E1.st.gr g2 r1).int, r2.int], hb, k _ H2 _ S2 (k2.trans k1) (g1.trans (by rw [← k1]; exact g2)) E2.st it_range q⟩
/-! ### for -/
def ForD (X : Cx) (tg : Expr) (body : List Stmt) : List D → Ro → Sto → DEnds → Prop
  | [], ρ, S, E => E.nx ρ S
  | d :: ds, ρ, S, E => DG X (fun _ => true) tg d ρ S fun ρ1 S1 => DSs X body ρ1 S1 { E with nx := fun r s => ForD X tg body ds r s E, ct := fun r s => ForD X tg body ds r s E, bk := E.nx }
theorem ds_for {body : List Stmt} {E : DEnds} (A : At X P w K mg base tb names k) (hs : ∀ x, foldedSetIterable iter X.env x = pure x) (h : DI X tg iter ρ S fun ds S1 => ForD X tg body ds ρ S1 E) : DS X (.For tg iter body [] pos) ρ S E :=
  DS.of (ps_for A.own A.calm pi_w pg_w pss_w hs) fun Zh σ H Dn ev kk => h.tw ev fun J H1 ds S1 k1 g1 s1 it q => by
    have ev1 := ev.next k1 g1 s1
    have kk1 := kk.next (Step.of k1 g1)
    refine ⟨fun i m σ' H' => ∃ ρ' S', Step S1 H1 S' H' ∧ Ev X.K Zh H' σ' ρ' S' ∧ ForD X tg body (ds.drop i) ρ' S' E ∧ m = ds.length - i ∧ i ≤ ds.length, ⟨ds.length, ρ, S1, Step.refl, ev1, q, rfl, Nat.zero_le _⟩, ?_⟩
    rintro i m σ2 H2 ⟨ρ2, S2, t2, ev2, q2, rfl, hi⟩
    by_cases hlt : i < ds.length
    · refine .inr ⟨it.go i S2 H2 t2 hlt, fun σ' H' => ∃ ρ' S', Step S1 H1 S' H' ∧ Ev X.K Zh H' σ' ρ' S' ∧ ForD X tg body (ds.drop (i + 1)) ρ' S' E, ?_, fun x H3 y => ?_⟩
      · rintro σ' H' ⟨ρ', S', t, ev, q⟩
        exact ⟨ds.length - (i + 1), by omega, ρ', S', t, ev, q, rfl, hlt⟩
      · obtain ⟨d, hd, sm, rd⟩ := it.yld i S2 H2 x H3 [] (fun _ h => nomatch h) t2 ev2.st hlt y
        have e : ds.drop i = d :: ds.drop (i + 1) := by
          rw [List.drop_eq_getElem_cons hlt]
          congr 1
          rw [List.getElem?_eq_getElem hlt] at hd
          exact Option.some.inj hd
        rw [e] at q2
        have ev3 := Same.ev ev2 sm
        have t3 := t2.trans (Same.step sm)
        refine DG.tw q2 ev3 rd fun σ4 H4 ρ4 S4 k4 g4 ev4 _ _ q4 => ?_
        have t4 := t3.trans (Step.of k4 g4)
        refine q4.tw ev4 ⟨fun σ' H' ρ' S' t e q => ⟨ρ', S', t4.trans t, e, q⟩, fun v H' d S' t s r q => kk1.rt v H' d S' (t4.trans t) s r q, fun σ' H' ρ' S' t e q => kk1.nx σ' H' ρ' S' (t4.trans t) e q, fun σ' H' ρ' S' t e q => ⟨ρ', S', t4.trans t, e, q⟩⟩
    · refine .inl ⟨?_, ?_⟩
      · have e : i = ds.length := by omega
        subst e
        exact it.stop S2 H2 t2
      · rw [List.drop_eq_nil_of_le (by omega)] at q2
        exact kk1.nx _ _ _ _ t2 ev2 q2
end
end Ar
namespace Ar
open PySem PySem.Spec PyProof.Rows L2
open RZ (ItzT pi_zipA iZipA)
/-! ### zip, enumerate -/
def zipD : List D → List D → List D
  | a :: l, b :: m => .tup [a, b] :: zipD l m
  | _, _ => []
theorem zipD_len : ∀ {l m : List D}, (zipD l m).length = min l.length m.length
  | [], m => by simp [zipD]
  | _ :: _, [] => by simp [zipD]
  | a :: l, b :: m => by
    show (zipD l m).length + 1 = min (l.length + 1) (m.length + 1)
    rw [zipD_len (l := l) (m := m)]
    omega
theorem zipD_get : ∀ {l m : List D} {i : Nat} {a b : D}, l[i]? = some a → m[i]? = some b → (zipD l m)[i]? = some (.tup [a, b])
  | [], _, _, _, _, h, _ => by simp at h
  | _ :: _, [], _, _, _, _, h => by simp at h
  | x :: l, y :: m, 0, a, b, h, h2 => by
    have e : x = a := Option.some.inj h
    have e2 : y = b := Option.some.inj h2
    rw [← e, ← e2]
    rfl
  | x :: l, y :: m, i + 1, a, b, h, h2 => zipD_get (l := l) (m := m) (i := i) h h2
def enumD : Nat → List D → List D
  | _, [] => []
  | n, d :: l => .tup [.int (n : Int), d] :: enumD (n + 1) l
theorem enumD_len : ∀ {l : List D} {n : Nat}, (enumD n l).length = l.length
  | [], _ => rfl
  | _ :: l, n => by
    show (enumD (n + 1) l).length + 1 = l.length + 1
    rw [enumD_len]
theorem enumD_get : ∀ {l : List D} {n i : Nat} {a : D}, l[i]? = some a → (enumD n l)[i]? = some (.tup [.int ((n + i : Nat) : Int), a])
  | [], _, _, _, h => by simp at h
  | x :: l, n, 0, a, h => by
    have e : x = a := Option.some.inj h
    rw [← e]
    rfl
  | x :: l, n, i + 1, a, h => by
    have z := enumD_get (l := l) (n := n + 1) (i := i) h
    show (enumD (n + 1) l)[i]? = _
    rw [z]
    rw [show n + 1 + i = n + (i + 1) by omega]
theorem tup_new {K : PySem.W.Frag} {Zh : List Addr} {S : Sto} {H : Hp} {T : Addr} {l : List D} {vs : List V} (z : Store K Zh H S) (hT : H T = none) (r : RepL K (keys S ++ Zh) H l vs) : Rep K (keys S ++ Zh) (upd H T (.tup vs)) (.tup l) (.ref T) := by
  unfold Rep
  exact ⟨T, vs, rfl, .inl (.inl upd_same), z.grL (Grow.new hT) r⟩
theorem same_new {H : Hp} {p : Addr} {o : HO} (h : H p = none) : Same H (upd H p o) := fun b x e => by
  rw [upd_ne (ne_of_none e h)]
  exact e
section
variable {X : Cx} {ρ : Ro} {S : Sto} {tg iter e e2 : Expr} {Φ : List D → Sto → Prop}
theorem it_zip {K : PySem.W.Frag} {Zh : List Addr} {H : Hp} {l m : List D} {p q : Addr} {vs us : List V} (st : Store K Zh H S) (sq : (p ∉ keys S ∧ Rd H p (.lst vs)) ∨ KL K p vs) (sq2 : (q ∉ keys S ∧ Rd H q (.lst us)) ∨ KL K q us) (rl : RepL K (keys S ++ Zh) H l vs) (rm : RepL K (keys S ++ Zh) H m us) : ItOk K Zh S H (zipD l m) (Itz K p q) where
  go := fun i S' H' t hi => by
    rw [zipD_len] at hi
    exact ⟨vs, us, vs[i]'(by rw [rl.length]; omega), us[i]'(by rw [rm.length]; omega), lst_step t sq, lst_step t sq2, List.getElem?_eq_getElem _, List.getElem?_eq_getElem _⟩
  stop := fun S' H' t => ⟨vs, us, lst_step t sq, lst_step t sq2, by rw [zipD_len, rl.length, rm.length]; omega⟩
  yld := fun i S' H' x H2 Zx zx t st' hi y => by
    obtain ⟨T, x, y, rfl, hT, rfl, f1, f2⟩ := y
    obtain ⟨d, hd, r⟩ := rl.get2 (f1 vs (lst_step t sq))
    obtain ⟨d2, hd2, r2⟩ := rm.get2 (f2 us (lst_step t sq2))
    exact ⟨_, zipD_get hd hd2, same_new hT, tup_new st' hT (.cons (Rep.step st.zl t (Rep.fresh zx r)) (.cons (Rep.step st.zl t (Rep.fresh zx r2)) .nil))⟩
theorem it_zipT {K : PySem.W.Frag} {Zh : List Addr} {H : Hp} {l m : List D} {p q : Addr} {vs us : List V} (st : Store K Zh H S) (sq : SqT K H p vs) (sq2 : SqT K H q us) (rl : RepL K (keys S ++ Zh) H l vs) (rm : RepL K (keys S ++ Zh) H m us) : ItOk K Zh S H (zipD l m) (ItzT K p q) where
  go := fun i S' H' t hi => by
    rw [zipD_len] at hi
    exact ⟨vs, us, vs[i]'(by rw [rl.length]; omega), us[i]'(by rw [rm.length]; omega), SqT.grow st.zl t.1 sq, SqT.grow st.zl t.1 sq2, List.getElem?_eq_getElem _, List.getElem?_eq_getElem _⟩
  stop := fun S' H' t => ⟨vs, us, SqT.grow st.zl t.1 sq, SqT.grow st.zl t.1 sq2, by rw [zipD_len, rl.length, rm.length]; omega⟩
  yld := fun i S' H' x H2 Zx zx t st' hi y => by
    obtain ⟨T, x, y, rfl, hT, rfl, f1, f2⟩ := y
    obtain ⟨d, hd, r⟩ := rl.get2 (f1 vs (SqT.grow st.zl t.1 sq))
    obtain ⟨d2, hd2, r2⟩ := rm.get2 (f2 us (SqT.grow st.zl t.1 sq2))
    exact ⟨_, zipD_get hd hd2, same_new hT, tup_new st' hT (.cons (Rep.step st.zl t (Rep.fresh zx r)) (.cons (Rep.step st.zl t (Rep.fresh zx r2)) .nil))⟩
theorem it_enum {K : PySem.W.Frag} {Zh : List Addr} {H : Hp} {l : List D} {p : Addr} {vs : List V} (st : Store K Zh H S) (sq : (p ∉ keys S ∧ Rd H p (.lst vs)) ∨ KL K p vs) (rl : RepL K (keys S ++ Zh) H l vs) : ItOk K Zh S H (enumD 0 l) (Ite K p) where
  go := fun i S' H' t hi => by
    rw [enumD_len] at hi
    exact ⟨vs, vs[i]'(by rw [rl.length]; exact hi), lst_step t sq, List.getElem?_eq_getElem _⟩
  stop := fun S' H' t => ⟨vs, lst_step t sq, by rw [enumD_len, rl.length]; exact Nat.le_refl _⟩
  yld := fun i S' H' x H2 Zx zx t st' hi y => by
    obtain ⟨T, x, rfl, hT, rfl, f1⟩ := y
    obtain ⟨d, hd, r⟩ := rl.get2 (f1 vs (lst_step t sq))
    refine ⟨_, enumD_get hd, same_new hT, tup_new st' hT (.cons ?_ (.cons (Rep.step st.zl t (Rep.fresh zx r)) .nil))⟩
    rw [Nat.zero_add]
    exact rep_int
/-- a value that is read as a list: its items -/
inductive LstD : D → List D → Prop where
  | lst (l : List D) : LstD (.lst l) l
  | frz (l : List D) : LstD (.frz l) l
theorem LstD.rep {K : PySem.W.Frag} {Z : List Addr} {H : Hp} {d : D} {l : List D} {v : V} (h : LstD d l) (r : Rep K Z H d v) : ∃ p vs, v = .ref p ∧ ((p ∉ Z ∧ Rd H p (.lst vs)) ∨ KL K p vs) ∧ RepL K Z H l vs := by
  cases h with
  | lst =>
    obtain ⟨p, vs, e, n, sq, rl⟩ := r.lst
    exact ⟨p, vs, e, .inl ⟨n, .inl sq⟩, rl⟩
  | frz => exact r.frz
variable {P : Program} {w : World} {K : PySem.W.Frag} {mg : Str → Option Value} {base : Heap} {tb : List (Str × Nat)} {names : List (Str × NameKind)} {k : Nat} {pos p tpos : Pos} {elts : List Expr} {kk : Nat}
theorem di_zip (A : At X P w K mg base tb names k) (hm : mg "zip" = none) (hg : glB names "zip" = true) (hs : starEach [e, e2] X.env = (false, eval e X.env) :: starEach [e2] X.env) (hpl : (backTo pos (starEach [e2] X.env)).any (·.1) = false)
    (hs4 : starEach (e2 :: []) X.env = (false, eval e2 X.env) :: starEach [] X.env)
    (h : DE X e ρ S fun d S1 => DE X e2 ρ S1 fun c S2 => (∃ l m, LstD d l ∧ LstD c m ∧ Φ (zipD l m) S2) ∨ (∃ l m, d = .tup l ∧ c = .tup m ∧ Φ (zipD l m) S2)) : DI X (.Tuple elts kk tpos) (.Call (.Name "zip" p) [e, e2] [] pos) ρ S Φ :=
  DI.of (pi_zipA (A.gl _ (glB_of hg).2) (by rw [A.mg]; exact hm) (pa_cons pe_w (pa_cons pe_w pa_nil hs4) hs) hs hpl) fun Zh σ H R E k => h.bind E fun v H1 d S1 k1 g1 E1 r1 h1 => h1.bind E1 fun v2 H2 d2 S2 k2 g2 E2 r2 h2 => by
    have r1' : Rep X.K (keys S2 ++ Zh) H2 d v := by
      rw [k2]
      exact E1.st.gr g2 r1
    have fin := fun J ds it q => k J H2 ds S2 (k2.trans k1) (g1.trans (by rw [← k1]; exact g2)) E2.st it q
    rcases h2 with ⟨l, m, hl, hm, q⟩ | ⟨l, m, rfl, rfl, q⟩
    · obtain ⟨a, vs, rfl, sq, rl⟩ := hl.rep r1'
      obtain ⟨b, us, rfl, sq2, rm⟩ := hm.rep r2
      exact ⟨a, b, vs, us, rfl, .inl ⟨frz_sq sq, frz_sq sq2, fin _ _ (it_zip E2.st (frz_l sq) (frz_l sq2) rl rm) q⟩⟩
    · obtain ⟨a, vs, rfl, sq, rl⟩ := r1'.tup
      obtain ⟨b, us, rfl, sq2, rm⟩ := r2.tup
      exact ⟨a, b, vs, us, rfl, .inr ⟨sq, sq2, fin _ _ (it_zipT E2.st sq sq2 rl rm) q⟩⟩
theorem di_enum (A : At X P w K mg base tb names k) (hm : mg "enumerate" = none) (hg : glB names "enumerate" = true) (hs : starEach [e] X.env = [(false, eval e X.env)]) (hs4 : starEach (e :: []) X.env = (false, eval e X.env) :: starEach [] X.env)
    (h : DE X e ρ S fun d S1 => ∃ l, LstD d l ∧ Φ (enumD 0 l) S1) : DI X (.Tuple elts kk tpos) (.Call (.Name "enumerate" p) [e] [] pos) ρ S Φ :=
  DI.of (pi_enum (A.gl _ (glB_of hg).2) (by rw [A.mg]; exact hm) (pa_cons pe_w pa_nil hs4) hs) fun Zh σ H R E k => h.bind E fun v H1 d S1 k1 g1 E1 r1 h1 => by
    obtain ⟨l, hl, q⟩ := h1
    obtain ⟨a, vs, rfl, sq, rl⟩ := hl.rep r1
    exact ⟨a, vs, rfl, frz_sq sq, k _ H1 _ S1 k1 g1 E1.st (it_enum E1.st (frz_l sq) rl) q⟩
end
/-! ### list comprehensions -/
def wipeR (ρ : Ro) : List Nat → Ro
  | [] => ρ
  | v :: vs => (wipeR ρ vs).set v none
theorem Ev.forget {K : PySem.W.Frag} {Zh : List Addr} {H : Hp} {σ : L2.St} {ρ : Ro} {S : Sto} {i : Nat} (E : Ev K Zh H σ ρ S) : Ev K Zh H (σ.set i none) (ρ.set i none) S :=
  ⟨E.st, by rw [List.length_set, List.length_set]; exact E.len, fun j c h => by
    by_cases hj : i = j
    · subst hj
      by_cases hl : i < ρ.length
      · rw [List.getElem?_set_self hl] at h
        cases h
      · rw [List.getElem?_eq_none (by rw [List.length_set]; omega)] at h
        cases h
    · rw [List.getElem?_set_ne hj] at h
      rw [List.getElem?_set_ne hj]
      exact E.var j c h⟩
theorem Ev.wipe {K : PySem.W.Frag} {Zh : List Addr} {H : Hp} {σ : L2.St} {ρ : Ro} {S : Sto} (E : Ev K Zh H σ ρ S) : ∀ vs : List Nat, Ev K Zh H (L2.wipe σ vs) (wipeR ρ vs) S
  | [] => E
  | v :: vs => (Ev.wipe E vs).forget
theorem wipe_get {σ : L2.St} : ∀ {vs : List Nat} {j : Nat}, j ∈ vs → j < σ.length → (L2.wipe σ vs)[j]? = some none
  | [], _, h, _ => by simp at h
  | v :: vs, j, h, hl => by
    unfold L2.wipe
    by_cases e : v = j
    · subst e
      rw [List.getElem?_set_self (by rw [wipe_length]; exact hl)]
    · rw [List.getElem?_set_ne e]
      refine wipe_get ?_ hl
      rcases List.mem_cons.mp h with q | q
      · exact absurd q.symm e
      · exact q
theorem wipe_eq {σ σ2 : L2.St} {vs : List Nat} (hl : σ2.length = (L2.wipe σ vs).length) (h : ∀ j, j ∉ vs → σ2[j]? = (L2.wipe σ vs)[j]?) : L2.wipe σ2 vs = L2.wipe σ vs := by
  apply List.ext_getElem?
  intro j
  by_cases hj : j ∈ vs
  · by_cases hlt : j < σ2.length
    · rw [wipe_get hj hlt, wipe_get hj (by rw [hl, wipe_length] at hlt; exact hlt)]
    · rw [List.getElem?_eq_none (by rw [wipe_length]; omega), List.getElem?_eq_none (by rw [← hl]; omega)]
  · rw [wipe_out hj, h j hj]
abbrev Bl := Cx → Prop
/-- the contexts of a block -/
def blks (X : Cx) (scope : Scope) : Bl := fun X' => ∃ (s : Shared) (H : Hp) (C : Addr) (cl : List (Str × Addr)) (fp : List Addr), X' = X.blk s H scope (compEnvC scope cl C X.env) fp
def DEb (b : Bl) (e : Expr) (ρ : Ro) (S : Sto) (Φ : D → Sto → Prop) : Prop := ∀ X', b X' → DE X' e ρ S Φ
def DGb (b : Bl) (ok : Nat → Bool) (e : Expr) (d : D) (ρ : Ro) (S : Sto) (Φ : Ro → Sto → Prop) : Prop := ∀ X', b X' → DG X' ok e d ρ S Φ
/-- the tests of a clause: none, or one -/
def DTb (b : Bl) : List Expr → Ro → Sto → (Bool → Sto → Prop) → Prop
  | [], _, S, Φ => Φ true S
  | [c], ρ, S, Φ => ∀ X', b X' → DT X' c ρ S Φ
  | _, _, _, _ => False
def LcD (b : Bl) (ok : Nat → Bool) (tg : Expr) (ifs : List Expr) (elt : Expr) : List D → Ro → Sto → List D → (D → Sto → Prop) → Prop
  | [], _, S, acc, Φ => Φ (.lst acc) S
  | d :: ds, ρ, S, acc, Φ => DGb b ok tg d ρ S fun ρ2 S2 => DTb b ifs ρ2 S2 fun c S3 => if c = true then DEb b elt ρ2 S3 fun y S4 => LcD b ok tg ifs elt ds ρ S4 (acc ++ [y]) Φ else LcD b ok tg ifs elt ds ρ S3 acc Φ
def teB (b : Bl) (e : Expr) : TE := fun σ H Q => ∀ X', b X' → tW X' e σ H Q
def tgB (b : Bl) (e : Expr) : TG := fun v σ H Q => ∀ X', b X' → gW X' e v σ H Q
def ttB (b : Bl) : List Expr → TT
  | [] => tYes
  | [c] => fun σ H Q => ∀ X', b X' → ttW X' c σ H Q
  | _ => fun _ _ _ => False
section
variable {X : Cx} {ρ : Ro} {S : Sto} {tg iter e e2 : Expr}
theorem pts_b {b : Bl} (h : b X) : ∀ {ifs : List Expr}, PTs X ifs (ttB b ifs)
  | [] => pts_nil
  | [c] => pts_one ⟨fun pins s σ H Q I q => q X h pins s I⟩
  | _ :: _ :: _ => ⟨fun _ _ _ _ _ _ q => q.elim⟩
variable {P : Program} {w : World} {K : PySem.W.Frag} {mg : Str → Option Value} {base : Heap} {tb : List (Str × Nat)} {names : List (Str × NameKind)} {k : Nat} {pos p tpos : Pos}
theorem relabel_look {scope : Scope} {env : Env} : ∀ (l : List (Str × NameKind)) (x : Str),
    (l.map fun (n, k) => if (k == NameKind.free && env.scope.kind == .function && env.kindOf n == some .cell) then (n, NameKind.cell) else (n, k)).lookup x = l.lookup x ∨
    (l.lookup x = some .free ∧ (l.map fun (n, k) => if (k == NameKind.free && env.scope.kind == .function && env.kindOf n == some .cell) then (n, NameKind.cell) else (n, k)).lookup x = some .cell)
  | [], x => .inl rfl
  | (n, k) :: r, x => by
    have ih := relabel_look (scope := scope) (env := env) r x
    cases hx : x == n with
    | true =>
      by_cases hc : (k == NameKind.free && env.scope.kind == .function && env.kindOf n == some .cell) = true
      · refine .inr ⟨?_, ?_⟩
        · rw [List.lookup_cons, hx]
          rw [Bool.and_eq_true, Bool.and_eq_true] at hc
          have e : k = NameKind.free := by simpa using hc.1.1
          rw [e]
        · show List.lookup x ((if (k == NameKind.free && env.scope.kind == .function && env.kindOf n == some .cell) = true then (n, NameKind.cell) else (n, k)) :: _) = _
          rw [if_pos hc, List.lookup_cons, hx]
      · refine .inl ?_
        show List.lookup x ((if (k == NameKind.free && env.scope.kind == .function && env.kindOf n == some .cell) = true then (n, NameKind.cell) else (n, k)) :: _) = _
        rw [if_neg hc, List.lookup_cons, List.lookup_cons, hx]
    | false =>
      have e1 : List.lookup x ((n, k) :: r) = List.lookup x r := by rw [List.lookup_cons, hx]
      have e2 : (((n, k) :: r).map fun (n, k) => if (k == NameKind.free && env.scope.kind == .function && env.kindOf n == some .cell) then (n, NameKind.cell) else (n, k)).lookup x =
          (r.map fun (n, k) => if (k == NameKind.free && env.scope.kind == .function && env.kindOf n == some .cell) then (n, NameKind.cell) else (n, k)).lookup x := by
        show List.lookup x ((if (k == NameKind.free && env.scope.kind == .function && env.kindOf n == some .cell) = true then (n, NameKind.cell) else (n, k)) :: _) = _
        by_cases hc : (k == NameKind.free && env.scope.kind == .function && env.kindOf n == some .cell) = true
        · rw [if_pos hc, List.lookup_cons, hx]
        · rw [if_neg hc, List.lookup_cons, hx]
      rw [e1, e2]
      exact ih
theorem At.blk {scope : Scope} (A : At X P w K mg base tb names k) (hk : scope.kind = .function) {X' : Cx} (h : blks X scope X') : At X' P w K mg base tb scope.names k := by
  obtain ⟨s, H, C, cl, fp, rfl⟩ := h
  have look := fun x => relabel_look (scope := scope) (env := X.env) scope.names x
  refine ⟨A.prog, A.w, A.K, A.mg, A.base, A.slot, A.cov, fun x hx => ?_, fun x hx => ?_, fun x hx => ?_, fun x hx => ?_, fun x hx => ?_, hk, A.room, A.calm, A.nd, PassesOwn.never⟩
  · show (relabel scope X.env).names.lookup x = some .local ∨ (relabel scope X.env).names.lookup x = some .cell ∨ (relabel scope X.env).names.lookup x = some .free
    rcases look x with q | ⟨q, q2⟩
    · have e : (relabel scope X.env).names.lookup x = scope.names.lookup x := q
      rw [e]
      revert hx
      cases scope.names.lookup x with
      | none => intro h; cases h
      | some k => cases k <;> intro h <;> first | exact .inl rfl | exact .inr (.inl rfl) | exact .inr (.inr rfl) | cases h
    · exact .inr (.inl q2)
  · show (relabel scope X.env).names.lookup x = some .globalImplicit
    rcases look x with q | ⟨q, q2⟩
    · exact q.trans hx
    · rw [q] at hx
      cases hx
  · rcases look x with q | ⟨q, q2⟩
    · have e : (relabel scope X.env).names.lookup x = scope.names.lookup x := q
      refine ⟨?_, ?_⟩
      · show L2.Loc (relabel scope X.env) x
        unfold L2.Loc
        rw [e]
        revert hx
        cases scope.names.lookup x with
        | none => intro h; cases h
        | some k => cases k <;> intro h <;> first | exact .inl rfl | exact .inr rfl | cases h
      · show (scope.names.lookup x == some .cell) = true ∨ (relabel scope X.env).names.lookup x = some .local
        rw [e]
        revert hx
        cases scope.names.lookup x with
        | none => intro h; cases h
        | some k => cases k <;> intro h <;> first | exact .inr rfl | exact .inl rfl | cases h
    · rw [q] at hx
      cases hx
  · show (relabel scope X.env).names.lookup x = some .local
    rcases look x with q | ⟨q, q2⟩
    · exact q.trans hx
    · rw [q] at hx
      cases hx
  · show (relabel scope X.env).names.lookup x = some .cell ∨ (relabel scope X.env).names.lookup x = some .free
    rcases look x with q | ⟨q, q2⟩
    · have e : (relabel scope X.env).names.lookup x = scope.names.lookup x := q
      rw [e]
      revert hx
      cases scope.names.lookup x with
      | none => intro h; cases h
      | some k => cases k <;> intro h <;> first | exact .inl rfl | exact .inr rfl | cases h
    · exact .inl q2
/-- the block's names against the names around -/
def blkD (tb : List (Str × Nat)) (names bn : List (Str × NameKind)) (own : List (Str × Nat)) : Bool :=
  (bn.all fun y => decide (bn.lookup y.1 = some y.2)) && (own.all fun p => decide (tb.lookup p.1 = some p.2)) &&
    (bn.all fun y => match y.2 with
      | .free => cfB (names.lookup y.1)
      | .local => decide (y.1 ∈ own.map (·.1)) || (tb.lookup y.1).isNone
      | .cell => decide (y.1 ∈ own.map (·.1)) || (tb.lookup y.1).isNone
      | _ => true)
theorem blkD_ok {scope : Scope} {own : List (Str × Nat)} (A : At X P w K mg base tb names k) (hk : scope.kind = .function) (h : blkD tb names scope.names own = true) : BlkOk X.N X.env.scope scope own := by
  unfold blkD at h
  simp only [Bool.and_eq_true, List.all_eq_true, decide_eq_true_eq] at h
  obtain ⟨⟨h1, h2⟩, h3⟩ := h
  have out : ∀ y : Str, (tb.lookup y).isNone = true → y ∉ X.N := fun y e m => by
    have z := A.cov y m
    cases q : tb.lookup y with
    | none => rw [q] at z; cases z
    | some i => rw [q] at e; cases e
  refine ⟨hk, h1, fun p hp => A.slot _ _ (h2 p hp), fun y hy e => ?_, fun y hy e => ?_⟩
  · have q := h3 y hy
    rw [e] at q
    exact A.cf _ q
  · have q := h3 y hy
    rcases e with e | e <;> (rw [e] at q; simp only [Bool.or_eq_true, decide_eq_true_eq] at q; exact q.imp id (out _))
theorem Store.narrow {K : PySem.W.Frag} {Zh Zx : List Addr} {H : Hp} {S : Sto} (s : Store K (Zx ++ Zh) H S) : Store K Zh H S := ⟨s.nd, fun p l m => by
  obtain ⟨vs, h1, h2⟩ := s.st p l m
  refine ⟨vs, h1, h2.shrink fun q hq => ?_⟩
  rcases List.mem_append.mp hq with z | z
  · exact List.mem_append_left _ z
  · exact List.mem_append_right _ (List.mem_append_right _ z), fun p m => s.hid p (List.mem_append_right _ m)⟩
theorem Store.hide {K : PySem.W.Frag} {Zh : List Addr} {H : Hp} {S : Sto} {p : Addr} {l : List V} (s : Store K Zh H S) (hp : H p = none) : Store K ([p] ++ Zh) (upd H p (.lst l)) S := ⟨s.nd, fun q m hm => by
  obtain ⟨vs, h1, h2⟩ := s.st q m hm
  refine ⟨vs, by rw [upd_ne (ne_of_none h1 hp)]; exact h1, ?_⟩
  have r := RepL.fresh (Zx := [p]) (fun c hc => by
    rw [List.mem_singleton.mp hc]
    exact hp) h2
  exact RepL.grow s.zl (Grow.new hp) sub_l r, fun q m => by
  rcases List.mem_append.mp m with z | z
  · rw [List.mem_singleton.mp z]
    exact ⟨fun h => s.free hp (sub_l _ h), _, upd_same⟩
  · obtain ⟨n, vs, e⟩ := s.hid q z
    exact ⟨n, vs, by rw [upd_ne (ne_of_none e hp)]; exact e⟩⟩
theorem Ev.hide {K : PySem.W.Frag} {Zh : List Addr} {H : Hp} {σ : L2.St} {ρ : Ro} {S : Sto} {p : Addr} {l : List V} (E : Ev K Zh H σ ρ S) (hp : H p = none) : Ev K ([p] ++ Zh) (upd H p (.lst l)) σ ρ S :=
  ⟨E.st.hide hp, E.len, fun i d h => by
    obtain ⟨v, e, r⟩ := E.var i d h
    exact ⟨v, e, Rep.grow E.st.zl (Grow.new hp) sub_l (Rep.fresh (Zx := [p]) (fun c hc => by
      rw [List.mem_singleton.mp hc]
      exact hp) r)⟩⟩
/-- a write at a hidden list -/
theorem grow_at {H : Hp} {p : Addr} {l : List V} : Grow [p] H (upd H p (.lst l)) := fun b x n h => by
  rw [upd_ne (fun e => n (by rw [e]; exact List.mem_singleton.mpr rfl))]
  exact h
theorem Store.put {K : PySem.W.Frag} {Zh : List Addr} {H : Hp} {S : Sto} {p : Addr} {l : List V} (s : Store K ([p] ++ Zh) H S) : Store K ([p] ++ Zh) (upd H p (.lst l)) S := by
  obtain ⟨n, us, e⟩ := s.hid p (List.mem_append_left _ (List.mem_singleton.mpr rfl))
  refine ⟨s.nd, fun q m hm => ?_, fun q m => ?_⟩
  · obtain ⟨vs, h1, h2⟩ := s.st q m hm
    have hq : q ≠ p := fun z => n (by rw [← z]; exact List.mem_map.mpr ⟨_, hm, rfl⟩)
    refine ⟨vs, by rw [upd_ne hq]; exact h1, RepL.grow (Zg := [p]) (fun c hc => ⟨us, by rw [List.mem_singleton.mp hc]; exact e⟩) grow_at (fun c hc => List.mem_append_right _ (List.mem_append_left _ hc)) h2⟩
  · obtain ⟨n2, vs, e2⟩ := s.hid q m
    by_cases hq : q = p
    · exact ⟨n2, l, by rw [hq]; exact upd_same⟩
    · exact ⟨n2, vs, by rw [upd_ne hq]; exact e2⟩
theorem lc_read {Zh : List Addr} {b : Bl} {ok : Nat → Bool} {ifs : List Expr} {vs : List Nat} {σ : L2.St} {H H1 : Hp} {Q : VK} {Φ : D → Sto → Prop} {S1 : Sto} {ds : List D} {J : It} {D' : Addr} (hb : ∀ X', b X' → X'.K = X.K) (hok : ∀ j, j ∉ vs → ok j = false) (E : Ev X.K Zh H σ ρ S)
    (k1 : keys S1 = keys S) (g1 : Grow (keys S) H H1) (s1 : Store X.K Zh H1 S1) (it : ItOk X.K Zh S1 H1 ds J) (hz : ds.length ≤ sizeLine) (q : LcD b ok tg ifs e ds (wipeR ρ vs) S1 [] Φ) (Pq : Post X.K Zh H S Φ Q) (hD : H1 D' = none) :
    ∃ W : Nat → Nat → Hp → Prop, (∃ m, W 0 m (upd H1 D' (.lst []))) ∧ ∀ i m H, W i m H →
      (J.stop i H ∧ Q (.ref D') H) ∨ (J.go i H ∧ ∃ Nx : Hp → Prop, (∀ H', Nx H' → ∃ m', m' < m ∧ W (i + 1) m' H') ∧ ∀ x H', J.yld i H x H' → tgB b tg x (L2.wipe σ vs) H' fun σ2 H2 => L2.wipe σ2 vs = L2.wipe σ vs ∧ ttB b ifs σ2 H2 fun c H3 =>
        if c = true then teB b e σ2 H3 fun y H4 => ∃ acc, H4 D' = some (.lst acc) ∧ acc.length < sizeLine ∧ Nx (upd H4 D' (.lst (acc ++ [y]))) else Nx H3) := by
  have hDk : D' ∉ keys S1 ++ Zh := s1.free hD
  have hDs : D' ∉ keys S1 := fun m => hDk (sub_l _ m)
  have hfr : ∀ p, p ∈ [D'] → H1 p = none := fun p hp => by
    rw [List.mem_singleton.mp hp]
    exact hD
  have ev1 : Ev X.K ([D'] ++ Zh) (upd H1 D' (.lst [])) (L2.wipe σ vs) (wipeR ρ vs) S1 := Ev.wipe (Ev.hide (E.next k1 g1 s1) hD) vs
  -- what stands at a turn's start: St n H'
  refine ⟨fun i m H' => ∃ S' vs' acc, keys S' = keys S1 ∧ Grow (keys S1) H1 H' ∧ H' D' = some (.lst vs') ∧ Ev X.K ([D'] ++ Zh) H' (L2.wipe σ vs) (wipeR ρ vs) S' ∧ RepL X.K (keys S1 ++ ([D'] ++ Zh)) H' acc vs' ∧ LcD b ok tg ifs e (ds.drop i) (wipeR ρ vs) S' acc Φ ∧ acc.length ≤ i ∧ m = ds.length - i ∧ i ≤ ds.length,
    ⟨ds.length, S1, [], [], rfl, Grow.new hD, upd_same, ev1, .nil, q, Nat.le_refl _, rfl, Nat.zero_le _⟩, ?_⟩
  rintro i m H2 ⟨S2, vs2, acc, k2, g2, hD2, ev2, r2, q2, hl, rfl, hi⟩
  have t2 : Step S1 H1 S2 H2 := .of k2 g2
  by_cases hlt : i < ds.length
  · refine .inr ⟨it.go i S2 H2 t2 hlt, fun H' => ∃ S' vs' acc, keys S' = keys S1 ∧ Grow (keys S1) H1 H' ∧ H' D' = some (.lst vs') ∧ Ev X.K ([D'] ++ Zh) H' (L2.wipe σ vs) (wipeR ρ vs) S' ∧ RepL X.K (keys S1 ++ ([D'] ++ Zh)) H' acc vs' ∧ LcD b ok tg ifs e (ds.drop (i + 1)) (wipeR ρ vs) S' acc Φ ∧ acc.length ≤ i + 1, ?_, fun x H3 y => ?_⟩
    · rintro H' ⟨S', vs', acc', a1, a2, a3, a4, a5, a6, a7⟩
      exact ⟨ds.length - (i + 1), by omega, S', vs', acc', a1, a2, a3, a4, a5, a6, a7, rfl, hlt⟩
    · obtain ⟨d, hd, sm, rd⟩ := it.yld i S2 H2 x H3 [D'] hfr t2 ev2.st hlt y
      have e1 : ds.drop i = d :: ds.drop (i + 1) := by
        rw [List.drop_eq_getElem_cons hlt]
        congr 1
        rw [List.getElem?_eq_getElem hlt] at hd
        exact Option.some.inj hd
      rw [e1] at q2
      have ev3 := Same.ev ev2 sm
      have hD3 : H3 D' = some (.lst vs2) := sm _ _ hD2
      have g3 : Grow (keys S1) H1 H3 := g2.trans fun b x _ h => sm b x h
      have r3 : RepL X.K (keys S1 ++ ([D'] ++ Zh)) H3 acc vs2 := by
        rw [← k2] at r2 ⊢
        exact ev2.st.grL (fun b x _ h => sm b x h) r2
      intro X' hX
      have hK := hb X' hX
      refine DG.tw (q2 X' hX) (by rw [hK]; exact ev3) (by rw [hK]; exact rd) fun σ4 H4 ρ4 S4 k4 g4 ev4 l4 o4 q4 => ?_
      rw [hK] at ev4
      have hDn : D' ∉ keys S2 := by
        rw [k2]
        exact hDs
      have hD4 : H4 D' = some (.lst vs2) := g4 _ _ hDn hD3
      have k4' : keys S4 = keys S1 := k4.trans k2
      have g4' : Grow (keys S1) H1 H4 := g3.trans (by rw [← k2]; exact g4)
      have r4 : RepL X.K (keys S1 ++ ([D'] ++ Zh)) H4 acc vs2 := by
        rw [← k2] at r3 ⊢
        exact ev3.st.grL g4 r3
      have w4 : Ev X.K ([D'] ++ Zh) H4 (L2.wipe σ vs) (wipeR ρ vs) S4 := ev3.next k4 g4 ev4.st
      refine ⟨wipe_eq l4 fun j hj => o4 j (hok j hj), ?_⟩
      have goOn : ∀ c H5 S5, keys S5 = keys S4 → Grow (keys S4) H4 H5 → Store X.K ([D'] ++ Zh) H5 S5 → (if c = true then DEb b e ρ4 S5 fun y S6 => LcD b ok tg ifs e (ds.drop (i + 1)) (wipeR ρ vs) S6 (acc ++ [y]) Φ else LcD b ok tg ifs e (ds.drop (i + 1)) (wipeR ρ vs) S5 acc Φ) →
          if c = true then teB b e σ4 H5 fun y H6 => ∃ acc', H6 D' = some (.lst acc') ∧ acc'.length < sizeLine ∧ (∃ S' vs' acc, keys S' = keys S1 ∧ Grow (keys S1) H1 (upd H6 D' (.lst (acc' ++ [y]))) ∧ (upd H6 D' (.lst (acc' ++ [y]))) D' = some (.lst vs') ∧ Ev X.K ([D'] ++ Zh) (upd H6 D' (.lst (acc' ++ [y]))) (L2.wipe σ vs) (wipeR ρ vs) S' ∧ RepL X.K (keys S1 ++ ([D'] ++ Zh)) (upd H6 D' (.lst (acc' ++ [y]))) acc vs' ∧ LcD b ok tg ifs e (ds.drop (i + 1)) (wipeR ρ vs) S' acc Φ ∧ acc.length ≤ i + 1)
          else ∃ S' vs' acc, keys S' = keys S1 ∧ Grow (keys S1) H1 H5 ∧ H5 D' = some (.lst vs') ∧ Ev X.K ([D'] ++ Zh) H5 (L2.wipe σ vs) (wipeR ρ vs) S' ∧ RepL X.K (keys S1 ++ ([D'] ++ Zh)) H5 acc vs' ∧ LcD b ok tg ifs e (ds.drop (i + 1)) (wipeR ρ vs) S' acc Φ ∧ acc.length ≤ i + 1 := fun c H5 S5 k5 g5 s5 q5 => by
        have hDn4 : D' ∉ keys S4 := by
          rw [k4']
          exact hDs
        have hD5 : H5 D' = some (.lst vs2) := g5 _ _ hDn4 hD4
        have k5' : keys S5 = keys S1 := k5.trans k4'
        have g5' : Grow (keys S1) H1 H5 := g4'.trans (by rw [← k4']; exact g5)
        have r5 : RepL X.K (keys S1 ++ ([D'] ++ Zh)) H5 acc vs2 := by
          rw [← k4'] at r4 ⊢
          exact ev4.st.grL g5 r4
        have w5 : Ev X.K ([D'] ++ Zh) H5 (L2.wipe σ vs) (wipeR ρ vs) S5 := w4.next k5 g5 s5
        cases c with
        | false => exact ⟨S5, vs2, acc, k5', g5', hD5, w5, r5, q5, by omega⟩
        | true =>
          show teB b e σ4 H5 _
          intro X2 hX2
          have hK2 := hb X2 hX2
          refine DE.tw (q5 X2 hX2) (by rw [hK2]; exact ev4.next k5 g5 s5) fun y H6 dy S6 k6 g6 s6 r6 q6 => ?_
          rw [hK2] at s6 r6
          have hDn5 : D' ∉ keys S5 := by
            rw [k5']
            exact hDs
          have hD6 : H6 D' = some (.lst vs2) := g6 _ _ hDn5 hD5
          have k6' : keys S6 = keys S1 := k6.trans k5'
          have g6' : Grow (keys S1) H1 H6 := g5'.trans (by rw [← k5']; exact g6)
          have r6a : RepL X.K (keys S1 ++ ([D'] ++ Zh)) H6 acc vs2 := by
            rw [← k5'] at r5 ⊢
            exact s5.grL g6 r5
          have w6 : Ev X.K ([D'] ++ Zh) H6 (L2.wipe σ vs) (wipeR ρ vs) S6 := w5.next k6 g6 s6
          have zd : Zl [D'] H6 := fun c hc => ⟨vs2, by rw [List.mem_singleton.mp hc]; exact hD6⟩
          have sd : ∀ A : List Addr, ∀ c, c ∈ [D'] → c ∈ A ++ ([D'] ++ Zh) := fun A c hc => List.mem_append_right _ (List.mem_append_left _ hc)
          refine ⟨vs2, hD6, by rw [r6a.length]; omega, S6, vs2 ++ [y], acc ++ [dy], k6', ?_, upd_same, ?_, ?_, q6, by rw [List.length_append, List.length_singleton]; omega⟩
          · intro c x n h
            rw [upd_ne (ne_of_none h hD)]
            exact g6' c x n h
          · refine ⟨s6.put, w6.len, fun j d h => ?_⟩
            obtain ⟨v, e, r⟩ := w6.var j d h
            exact ⟨v, e, Rep.grow zd grow_at (sd _) r⟩
          · refine RepL.append (RepL.grow zd grow_at (sd _) r6a) (.one (Rep.grow zd grow_at (sd _) ?_))
            rw [k5'] at r6
            exact r6
      cases ifs with
      | nil => exact goOn true H4 S4 rfl Grow.refl ev4.st q4
      | cons c cs =>
        cases cs with
        | nil =>
          intro X2 hX2
          have hK2 := hb X2 hX2
          refine DT.tw (q4 X2 hX2) (by rw [hK2]; exact ev4) fun c H5 S5 k5 g5 s5 q5 => ?_
          rw [hK2] at s5
          exact goOn c H5 S5 k5 g5 s5 q5
        | cons _ _ => exact q4.elim
  · have e1 : i = ds.length := by omega
    refine .inl ⟨by rw [e1]; exact it.stop S2 H2 t2, ?_⟩
    rw [List.drop_eq_nil_of_le (by omega)] at q2
    refine Pq _ H2 (.lst acc) S2 (k2.trans k1) (g1.trans (by rw [← k1]; exact g2)) ev2.st.narrow ?_ q2
    unfold Rep
    refine ⟨D', vs2, rfl, by rw [← k1]; exact hDk, hD2, ?_⟩
    rw [← k1]
    refine r2.shrink fun c hc => ?_
    rcases List.mem_append.mp hc with z | z
    · exact List.mem_append_left _ z
    · exact List.mem_append_right _ (List.mem_append_right _ z)
/-- what a comprehension's rule wants, behind its source -/
def LcN (X : Cx) (scope : Scope) (ok : Nat → Bool) (tg : Expr) (ifs : List Expr) (elt : Expr) (ds : List D) (ρ : Ro) (S : Sto) (Φ : D → Sto → Prop) : Prop := LcD (blks X scope) ok tg ifs elt ds ρ S [] Φ
theorem lcN_norm {scope : Scope} {ok : Nat → Bool} {ifs : List Expr} {elt : Expr} {ds : List D} {ρ' : Ro} {Φ : D → Sto → Prop} (e : ρ = ρ') (h : LcD (blks X scope) ok tg ifs elt ds ρ' S [] Φ) : LcN X scope ok tg ifs elt ds ρ S Φ := by
  rw [e]
  exact h
def okOf (own : List (Str × Nat)) : Nat → Bool := fun j => own.any fun p => Nat.beq p.2 j
theorem okOf_no {own : List (Str × Nat)} {j : Nat} (h : j ∉ own.map (·.2)) : okOf own j = false := by
  unfold okOf
  rw [List.any_eq_false]
  intro p hp e
  exact h (List.mem_map.mpr ⟨p, hp, Nat.eq_of_beq_eq_true e⟩)
theorem blks_K {scope : Scope} {X' : Cx} (h : blks X scope X') : X'.K = X.K := by
  obtain ⟨_, _, _, _, _, rfl⟩ := h
  rfl
theorem de_lc {scope : Scope} {own : List (Str × Nat)} {ifs : List Expr} {elt : Expr} {Φ : D → Sto → Prop} (A : At X P w K mg base tb names k) (hk : scope.kind = .function) (hb : blkD tb names scope.names own = true) (hs : ∀ x, foldedSetIterable iter X.env x = pure x)
    (h : DI X tg iter ρ S fun ds S1 => ds.length ≤ sizeLine ∧ LcN X scope (okOf own) tg ifs elt ds (wipeR ρ (own.map (·.2))) S1 Φ) : DE X (.ListComp elt [⟨tg, iter, ifs, 0⟩] scope pos) ρ S Φ :=
  DE.of (pe_lc (own := own) (g := tgB (blks X scope) tg) (tt := ttB (blks X scope) ifs) (te := teB (blks X scope) elt) A.calm A.nd pi_w (blkD_ok A hk hb)
    (fun s H C cl fp => ⟨fun pins s' σ H' v u Q I r q => q _ ⟨s, H, C, cl, fp, rfl⟩ pins s' u I r⟩) (fun s H C cl fp => pts_b ⟨s, H, C, cl, fp, rfl⟩) (fun s H C cl fp => ⟨fun pins s' σ H' Q I q => q _ ⟨s, H, C, cl, fp, rfl⟩ pins s' I⟩) hs)
    fun Zh σ H Q E P => h.tw E fun J H1 ds S1 k1 g1 s1 it q D' hD => lc_read (fun _ => blks_K) (fun _ => okOf_no) E k1 g1 s1 it q.1 q.2 P hD
theorem ds_setLc {scope : Scope} {own : List (Str × Nat)} {ifs : List Expr} {elt : Expr} {y : Str} {py spos : Pos} {E : DEnds} (A : At X P w K mg base tb names k) (hk : scope.kind = .function) (hb : blkD tb names scope.names own = true) (hs : ∀ x, foldedSetIterable iter X.env x = pure x)
    (hl : (py.line == pos.line) = true) (ha : (scope.names.any fun (n, k) => n == y && (k == .local || k == .cell)) = false) (hy : locB names y = true)
    (h : ∃ i, tb.lookup y = some i ∧ DI X tg iter ρ S fun ds S1 => ds.length ≤ sizeLine ∧ LcN X scope (okOf own) tg ifs elt ds (wipeR ρ (own.map (·.2))) S1 fun d S2 => Nx E (ρ.set i (some d)) S2) : DS X (.Assign [.Name y py] (.ListComp elt [⟨tg, iter, ifs, 0⟩] scope pos) spos) ρ S E := by
  obtain ⟨i, hi, h⟩ := h
  exact DS.of (ps_setLc (own := own) (g := tgB (blks X scope) tg) (tt := ttB (blks X scope) ifs) (te := teB (blks X scope) elt) A.calm A.nd (A.slot _ _ hi) (A.loc _ (locB_of hy)) (sw_true A.kind (A.loc _ (locB_of hy)) hl ha) pi_w (blkD_ok A hk hb)
    (fun s H C cl fp => ⟨fun pins s' σ H' v u Q I r q => q _ ⟨s, H, C, cl, fp, rfl⟩ pins s' u I r⟩) (fun s H C cl fp => pts_b ⟨s, H, C, cl, fp, rfl⟩) (fun s H C cl fp => ⟨fun pins s' σ H' Q I q => q _ ⟨s, H, C, cl, fp, rfl⟩ pins s' I⟩) hs)
    fun Zh σ H Dn ev kk => h.tw ev fun J H1 ds S1 k1 g1 s1 it q D' hD => lc_read (Q := fun x H1 => gName i x σ H1 Dn.nx) (fun _ => blks_K) (fun _ => okOf_no) ev k1 g1 s1 it q.1 q.2 (fun v H' d S' k' g' s' r q => by
      have ev1 := ev.next k' g' s'
      exact kk.nx _ _ _ _ (.of k' g') (ev1.put (by rw [k']; exact r)) q) hD
/-- the items one by one -/
theorem lc_nil {b : Bl} {ok : Nat → Bool} {ifs : List Expr} {elt : Expr} {acc : List D} {Φ : D → Sto → Prop} (q : Φ (.lst acc) S) : LcD b ok tg ifs elt [] ρ S acc Φ := q
theorem lc_cons {b : Bl} {ok : Nat → Bool} {elt : Expr} {d : D} {ds acc : List D} {Φ : D → Sto → Prop} (q : DGb b ok tg d ρ S fun ρ2 S2 => DEb b elt ρ2 S2 fun y S4 => LcD b ok tg [] elt ds ρ S4 (acc ++ [y]) Φ) : LcD b ok tg [] elt (d :: ds) ρ S acc Φ := q
/-- all items alike: the element is f of the item, nothing else changes -/
theorem lc_map {b : Bl} {ok : Nat → Bool} {elt : Expr} {f : D → D} {Φ : D → Sto → Prop} : ∀ {ds acc : List D}, (∀ d, d ∈ ds → ∀ X', b X' → ∀ Ψ : Ro → Sto → Prop, (∀ ρ2, (∀ X', b X' → ∀ Ξ : D → Sto → Prop, Ξ (f d) S → DE X' elt ρ2 S Ξ) → Ψ ρ2 S) → DG X' ok tg d ρ S Ψ) → Φ (.lst (acc ++ ds.map f)) S → LcD b ok tg [] elt ds ρ S acc Φ
  | [], acc, _, q => by
    rw [List.map_nil, List.append_nil] at q
    exact q
  | d :: ds, acc, h, q => by
    refine lc_cons fun X' hX => h d List.mem_cons_self X' hX _ fun ρ2 h2 X2 hX2 => h2 X2 hX2 _ (lc_map (fun c hc => h c (List.mem_cons_of_mem _ hc)) ?_)
    rw [List.append_assoc]
    exact q
end
end Ar
namespace Ar
open PySem PySem.Spec PyProof.Rows L2

section
variable {X : Cx} {ρ : Ro} {S : Sto}
theorem DE.mono {e : Expr} {Φ Ψ : D → Sto → Prop} (h : DE X e ρ S Φ) (k : ∀ d S1, Φ d S1 → Ψ d S1) : DE X e ρ S Ψ := fun Zh pins s σ H Q I E P => h Zh pins s σ H Q I E fun v H' d S' k1 g s1 r q => P v H' d S' k1 g s1 r (k _ _ q)
theorem DT.mono {e : Expr} {Φ Ψ : Bool → Sto → Prop} (h : DT X e ρ S Φ) (k : ∀ d S1, Φ d S1 → Ψ d S1) : DT X e ρ S Ψ := fun Zh pins s σ H Q I E P => h Zh pins s σ H Q I E fun v H' S' k1 g s1 q => P v H' S' k1 g s1 (k _ _ q)
theorem DA.mono {e : List Expr} {Φ Ψ : List D → Sto → Prop} (h : DA X e ρ S Φ) (k : ∀ d S1, Φ d S1 → Ψ d S1) : DA X e ρ S Ψ := fun Zh pos pins s σ H Q I E P => h Zh pos pins s σ H Q I E fun v H' d S' k1 g s1 r l q => P v H' d S' k1 g s1 r l (k _ _ q)
theorem DI.mono {tg iter : Expr} {Φ Ψ : List D → Sto → Prop} (h : DI X tg iter ρ S Φ) (k : ∀ d S1, Φ d S1 → Ψ d S1) : DI X tg iter ρ S Ψ := fun Zh pins s σ H R I E P => h Zh pins s σ H R I E fun J H' ds S' k1 g s1 it q => P J H' ds S' k1 g s1 it (k _ _ q)
theorem DO.mono {f : Value → Value → Sem Value} {a b : D} {Φ Ψ : D → Sto → Prop} (h : DO X f a b S Φ) (k : ∀ d S1, Φ d S1 → Ψ d S1) : DO X f a b S Ψ := fun Zh pins s σ H x y v u Q I st ra rb rx ry P => h Zh pins s σ H x y v u Q I st ra rb rx ry fun v H' d S' k1 g s1 r q => P v H' d S' k1 g s1 r (k _ _ q)
theorem DS.mono {st : Stmt} {E E' : DEnds} (h : DS X st ρ S E) (k1 : ∀ ρ' S', E.nx ρ' S' → E'.nx ρ' S') (k2 : ∀ d S', E.rt d S' → E'.rt d S') (k3 : ∀ ρ' S', E.bk ρ' S' → E'.bk ρ' S') (k4 : ∀ ρ' S', E.ct ρ' S' → E'.ct ρ' S') : DS X st ρ S E' := fun Zh pins s σ H Dn I ev k =>
  h Zh pins s σ H Dn I ev ⟨fun a b c d e f g => k.nx a b c d e f (k1 _ _ g), fun a b c d e f g i => k.rt a b c d e f g (k2 _ _ i), fun a b c d e f g => k.bk a b c d e f (k3 _ _ g), fun a b c d e f g => k.ct a b c d e f (k4 _ _ g)⟩
theorem DSs.mono {st : List Stmt} {E E' : DEnds} (h : DSs X st ρ S E) (k1 : ∀ ρ' S', E.nx ρ' S' → E'.nx ρ' S') (k2 : ∀ d S', E.rt d S' → E'.rt d S') (k3 : ∀ ρ' S', E.bk ρ' S' → E'.bk ρ' S') (k4 : ∀ ρ' S', E.ct ρ' S' → E'.ct ρ' S') : DSs X st ρ S E' := fun Zh pins s σ H Dn I ev k =>
  h Zh pins s σ H Dn I ev ⟨fun a b c d e f g => k.nx a b c d e f (k1 _ _ g), fun a b c d e f g i => k.rt a b c d e f g (k2 _ _ i), fun a b c d e f g => k.bk a b c d e f (k3 _ _ g), fun a b c d e f g => k.ct a b c d e f (k4 _ _ g)⟩
end
/-! ### built-in functions -/
def bltB (x : Str) : Bool := x == "len" || x == "abs" || x == "int" || x == "isinstance" || x == "all" || x == "any" || x == "sum" || x == "tuple" || x == "list" || x == "range" || x == "zip" || x == "enumerate" || x == "bool" || x == "str" || x == "min" || x == "max" || x == "sorted" || x == "divmod" || x == "set" || x == "dict" || x == "pow" || x == "ord" || x == "chr" || x == "reversed" || x == "type"
structure NoB (mg : Str → Option Value) : Prop where
  no : ∀ x, bltB x = true → mg x = none
section
variable {X : Cx} {ρ : Ro} {S : Sto} {Φ : D → Sto → Prop} {P : Program} {w : World} {K : PySem.W.Frag} {mg : Str → Option Value} {base : Heap} {tb : List (Str × Nat)} {names : List (Str × NameKind)} {k : Nat} {pos p : Pos} {e : Expr} {es : List Expr}
theorem de_cB {id : String} {x : Str} {r : List V → Hp → VK → Prop} (A : At X P w K mg base tb names k) (G : NoB mg) (hc : CallR X (.builtin id) r) (hv : bootBuiltins x = some (.builtin id)) (hg : (bltB x && glB names x) = true)
    (he : starEach (e :: es) X.env = (false, eval e X.env) :: starEach es X.env) (hpl : (backTo pos (starEach es X.env)).any (·.1) = false)
    (h : DA X (e :: es) ρ S fun ds S1 => ∀ Zh H vs Q, Store X.K Zh H S1 → RepL X.K (keys S1 ++ Zh) H ds vs → Post X.K Zh H S1 Φ Q → r vs H Q) : DE X (.Call (.Name x p) (e :: es) [] pos) ρ S Φ := by
  rw [Bool.and_eq_true] at hg
  have z := glB_of hg.2
  exact DE.of (pe_callB hc (A.gl _ z.2) (by rw [A.mg]; exact G.no x hg.1) hv pa_w (plain1 z.1).2.2 (plain1 z.1).1 he hpl) fun Zh σ H Q E P => h.tw E fun vs H1 ds S1 k1 g1 s1 r1 l1 q1 => q1 Zh H1 vs Q s1 (by rw [k1]; exact r1) (P.next k1 g1)
theorem de_cT {T : String} {x : Str} {r : List V → Hp → VK → Prop} (A : At X P w K mg base tb names k) (G : NoB mg) (hc : CallR X (.type T) r) (hv : bootBuiltins x = some (.type T)) (hg : (bltB x && glB names x) = true)
    (he : starEach (e :: es) X.env = (false, eval e X.env) :: starEach es X.env) (hpl : (backTo pos (starEach es X.env)).any (·.1) = false)
    (h : DA X (e :: es) ρ S fun ds S1 => ∀ Zh H vs Q, Store X.K Zh H S1 → RepL X.K (keys S1 ++ Zh) H ds vs → Post X.K Zh H S1 Φ Q → r vs H Q) : DE X (.Call (.Name x p) (e :: es) [] pos) ρ S Φ := by
  rw [Bool.and_eq_true] at hg
  have z := glB_of hg.2
  exact DE.of (pe_callTy hc (A.gl _ z.2) (by rw [A.mg]; exact G.no x hg.1) hv pa_w (plain1 z.1).2.2 (plain1 z.1).1 he hpl) fun Zh σ H Q E P => h.tw E fun vs H1 ds S1 k1 g1 s1 r1 l1 q1 => q1 Zh H1 vs Q s1 (by rw [k1]; exact r1) (P.next k1 g1)
theorem da_one (he : starEach [e] X.env = [(false, eval e X.env)]) {Ψ : List D → Sto → Prop} (h : DE X e ρ S fun d S1 => Ψ [d] S1) : DA X [e] ρ S Ψ :=
  da_cons (fun Zh pins s σ H Q I E P => h Zh pins s σ H Q I E fun v H' d S' k g s' r q => P v H' d S' k g s' r (da_nil q)) he
/-- one argument -/
theorem de_cB1 {id : String} {x : Str} {r : List V → Hp → VK → Prop} (A : At X P w K mg base tb names k) (G : NoB mg) (hc : CallR X (.builtin id) r) (hv : bootBuiltins x = some (.builtin id)) (hg : (bltB x && glB names x) = true)
    (he : starEach [e] X.env = [(false, eval e X.env)])
    (h : DE X e ρ S fun d S1 => ∀ Zh H v Q, Store X.K Zh H S1 → Rep X.K (keys S1 ++ Zh) H d v → Post X.K Zh H S1 Φ Q → r [v] H Q) : DE X (.Call (.Name x p) [e] [] pos) ρ S Φ := by
  refine de_cB A G hc hv hg he rfl (da_one he ?_)
  refine DE.mono h fun d S1 q Zh H vs Q s r P => ?_
  obtain ⟨v, r1, rfl, rv, r⟩ := r.uncons
  cases r.un0
  exact q Zh H v Q s rv P
theorem de_cT1 {T : String} {x : Str} {r : List V → Hp → VK → Prop} (A : At X P w K mg base tb names k) (G : NoB mg) (hc : CallR X (.type T) r) (hv : bootBuiltins x = some (.type T)) (hg : (bltB x && glB names x) = true)
    (he : starEach [e] X.env = [(false, eval e X.env)])
    (h : DE X e ρ S fun d S1 => ∀ Zh H v Q, Store X.K Zh H S1 → Rep X.K (keys S1 ++ Zh) H d v → Post X.K Zh H S1 Φ Q → r [v] H Q) : DE X (.Call (.Name x p) [e] [] pos) ρ S Φ := by
  refine de_cT A G hc hv hg he rfl (da_one he ?_)
  refine DE.mono h fun d S1 q Zh H vs Q s r P => ?_
  obtain ⟨v, r1, rfl, rv, r⟩ := r.uncons
  cases r.un0
  exact q Zh H v Q s rv P
theorem de_abs (A : At X P w K mg base tb names k) (G : NoB mg) (hg : glB names "abs" = true) (he : starEach [e] X.env = [(false, eval e X.env)]) (h : DE X e ρ S fun d S1 => ∃ i, d = .int i ∧ Φ (.int (if i < 0 then -i else i)) S1) : DE X (.Call (.Name "abs" p) [e] [] pos) ρ S Φ :=
  de_cB1 A G call_abs rfl (by rw [hg]; rfl) he (DE.mono h fun d S1 ⟨i, e1, q⟩ Zh H v Q s r P => by
    subst e1
    exact ⟨i, by rw [r.int], P.here s rep_int q⟩)
theorem de_intI (A : At X P w K mg base tb names k) (G : NoB mg) (hg : glB names "int" = true) (he : starEach [e] X.env = [(false, eval e X.env)]) (h : DE X e ρ S fun d S1 => (∃ i, d = .int i ∧ Φ (.int i) S1) ∨ ∃ c, d = .bl c ∧ Φ (.int (if c then 1 else 0)) S1) : DE X (.Call (.Name "int" p) [e] [] pos) ρ S Φ :=
  de_cT1 A G call_int1 rfl (by rw [hg]; rfl) he (DE.mono h fun d S1 q Zh H v Q s r P => by
    rcases q with ⟨i, e1, q⟩ | ⟨c, e1, q⟩
    · subst e1
      exact .inl ⟨i, by rw [r.int], P.here s rep_int q⟩
    · subst e1
      exact .inr ⟨c, by rw [r.bl], P.here s rep_int q⟩)
/-- what len tells -/
def LenD (S : Sto) : D → Nat → Prop
  | .tup l, n => n = l.length
  | .lst l, n => n = l.length
  | .frz l, n => n = l.length
  | .str x, n => x.length ≤ sizeLine ∧ n = x.length
  | .cell p, n => ∃ l, (p, l) ∈ S ∧ n = l.length
  | _, _ => False
theorem Rep.frzL {K : PySem.W.Frag} {Z : List Addr} {H : Hp} {l : List D} {v : V} (h : Rep K Z H (.frz l) v) : ∃ p vs, v = .ref p ∧ SqL K H p vs ∧ RepL K Z H l vs := by
  obtain ⟨p, vs, e, h, r⟩ := h.frz
  exact ⟨p, vs, e, frz_sq h, r⟩
theorem lenV_of {K : PySem.W.Frag} {Zh : List Addr} {H : Hp} {d : D} {v : V} {n : Nat} (s : Store K Zh H S) (r : Rep K (keys S ++ Zh) H d v) (h : LenD S d n) : LenV K v H n := by
  cases d with
  | tup l =>
    obtain ⟨p, vs, rfl, sq, rl⟩ := r.tup
    exact .inr ⟨vs, sq, by rw [rl.length]; exact h⟩
  | lst l =>
    obtain ⟨p, vs, rfl, _, sq, rl⟩ := r.lst
    exact .inl ⟨vs, .inl (.inl sq), by rw [rl.length]; exact h⟩
  | frz l =>
    obtain ⟨p, vs, rfl, sq, rl⟩ := r.frzL
    exact .inl ⟨vs, sq, by rw [rl.length]; exact h⟩
  | str x =>
    rw [r.str]
    exact h
  | cell p =>
    obtain ⟨l, m, e⟩ := h
    obtain ⟨vs, h1, rl⟩ := s.st _ _ m
    rw [r.cell]
    exact .inl ⟨vs, .inl (.inl h1), by rw [rl.length]; exact e⟩
  | _ => exact (show False from h).elim
theorem de_len (A : At X P w K mg base tb names k) (G : NoB mg) (hg : glB names "len" = true) (he : starEach [e] X.env = [(false, eval e X.env)]) (h : DE X e ρ S fun d S1 => ∃ n, LenD S1 d n ∧ Φ (.int (n : Int)) S1) : DE X (.Call (.Name "len" p) [e] [] pos) ρ S Φ :=
  de_cB1 A G call_len rfl (by rw [hg]; rfl) he (DE.mono h fun d S1 ⟨n, h1, q⟩ Zh H v Q s r P => ⟨v, n, rfl, lenV_of s r h1, P.here s rep_int q⟩)
/-- all, any, sum -/
theorem RepL.bls {K : PySem.W.Frag} {Z : List Addr} {H : Hp} : ∀ {ns : List Bool} {vs : List V}, RepL K Z H (ns.map D.bl) vs → vs = ns.map V.bl
  | [], _, h => h.un0
  | n :: ns, vs, h => by
    obtain ⟨v, r, e, h1, h2⟩ := RepL.uncons h
    have e2 : v = .bl n := h1.bl
    rw [e, e2, RepL.bls h2] <;> rfl
theorem RepL.strs {K : PySem.W.Frag} {Z : List Addr} {H : Hp} : ∀ {ns : List Str} {vs : List V}, RepL K Z H (ns.map D.str) vs → vs = ns.map V.str
  | [], _, h => h.un0
  | n :: ns, vs, h => by
    obtain ⟨v, r, e, h1, h2⟩ := RepL.uncons h
    have e2 : v = .str n := h1.str
    rw [e, e2, RepL.strs h2] <;> rfl
theorem de_all (A : At X P w K mg base tb names k) (G : NoB mg) (hg : glB names "all" = true) (he : starEach [e] X.env = [(false, eval e X.env)]) (h : DE X e ρ S fun d S1 => ∃ bs : List Bool, d = .lst (bs.map D.bl) ∧ Φ (.bl (bs.all id)) S1) : DE X (.Call (.Name "all" p) [e] [] pos) ρ S Φ :=
  de_cB1 A G (cr_all A.calm) rfl (by rw [hg]; rfl) he (DE.mono h fun d S1 ⟨bs, e1, q⟩ Zh H v Q s r P => by
    subst e1
    obtain ⟨p, vs, rfl, _, sq, rl⟩ := r.lst
    rw [rl.bls] at sq
    exact ⟨p, bs, rfl, .inl (.inl sq), P.here s rep_bl q⟩)
theorem de_any (A : At X P w K mg base tb names k) (G : NoB mg) (hg : glB names "any" = true) (he : starEach [e] X.env = [(false, eval e X.env)]) (h : DE X e ρ S fun d S1 => ∃ bs : List Bool, d = .lst (bs.map D.bl) ∧ Φ (.bl (bs.any id)) S1) : DE X (.Call (.Name "any" p) [e] [] pos) ρ S Φ :=
  de_cB1 A G (cr_any A.calm) rfl (by rw [hg]; rfl) he (DE.mono h fun d S1 ⟨bs, e1, q⟩ Zh H v Q s r P => by
    subst e1
    obtain ⟨p, vs, rfl, _, sq, rl⟩ := r.lst
    rw [rl.bls] at sq
    exact ⟨p, bs, rfl, .inl (.inl sq), P.here s rep_bl q⟩)
theorem de_sum (A : At X P w K mg base tb names k) (G : NoB mg) (hg : glB names "sum" = true) (he : starEach [e] X.env = [(false, eval e X.env)]) (h : DE X e ρ S fun d S1 => ∃ bs : List Int, d = .lst (bs.map D.int) ∧ Φ (.int bs.sum) S1) : DE X (.Call (.Name "sum" p) [e] [] pos) ρ S Φ :=
  de_cB1 A G (cr_sum A.calm) rfl (by rw [hg]; rfl) he (DE.mono h fun d S1 ⟨bs, e1, q⟩ Zh H v Q s r P => by
    subst e1
    obtain ⟨p, vs, rfl, _, sq, rl⟩ := r.lst
    rw [rl.ints] at sq
    exact ⟨p, bs, rfl, .inl (.inl sq), P.here s rep_int q⟩)
/-- tuple(..), list(..) -/
def SeqD (S : Sto) : D → List D → Prop
  | .tup l, m => m = l
  | .lst l, m => m = l
  | .frz l, m => m = l
  | .cell p, m => (p, m) ∈ S
  | _, _ => False
theorem seqV_of {K : PySem.W.Frag} {Zh : List Addr} {H : Hp} {d : D} {v : V} {m : List D} (s : Store K Zh H S) (r : Rep K (keys S ++ Zh) H d v) (h : SeqD S d m) : ∃ p vs, v = .ref p ∧ (SqL K H p vs ∨ SqT K H p vs) ∧ RepL K (keys S ++ Zh) H m vs := by
  cases d with
  | tup l =>
    obtain ⟨p, vs, rfl, sq, rl⟩ := r.tup
    cases (show m = l from h)
    exact ⟨p, vs, rfl, .inr sq, rl⟩
  | lst l =>
    obtain ⟨p, vs, rfl, _, sq, rl⟩ := r.lst
    cases (show m = l from h)
    exact ⟨p, vs, rfl, .inl (.inl (.inl sq)), rl⟩
  | frz l =>
    obtain ⟨p, vs, rfl, sq, rl⟩ := r.frzL
    cases (show m = l from h)
    exact ⟨p, vs, rfl, .inl sq, rl⟩
  | cell p =>
    obtain ⟨vs, h1, rl⟩ := s.st _ _ h
    rw [r.cell]
    exact ⟨p, vs, rfl, .inl (.inl (.inl h1)), rl⟩
  | _ => exact (show False from h).elim
theorem Post.tupAt {K : PySem.W.Frag} {Zh : List Addr} {H : Hp} {Q : VK} {l : List D} {vs : List V} {p : Addr} (P : Post K Zh H S Φ Q) (s : Store K Zh H S) (r : RepL K (keys S ++ Zh) H l vs) (q : Φ (.tup l) S) (hp : SqT K H p vs) : Q (.ref p) H :=
  P.here s (show Rep K (keys S ++ Zh) H (.tup l) (.ref p) by unfold Rep; exact ⟨p, vs, rfl, hp, r⟩) q
theorem de_tupleOf (A : At X P w K mg base tb names k) (G : NoB mg) (hg : glB names "tuple" = true) (he : starEach [e] X.env = [(false, eval e X.env)]) (h : DE X e ρ S fun d S1 => ∃ l, SeqD S1 d l ∧ Φ (.tup l) S1) : DE X (.Call (.Name "tuple" p) [e] [] pos) ρ S Φ :=
  de_cT1 A G call_tuple_of rfl (by rw [hg]; rfl) he (DE.mono h fun d S1 ⟨l, h1, q⟩ Zh H v Q s r P => by
    obtain ⟨p, vs, rfl, sq, rl⟩ := seqV_of s r h1
    exact ⟨p, vs, rfl, sq.imp (fun sq => ⟨sq, fun z hz => P.tup s rl q hz⟩) (fun sq => ⟨sq, P.tupAt s rl q sq⟩)⟩)
theorem de_listOf (A : At X P w K mg base tb names k) (G : NoB mg) (hg : glB names "list" = true) (he : starEach [e] X.env = [(false, eval e X.env)]) (h : DE X e ρ S fun d S1 => ∃ l, SeqD S1 d l ∧ Φ (.lst l) S1) : DE X (.Call (.Name "list" p) [e] [] pos) ρ S Φ :=
  de_cT1 A G call_list_of rfl (by rw [hg]; rfl) he (DE.mono h fun d S1 ⟨l, h1, q⟩ Zh H v Q s r P => by
    obtain ⟨p, vs, rfl, sq, rl⟩ := seqV_of s r h1
    exact ⟨p, vs, rfl, sq, fun z hz => P.lst s rl q hz⟩)
/-! isinstance -/
def tyN : D → String
  | .non => "NoneType"
  | .bl _ => "bool"
  | .int _ => "int"
  | .str _ => "str"
  | .tup _ => "tuple"
  | .lst _ => "list"
  | .frz _ => "list"
  | .cell _ => "list"
  | .dct _ _ => "dict"
  | .rng _ _ => "int"
theorem tyX_of {K : PySem.W.Frag} {Zh : List Addr} {H : Hp} {d : D} {v : V} (s : Store K Zh H S) (hc : ∀ p, d = .cell p → p ∈ keys S) (r : Rep K (keys S ++ Zh) H d v) : TyX K H v (.type (tyN d)) := by
  have sq : ∀ {p vs}, SqL K H p vs → TyX K H (.ref p) (.type "list") := fun {p vs} h => by
    rcases h with (h | ⟨o, h⟩) | ⟨o, its, n, h, hcl, _⟩
    · exact .base (.lst h)
    · exact .base (.frz h)
    · exact .kList h hcl
  cases d with
  | non => rw [r.non]; exact .base .non
  | bl b => rw [r.bl]; exact .base (.bl b)
  | int i => rw [r.int]; exact .base (.int i)
  | rng lo hi =>
    obtain ⟨i, e, _⟩ := r.rng
    rw [e]
    exact .base (.int i)
  | str x => rw [r.str]; exact .base (.str x)
  | tup l =>
    obtain ⟨p, vs, rfl, h, rl⟩ := r.tup
    rcases h with (h | ⟨o, h⟩) | ⟨o, its, n, h, hcl, _⟩
    · exact .base (.tup h)
    · exact .fTuple h
    · exact .kTuple h hcl
  | lst l =>
    obtain ⟨p, vs, rfl, _, h, rl⟩ := r.lst
    exact sq (.inl (.inl h))
  | frz l =>
    obtain ⟨p, vs, rfl, h, rl⟩ := r.frzL
    exact sq h
  | cell p =>
    rw [r.cell]
    obtain ⟨vs, h⟩ := s.zl p (hc p rfl)
    exact .base (.lst h)
  | dct ks l =>
    obtain ⟨p, vs, rfl, _, h, rl⟩ := r.dct
    exact .base (.dK h)
end
end Ar
namespace Ar
open PySem PySem.Spec PyProof.Rows L2
section
variable {X : Cx} {ρ : Ro} {S : Sto} {Φ : D → Sto → Prop} {P : Program} {w : World} {K : PySem.W.Frag} {mg : Str → Option Value} {base : Heap} {tb : List (Str × Nat)} {names : List (Str × NameKind)} {k : Nat} {pos p : Pos} {e : Expr} {es : List Expr}
/-! ### isinstance -/
def OkC (S : Sto) : D → Prop
  | .cell p => p ∈ keys S
  | _ => True
theorem OkC.of {d : D} (h : OkC S d) : ∀ p, d = .cell p → p ∈ keys S := fun p e1 => by
  subst e1
  exact h
/-- a type by its name, and what isinstance tells of data -/
structure TyG (x : Str) (T : String) (f : D → Bool) : Prop where
  bt : bootBuiltins x = some (.type T)
  bb : bltB x = true
  kit : ∀ d, kitB (tyN d) T = some (f d)
def isIntB : D → Bool
  | .int _ => true
  | .rng _ _ => true
  | .bl _ => true
  | _ => false
def isBoolB : D → Bool
  | .bl _ => true
  | _ => false
def isStrB : D → Bool
  | .str _ => true
  | _ => false
def isTupleB : D → Bool
  | .tup _ => true
  | _ => false
def isListB : D → Bool
  | .lst _ => true
  | .frz _ => true
  | .cell _ => true
  | _ => false
theorem tyInt : TyG "int" "int" isIntB := ⟨by decide +kernel, by decide +kernel, fun d => by
  cases d
  · exact (show kitB "NoneType" "int" = some false by decide +kernel)
  · exact (show kitB "bool" "int" = some true by decide +kernel)
  · exact (show kitB "int" "int" = some true by decide +kernel)
  · exact (show kitB "str" "int" = some false by decide +kernel)
  · exact (show kitB "tuple" "int" = some false by decide +kernel)
  · exact (show kitB "list" "int" = some false by decide +kernel)
  · exact (show kitB "list" "int" = some false by decide +kernel)
  · exact (show kitB "list" "int" = some false by decide +kernel)
  · exact (show kitB "dict" "int" = some false by decide +kernel)
  · exact (show kitB "int" "int" = some true by decide +kernel)⟩
theorem tyBool : TyG "bool" "bool" isBoolB := ⟨by decide +kernel, by decide +kernel, fun d => by
  cases d
  · exact (show kitB "NoneType" "bool" = some false by decide +kernel)
  · exact (show kitB "bool" "bool" = some true by decide +kernel)
  · exact (show kitB "int" "bool" = some false by decide +kernel)
  · exact (show kitB "str" "bool" = some false by decide +kernel)
  · exact (show kitB "tuple" "bool" = some false by decide +kernel)
  · exact (show kitB "list" "bool" = some false by decide +kernel)
  · exact (show kitB "list" "bool" = some false by decide +kernel)
  · exact (show kitB "list" "bool" = some false by decide +kernel)
  · exact (show kitB "dict" "bool" = some false by decide +kernel)
  · exact (show kitB "int" "bool" = some false by decide +kernel)⟩
theorem tyStr : TyG "str" "str" isStrB := ⟨by decide +kernel, by decide +kernel, fun d => by
  cases d
  · exact (show kitB "NoneType" "str" = some false by decide +kernel)
  · exact (show kitB "bool" "str" = some false by decide +kernel)
  · exact (show kitB "int" "str" = some false by decide +kernel)
  · exact (show kitB "str" "str" = some true by decide +kernel)
  · exact (show kitB "tuple" "str" = some false by decide +kernel)
  · exact (show kitB "list" "str" = some false by decide +kernel)
  · exact (show kitB "list" "str" = some false by decide +kernel)
  · exact (show kitB "list" "str" = some false by decide +kernel)
  · exact (show kitB "dict" "str" = some false by decide +kernel)
  · exact (show kitB "int" "str" = some false by decide +kernel)⟩
theorem tyTuple : TyG "tuple" "tuple" isTupleB := ⟨by decide +kernel, by decide +kernel, fun d => by
  cases d
  · exact (show kitB "NoneType" "tuple" = some false by decide +kernel)
  · exact (show kitB "bool" "tuple" = some false by decide +kernel)
  · exact (show kitB "int" "tuple" = some false by decide +kernel)
  · exact (show kitB "str" "tuple" = some false by decide +kernel)
  · exact (show kitB "tuple" "tuple" = some true by decide +kernel)
  · exact (show kitB "list" "tuple" = some false by decide +kernel)
  · exact (show kitB "list" "tuple" = some false by decide +kernel)
  · exact (show kitB "list" "tuple" = some false by decide +kernel)
  · exact (show kitB "dict" "tuple" = some false by decide +kernel)
  · exact (show kitB "int" "tuple" = some false by decide +kernel)⟩
theorem tyList : TyG "list" "list" isListB := ⟨by decide +kernel, by decide +kernel, fun d => by
  cases d
  · exact (show kitB "NoneType" "list" = some false by decide +kernel)
  · exact (show kitB "bool" "list" = some false by decide +kernel)
  · exact (show kitB "int" "list" = some false by decide +kernel)
  · exact (show kitB "str" "list" = some false by decide +kernel)
  · exact (show kitB "tuple" "list" = some false by decide +kernel)
  · exact (show kitB "list" "list" = some true by decide +kernel)
  · exact (show kitB "list" "list" = some true by decide +kernel)
  · exact (show kitB "list" "list" = some true by decide +kernel)
  · exact (show kitB "dict" "list" = some false by decide +kernel)
  · exact (show kitB "int" "list" = some false by decide +kernel)⟩
theorem de_isi {T : String} {f : D → Bool} {x : Str} {px : Pos} (A : At X P w K mg base tb names k) (G : NoB mg) (t : TyG x T f) (hg : (glB names x && glB names "isinstance") = true)
    (he : starEach [e, .Name x px] X.env = (false, eval e X.env) :: starEach [.Name x px] X.env)
    (h : DE X e ρ S fun d S1 => OkC S1 d ∧ Φ (.bl (f d)) S1) : DE X (.Call (.Name "isinstance" p) [e, .Name x px] [] pos) ρ S Φ := by
  rw [Bool.and_eq_true] at hg
  have z1 := glB_of hg.1
  have z2 := glB_of hg.2
  exact DE.of (pe_callB call_isi (A.gl _ z2.2) (by rw [A.mg]; exact G.no _ rfl) rfl (pa_cons pe_w (pa_cons (pe_bltn (v := .ty T) (A.gl _ z1.2) (by rw [A.mg]; exact G.no x t.bb) t.bt rfl (plain1 z1.1).2.2 (plain1 z1.1).1) pa_nil rfl) he) (plain1 z2.1).2.2 (plain1 z2.1).1 he rfl)
    fun Zh σ H Q E P => h.bind E fun v H1 d S1 k1 g1 E1 r1 h1 => by
      obtain ⟨hc, q⟩ := h1
      exact ⟨v, .ty T, _, _, f d, rfl, .ty T, tyX_of E1.st hc.of r1, kit_ty (t.kit d), (P.next k1 g1).here E1.st rep_bl q⟩
theorem de_isi2 {T T2 : String} {f f2 : D → Bool} {x x2 : Str} {px px2 pt : Pos} {kk} (A : At X P w K mg base tb names k) (G : NoB mg) (t : TyG x T f) (t' : TyG x2 T2 f2) (hg : (glB names x && glB names "isinstance" && glB names x2) = true)
    (he : starEach [e, .Tuple [.Name x px, .Name x2 px2] kk pt] X.env = (false, eval e X.env) :: starEach [.Tuple [.Name x px, .Name x2 px2] kk pt] X.env)
    (h : DE X e ρ S fun d S1 => OkC S1 d ∧ Φ (.bl (f d || f2 d)) S1) : DE X (.Call (.Name "isinstance" p) [e, .Tuple [.Name x px, .Name x2 px2] kk pt] [] pos) ρ S Φ := by
  rw [Bool.and_eq_true, Bool.and_eq_true] at hg
  have z1 := glB_of hg.1.1
  have z2 := glB_of hg.1.2
  have z3 := glB_of hg.2
  have t1 : PE X (.Name x px) (tC (.ty T)) := pe_bltn (v := .ty T) (A.gl _ z1.2) (by rw [A.mg]; exact G.no x t.bb) t.bt rfl (plain1 z1.1).2.2 (plain1 z1.1).1
  have t2 : PE X (.Name x2 px2) (tC (.ty T2)) := pe_bltn (v := .ty T2) (A.gl _ z3.2) (by rw [A.mg]; exact G.no x2 t'.bb) t'.bt rfl (plain1 z3.1).2.2 (plain1 z3.1).1
  exact DE.of (pe_callB call_isiT (A.gl _ z2.2) (by rw [A.mg]; exact G.no _ rfl) rfl (pa_cons pe_w (pa_cons (pe_tup (pa_cons t1 (pa_cons t2 pa_nil rfl) rfl)) pa_nil rfl) he) (plain1 z2.1).2.2 (plain1 z2.1).1 he rfl)
    fun Zh σ H Q E P => h.bind E fun v H1 d S1 k1 g1 E1 r1 h1 => by
      obtain ⟨hc, q⟩ := h1
      have hb := t.kit d
      have hb2 := t'.kit d
      refine ⟨sz rfl, fun tp hp => ?_⟩
      have s2 := E1.st.new (o := .tup [.ty T, .ty T2]) hp
      have r2 := E1.st.gr (Grow.new (o := .tup [.ty T, .ty T2]) hp) r1
      refine ⟨v, tp, [.ty T, .ty T2], _, [.type T, .type T2], f d || f2 d, rfl, upd_same, .cons (.ty T) (.cons (.ty T2) .nil), tyX_of s2 hc.of r2, ?_, ((P.next k1 g1).next rfl (Grow.new hp)).here s2 rep_bl q⟩
      refine kitAny_cons (kit_ty hb) (fun e1 => ?_) (fun e1 => by rw [e1]; rfl)
      rw [e1, Bool.false_or]
      exact kitAny_cons (kit_ty hb2) (fun e2 => by rw [e2]; exact kitAny_nil) (fun e2 => e2)
/-! ### signs before -/
theorem de_neg (h : DE X e ρ S fun d S1 => ∃ i, d = .int i ∧ Φ (.int (-i)) S1) : DE X (.UnaryOp .USub e pos) ρ S Φ := DE.of (pe_un un_neg pe_w) fun Zh σ H Q E P => h.bind E fun v H1 d S1 k1 g1 E1 r1 h1 => by
  obtain ⟨i, rfl, q⟩ := h1
  exact ⟨i, r1.int, (P.next k1 g1).here E1.st rep_int q⟩
/-- truth -/
def TruD (S : Sto) : D → Bool → Prop
  | .non, k => k = false
  | .bl b, k => k = b
  | .int i, k => k = (i != 0)
  | .str y, k => y.length ≤ sizeLine ∧ k = ((y.length : Int) != 0)
  | .tup l, k => k = !l.isEmpty
  | .lst l, k => k = !l.isEmpty
  | .frz l, k => k = !l.isEmpty
  | .cell p, k => ∃ l, (p, l) ∈ S ∧ k = !l.isEmpty
  | .dct _ _, _ => False
  | .rng _ _, _ => False
theorem RepL.isEmpty {K : PySem.W.Frag} {Z : List Addr} {H : Hp} {l : List D} {vs : List V} (r : RepL K Z H l vs) : vs.isEmpty = l.isEmpty := by
  have e := r.length
  cases l <;> cases vs <;> simp_all
theorem truV_of {K : PySem.W.Frag} {Zh : List Addr} {H : Hp} {d : D} {v : V} {c : Bool} (s : Store K Zh H S) (r : Rep K (keys S ++ Zh) H d v) (h : TruD S d c) : TruV K v H c := by
  cases d with
  | non => rw [r.non]; exact h
  | bl b => rw [r.bl]; exact h
  | int i => rw [r.int]; exact h
  | str x => rw [r.str]; exact h
  | tup l =>
    obtain ⟨p, vs, rfl, sq, rl⟩ := r.tup
    exact .inr (.inl ⟨vs, sq, by rw [rl.isEmpty]; exact h⟩)
  | lst l =>
    obtain ⟨p, vs, rfl, _, sq, rl⟩ := r.lst
    exact .inl ⟨vs, .inl (.inl sq), by rw [rl.isEmpty]; exact h⟩
  | frz l =>
    obtain ⟨p, vs, rfl, sq, rl⟩ := r.frzL
    exact .inl ⟨vs, sq, by rw [rl.isEmpty]; exact h⟩
  | cell p =>
    obtain ⟨l, m, e⟩ := h
    obtain ⟨vs, h1, rl⟩ := s.st _ _ m
    rw [r.cell]
    exact .inl ⟨vs, .inl (.inl h1), by rw [rl.isEmpty]; exact e⟩
  | dct ks l => exact (show False from h).elim
  | rng lo hi => exact (show False from h).elim
theorem dt_truth {Φ : Bool → Sto → Prop} (he : ∀ whole, isTrue e X.env whole = (do let v ← whole; standAt e.pos; holding [v] (truthy v))) (h : DE X e ρ S fun d S1 => ∃ c, TruD S1 d c ∧ Φ c S1) : DT X e ρ S Φ := DT.of (pt_truth pe_w he) fun Zh σ H Q E P => h.bind E fun v H1 d S1 k1 g1 E1 r1 h1 => by
  obtain ⟨c, hc, q⟩ := h1
  exact ⟨c, truV_of E1.st r1 hc, (P.next k1 g1) c H1 S1 rfl Grow.refl E1.st q⟩
theorem dt_not {Φ : Bool → Sto → Prop} (h : DT X e ρ S fun c S1 => Φ (!c) S1) : DT X (.UnaryOp .Not e pos) ρ S Φ := DT.of (pt_not pt_w) fun Zh σ H Q E P => h.tw E fun c H1 S1 k1 g1 s1 q => P (!c) H1 S1 k1 g1 s1 q
theorem de_not (h : DE X e ρ S fun d S1 => ∃ c, TruD S1 d c ∧ Φ (.bl (!c)) S1) : DE X (.UnaryOp .Not e pos) ρ S Φ := DE.of (pe_notT pe_w) fun Zh σ H Q E P => h.bind E fun v H1 d S1 k1 g1 E1 r1 h1 => by
  obtain ⟨c, hc, q⟩ := h1
  exact ⟨c, truV_of E1.st r1 hc, (P.next k1 g1).here E1.st rep_bl q⟩
/-! and, or -/
def DW (X : Cx) (e : Expr) (ρ : Ro) (S : Sto) (Φ : Bool → Sto → Prop) : Prop :=
  ∀ (whole : Sem Value) (Zh : List Addr) (pins : List (Addr × Obj)) (s : Shared) (σ : L2.St) (H : Hp) (Q : Bool → Hp → Prop), Inv X pins σ H s → Ev X.K Zh H σ ρ S → PostT X.K Zh H S Φ Q → wpAny (model X.prog X.w) X.A (isTrue e X.env whole) (TP X pins σ Q) X.xe s
def twW (X : Cx) (e : Expr) : TT := fun σ H Q => ∀ (whole : Sem Value) (pins : List (Addr × Obj)) (s : Shared), Inv X pins σ H s → wpAny (model X.prog X.w) X.A (isTrue e X.env whole) (TP X pins σ Q) X.xe s
theorem pw_w : PW X e (twW X e) := ⟨fun wh pins s _ _ _ I h => h wh pins s I⟩
theorem DW.of {t : TT} {Φ : Bool → Sto → Prop} (p : PW X e t) (h : ∀ Zh σ H Q, Ev X.K Zh H σ ρ S → PostT X.K Zh H S Φ Q → t σ H Q) : DW X e ρ S Φ := fun wh Zh pins s σ H Q I E q => p.run wh pins s σ H Q I (h Zh σ H Q E q)
theorem DW.tw {Φ : Bool → Sto → Prop} {Zh : List Addr} {σ : L2.St} {H : Hp} {Q : Bool → Hp → Prop} (h : DW X e ρ S Φ) (E : Ev X.K Zh H σ ρ S) (q : PostT X.K Zh H S Φ Q) : twW X e σ H Q := fun wh pins s I => h wh Zh pins s σ H Q I E q
variable {a b : Expr} {rest : List Expr}
theorem dt_bool {op} {Ψ : Bool → Sto → Prop} (h : DW X (.BoolOp op es pos) ρ S Ψ) : DT X (.BoolOp op es pos) ρ S Ψ := fun Zh pins s σ H Q I E q => h _ Zh pins s σ H Q I E q
theorem dw_and1 {Ψ : Bool → Sto → Prop} (h : DT X a ρ S Ψ) : DW X (.BoolOp .And [a] pos) ρ S Ψ := DW.of (pw_and1 pt_w) fun Zh σ H Q E P => h.tw E P
theorem dw_or1 {Ψ : Bool → Sto → Prop} (h : DT X a ρ S Ψ) : DW X (.BoolOp .Or [a] pos) ρ S Ψ := DW.of (pw_or1 pt_w) fun Zh σ H Q E P => h.tw E P
theorem dw_and {Ψ : Bool → Sto → Prop} (h : DT X a ρ S fun c S1 => if c = true then DW X (.BoolOp .And (b :: rest) pos) ρ S1 Ψ else Ψ false S1) : DW X (.BoolOp .And (a :: b :: rest) pos) ρ S Ψ := DW.of (pw_and pt_w pw_w) fun Zh σ H Q E P => h.tw E fun c H1 S1 k1 g1 s1 q => by
  cases c with
  | true => exact DW.tw q (E.next k1 g1 s1) (P.next k1 g1)
  | false => exact (P.next k1 g1) false H1 S1 rfl Grow.refl s1 q
theorem dw_or {Ψ : Bool → Sto → Prop} (h : DT X a ρ S fun c S1 => if c = true then Ψ true S1 else DW X (.BoolOp .Or (b :: rest) pos) ρ S1 Ψ) : DW X (.BoolOp .Or (a :: b :: rest) pos) ρ S Ψ := DW.of (pw_or pt_w pw_w) fun Zh σ H Q E P => h.tw E fun c H1 S1 k1 g1 s1 q => by
  cases c with
  | false => exact DW.tw q (E.next k1 g1 s1) (P.next k1 g1)
  | true => exact (P.next k1 g1) true H1 S1 rfl Grow.refl s1 q
theorem de_bool1 {op} (h : DE X a ρ S Φ) : DE X (.BoolOp op [a] pos) ρ S Φ := DE.of (pe_one pe_w) fun Zh σ H Q E P => h.tw E P
theorem de_and (h : DE X a ρ S fun d S1 => ∃ c, TruD S1 d c ∧ if c = true then DE X (.BoolOp .And (b :: rest) pos) ρ S1 Φ else Φ d S1) : DE X (.BoolOp .And (a :: b :: rest) pos) ρ S Φ := DE.of (pe_andT pe_w pe_w) fun Zh σ H Q E P => h.bind E fun v H1 d S1 k1 g1 E1 r1 h1 => by
  obtain ⟨c, hc, q⟩ := h1
  refine ⟨c, truV_of E1.st r1 hc, ?_⟩
  cases c with
  | true => exact DE.tw q E1 (P.next k1 g1)
  | false => exact (P.next k1 g1).here E1.st r1 q
theorem de_or (h : DE X a ρ S fun d S1 => ∃ c, TruD S1 d c ∧ if c = true then Φ d S1 else DE X (.BoolOp .Or (b :: rest) pos) ρ S1 Φ) : DE X (.BoolOp .Or (a :: b :: rest) pos) ρ S Φ := DE.of (pe_orT pe_w pe_w) fun Zh σ H Q E P => h.bind E fun v H1 d S1 k1 g1 E1 r1 h1 => by
  obtain ⟨c, hc, q⟩ := h1
  refine ⟨c, truV_of E1.st r1 hc, ?_⟩
  cases c with
  | false => exact DE.tw q E1 (P.next k1 g1)
  | true => exact (P.next k1 g1).here E1.st r1 q
theorem de_if {c : Expr} (h : DT X c ρ S fun c S1 => if c = true then DE X a ρ S1 Φ else DE X b ρ S1 Φ) : DE X (.IfExp c a b pos) ρ S Φ := DE.of (pe_ifExp pt_w pe_w pe_w) fun Zh σ H Q E P => h.tw E fun c H1 S1 k1 g1 s1 q => by
  cases c with
  | true => exact DE.tw q (E.next k1 g1 s1) (P.next k1 g1)
  | false => exact DE.tw q (E.next k1 g1 s1) (P.next k1 g1)
/-- choices -/
theorem ite_t {c : Bool} {A B : Prop} (h : c = true) (q : A) : if c = true then A else B := by rw [if_pos h]; exact q
theorem ite_f {c : Bool} {A B : Prop} (h : c = false) (q : B) : if c = true then A else B := by rw [h, if_neg (by simp)]; exact q
theorem ite_c {c : Bool} {A B : Prop} (q1 : c = true → A) (q2 : c = false → B) : if c = true then A else B := by
  cases c with
  | true => exact q1 rfl
  | false => exact q2 rfl
/-! ### parts -/
def IxD (S : Sto) : D → D → D → Prop
  | .tup l, .int i, e => atI l i = some e
  | .lst l, .int i, e => atI l i = some e
  | .frz l, .int i, e => atI l i = some e
  | .cell p, .int i, e => ∃ l, (p, l) ∈ S ∧ atI l i = some e
  | .str z, .int i, e => z.length ≤ sizeLine ∧ ∃ c, atI z.cps.toList i = some c ∧ e = .str ⟨#[c]⟩
  | _, _, _ => False
theorem RepL.atI {K : PySem.W.Frag} {Z : List Addr} {H : Hp} {l : List D} {vs : List V} {i : Int} {e : D} (rl : RepL K Z H l vs) (ha : L2.atI l i = some e) : ∃ v, L2.atI vs i = some v ∧ Rep K Z H e v := by
  unfold L2.atI at ha ⊢
  rw [rl.length]
  cases hj : ixN l.length i with
  | none => rw [hj] at ha; cases ha
  | some j =>
    rw [hj] at ha
    exact rl.get ha
theorem de_ix (hp : PlainIx b) (h : DE X a ρ S fun d S1 => DE X b ρ S1 fun c S2 => ∃ e, IxD S2 d c e ∧ Φ e S2) : DE X (.Subscript a b pos) ρ S Φ :=
  DE.of (pe_ix ix_seq pe_w pe_w hp) fun Zh σ H Q E P => h.bind E fun x H1 d S1 k1 g1 E1 r1 h1 => h1.bind E1 fun y H2 c S2 k2 g2 E2 r2 h2 => by
    obtain ⟨e, hi, q⟩ := h2
    have r3 : Rep X.K (keys S2 ++ Zh) H2 d x := by
      rw [k2]
      exact E1.st.gr g2 r1
    have P2 := (P.next k1 g1).next k2 g2
    cases c with
    | int i =>
      cases d with
      | tup l =>
        obtain ⟨p, vs, rfl, sq, rl⟩ := r3.tup
        obtain ⟨v, hv, rv⟩ := rl.atI hi
        exact .inr (.inl ⟨p, vs, i, v, rfl, r2.int, sq, hv, P2.here E2.st rv q⟩)
      | lst l =>
        obtain ⟨p, vs, rfl, _, sq, rl⟩ := r3.lst
        obtain ⟨v, hv, rv⟩ := rl.atI hi
        exact .inl ⟨p, vs, i, v, rfl, r2.int, .inl (.inl sq), hv, P2.here E2.st rv q⟩
      | frz l =>
        obtain ⟨p, vs, rfl, sq, rl⟩ := r3.frzL
        obtain ⟨v, hv, rv⟩ := rl.atI hi
        exact .inl ⟨p, vs, i, v, rfl, r2.int, sq, hv, P2.here E2.st rv q⟩
      | cell p =>
        obtain ⟨l, m, hi⟩ := hi
        obtain ⟨vs, sq, rl⟩ := E2.st.st _ _ m
        obtain ⟨v, hv, rv⟩ := rl.atI hi
        exact .inl ⟨p, vs, i, v, r3.cell, r2.int, .inl (.inl sq), hv, P2.here E2.st rv q⟩
      | str z =>
        obtain ⟨hl, c, hc, rfl⟩ := hi
        exact .inr (.inr ⟨z, i, c, r3.str, r2.int, hl, hc, P2.here E2.st rep_str q⟩)
      | _ => exact (show False from hi).elim
    | _ => cases d <;> exact (show False from hi).elim
/-- slices -/
def cutD (xs : List D) (lo hi : Option Int) : List D := (xs.drop (HT.sIx xs.length 0 lo)).take (HT.sIx xs.length xs.length hi - HT.sIx xs.length 0 lo)
def SlD : D → Option Int → Option Int → D → Prop
  | .tup l, lo, hi, e => e = .tup (cutD l lo hi)
  | .lst l, lo, hi, e => e = .lst (cutD l lo hi)
  | .frz l, lo, hi, e => e = .lst (cutD l lo hi)
  | .str z, lo, hi, e => z.length ≤ sizeLine ∧ e = .str (cutS z lo hi)
  | _, _, _, _ => False
theorem RepL.drop {K : PySem.W.Frag} {Z : List Addr} {H : Hp} : ∀ {n : Nat} {l : List D} {vs : List V}, RepL K Z H l vs → RepL K Z H (l.drop n) (vs.drop n)
  | 0, _, _, h => h
  | n + 1, [], vs, h => by
    rw [h.un0]
    exact .nil
  | n + 1, d :: l, vs, h => by
    obtain ⟨v, r, rfl, _, h⟩ := h.uncons
    exact RepL.drop (n := n) h
theorem RepL.take {K : PySem.W.Frag} {Z : List Addr} {H : Hp} : ∀ {n : Nat} {l : List D} {vs : List V}, RepL K Z H l vs → RepL K Z H (l.take n) (vs.take n)
  | 0, _, _, h => .nil
  | n + 1, [], vs, h => by
    rw [h.un0]
    exact .nil
  | n + 1, d :: l, vs, h => by
    obtain ⟨v, r, rfl, h1, h⟩ := h.uncons
    exact .cons h1 (RepL.take (n := n) h)
theorem RepL.cut {K : PySem.W.Frag} {Z : List Addr} {H : Hp} {l : List D} {vs : List V} {lo hi : Option Int} (h : RepL K Z H l vs) : RepL K Z H (cutD l lo hi) (cutV vs lo hi) := by
  unfold cutD cutV
  rw [h.length]
  exact h.drop.take
theorem sl_any : SlR X (fun x lo hi H Q => rSlL X.K x lo hi H Q ∨ (rSlA X.K x lo hi H Q ∨ rSlS x lo hi H Q)) := sl_list.or (sl_tupA.or sl_str)
theorem cutD_all {l : List D} {lo hi : Option Int} (h : HT.sIx l.length 0 lo = 0 ∧ HT.sIx l.length l.length hi = l.length) : cutD l lo hi = l := by
  unfold cutD
  rw [h.1, h.2, List.drop_zero, Nat.sub_zero, List.take_length]
theorem slV_of {K : PySem.W.Frag} {Zh : List Addr} {H : Hp} {d e : D} {v : V} {lo hi : Option Int} {Q : VK} (s : Store K Zh H S) (r : Rep K (keys S ++ Zh) H d v) (h : SlD d lo hi e) (q : Φ e S) (P : Post K Zh H S Φ Q) : rSlL K v lo hi H Q ∨ (rSlA K v lo hi H Q ∨ rSlS v lo hi H Q) := by
  cases d with
  | tup l =>
    cases (show e = _ from h)
    obtain ⟨p, vs, rfl, sq, rl⟩ := r.tup
    refine .inr (.inl ⟨p, vs, rfl, sq, fun f => ?_, fun f z hz => P.tup s rl.cut q hz⟩)
    rw [rl.length] at f
    exact P.tupAt s (by rw [cutD_all f]; exact rl) q sq
  | lst l =>
    cases (show e = _ from h)
    obtain ⟨p, vs, rfl, _, sq, rl⟩ := r.lst
    exact .inl ⟨p, vs, rfl, .inl (.inl sq), fun z hz => P.lst s rl.cut q hz⟩
  | frz l =>
    cases (show e = _ from h)
    obtain ⟨p, vs, rfl, sq, rl⟩ := r.frzL
    exact .inl ⟨p, vs, rfl, sq, fun z hz => P.lst s rl.cut q hz⟩
  | str z =>
    obtain ⟨hl, rfl⟩ := h
    exact .inr (.inr ⟨z, r.str, hl, P.here s rep_str q⟩)
  | _ => exact (show False from h).elim
variable {lo hi : Expr} {p2 : Pos}
theorem de_slLo (h : DE X a ρ S fun d S1 => DE X lo ρ S1 fun l S2 => ∃ i e, l = .int i ∧ SlD d (some i) none e ∧ Φ e S2) : DE X (.Subscript a (.Slice (some lo) none none p2) pos) ρ S Φ :=
  DE.of (pe_slice sl_any pe_w (po_some pe_w) po_none) fun Zh σ H Q E P => h.bind E fun x H1 d S1 k1 g1 E1 r1 h1 => h1.bind E1 fun y H2 c S2 k2 g2 E2 r2 h2 => by
    obtain ⟨i, e, rfl, hs, q⟩ := h2
    exact ⟨i, r2.int, slV_of E2.st (by rw [k2]; exact E1.st.gr g2 r1) hs q ((P.next k1 g1).next k2 g2)⟩
theorem de_slHi (h : DE X a ρ S fun d S1 => DE X hi ρ S1 fun l S2 => ∃ i e, l = .int i ∧ SlD d none (some i) e ∧ Φ e S2) : DE X (.Subscript a (.Slice none (some hi) none p2) pos) ρ S Φ :=
  DE.of (pe_slice sl_any pe_w po_none (po_some pe_w)) fun Zh σ H Q E P => h.bind E fun x H1 d S1 k1 g1 E1 r1 h1 => h1.bind E1 fun y H2 c S2 k2 g2 E2 r2 h2 => by
    obtain ⟨i, e, rfl, hs, q⟩ := h2
    exact ⟨i, r2.int, slV_of E2.st (by rw [k2]; exact E1.st.gr g2 r1) hs q ((P.next k1 g1).next k2 g2)⟩
theorem de_slLH (h : DE X a ρ S fun d S1 => DE X lo ρ S1 fun l S2 => ∃ i, l = .int i ∧ DE X hi ρ S2 fun u S3 => ∃ j e, u = .int j ∧ SlD d (some i) (some j) e ∧ Φ e S3) : DE X (.Subscript a (.Slice (some lo) (some hi) none p2) pos) ρ S Φ :=
  DE.of (pe_slice sl_any pe_w (po_some pe_w) (po_some pe_w)) fun Zh σ H Q E P => h.bind E fun x H1 d S1 k1 g1 E1 r1 h1 => h1.bind E1 fun y H2 c S2 k2 g2 E2 r2 h2 => by
    obtain ⟨i, rfl, h3⟩ := h2
    refine ⟨i, r2.int, h3.bind E2 fun z H3 u S3 k3 g3 E3 r3 h4 => ?_⟩
    obtain ⟨j, e, rfl, hs, q⟩ := h4
    refine ⟨j, r3.int, slV_of E3.st ?_ hs q (((P.next k1 g1).next k2 g2).next k3 g3)⟩
    rw [k3]
    refine E2.st.gr g3 ?_
    rw [k2]
    exact E1.st.gr g2 r1
end
end Ar
namespace Ar
open PySem PySem.Spec PyProof.Rows L2
/-! ### cells -/
theorem keys_wr {A B : Sto} {p : Addr} {l l' : List D} : keys (A ++ (p, l') :: B) = keys (A ++ (p, l) :: B) := by
  unfold keys
  rw [List.map_append, List.map_append]
  rfl
theorem keys_at {A B : Sto} {p : Addr} {l : List D} : p ∈ keys (A ++ (p, l) :: B) := by
  rw [keys_append]
  exact List.mem_append_right _ List.mem_cons_self
theorem grow_wr {A B : Sto} {H : Hp} {p : Addr} {l : List D} {o : HO} : Grow (keys (A ++ (p, l) :: B)) H (upd H p o) := fun b x n h => by
  rw [upd_ne]
  · exact h
  · intro e
    subst e
    exact n keys_at
theorem Store.wr {K : PySem.W.Frag} {Zh : List Addr} {H : Hp} {A B : Sto} {p : Addr} {l l' : List D} {vs' : List V} (s : Store K Zh H (A ++ (p, l) :: B)) (r : RepL K (keys (A ++ (p, l) :: B) ++ Zh) H l' vs') : Store K Zh (upd H p (.lst vs')) (A ++ (p, l') :: B) := by
  have nd := s.nd
  rw [keys_append, List.nodup_append] at nd
  have gr : ∀ {m : List D} {ws : List V}, RepL K (keys (A ++ (p, l) :: B) ++ Zh) H m ws → RepL K (keys (A ++ (p, l') :: B) ++ Zh) (upd H p (.lst vs')) m ws := fun h => by
    rw [keys_wr (l := l)]
    exact s.grL grow_wr h
  have old : ∀ q m, (q, m) ∈ A ++ (p, l) :: B → q ≠ p → ∃ vs, upd H p (.lst vs') q = some (.lst vs) ∧ RepL K (keys (A ++ (p, l') :: B) ++ Zh) (upd H p (.lst vs')) m vs := fun q m hm hq => by
    obtain ⟨vs, h1, h2⟩ := s.st q m hm
    exact ⟨vs, by rw [upd_ne hq]; exact h1, gr h2⟩
  refine ⟨by rw [keys_wr (l := l)]; exact s.nd, fun q m hm => ?_, fun q hq => ?_⟩
  · rcases List.mem_append.mp hm with h | h
    · refine old q m (List.mem_append_left _ h) fun e => ?_
      subst e
      exact nd.2.2 q (List.mem_map.mpr ⟨_, h, rfl⟩) q List.mem_cons_self rfl
    · rcases List.mem_cons.mp h with h9 | h9
      · cases h9
        exact ⟨vs', upd_same, gr r⟩
      · refine old q m (List.mem_append_right _ (List.mem_cons_of_mem _ h9)) fun e => ?_
        subst e
        have nc : q ∉ keys B ∧ (keys B).Nodup := List.nodup_cons.mp nd.2.1
        exact nc.1 (List.mem_map.mpr ⟨(q, m), h9, rfl⟩)
  · obtain ⟨n, vs, e⟩ := s.hid q hq
    refine ⟨by rw [keys_wr (l := l)]; exact n, vs, ?_⟩
    rw [upd_ne]
    · exact e
    · intro e2
      subst e2
      exact n keys_at
theorem RepL.set {K : PySem.W.Frag} {Z : List Addr} {H : Hp} : ∀ {j : Nat} {l : List D} {vs : List V} {d : D} {v : V}, RepL K Z H l vs → Rep K Z H d v → RepL K Z H (l.set j d) (vs.set j v)
  | _, [], vs, d, v, h, r => by
    rw [h.un0]
    exact .nil
  | 0, c :: l, vs, d, v, h, r => by
    obtain ⟨u, t, rfl, _, h⟩ := h.uncons
    exact .cons r h
  | j + 1, c :: l, vs, d, v, h, r => by
    obtain ⟨u, t, rfl, h1, h⟩ := h.uncons
    exact .cons h1 (RepL.set (j := j) h r)
/-- the same state, the list at p written anew -/
theorem Post.wr {K : PySem.W.Frag} {Zh : List Addr} {H : Hp} {A B : Sto} {p : Addr} {l l' : List D} {vs' : List V} {Φ : D → Sto → Prop} {Q : VK} (P : Post K Zh H (A ++ (p, l) :: B) Φ Q) (s : Store K Zh H (A ++ (p, l) :: B)) (r : RepL K (keys (A ++ (p, l) :: B) ++ Zh) H l' vs') (q : Φ .non (A ++ (p, l') :: B)) : Q .non (upd H p (.lst vs')) :=
  P _ _ .non _ keys_wr grow_wr (s.wr r) rep_non q
section
variable {X : Cx} {ρ : Ro} {S : Sto} {Φ : D → Sto → Prop} {P : Program} {w : World} {K : PySem.W.Frag} {mg : Str → Option Value} {base : Heap} {tb : List (Str × Nat)} {names : List (Str × NameKind)} {k : Nat} {pos p cpos apos tpos : Pos} {e o i : Expr} {es : List Expr} {E : DEnds}
/-! ### new lists -/
def PostN (K : PySem.W.Frag) (Zh : List Addr) (H : Hp) (S : Sto) (Φ : List D → Sto → Prop) (Q : VK) : Prop :=
  ∀ c vs H' l S', keys S' = keys S → Grow (keys S) H H' → Store K ([c] ++ Zh) H' S' → H c = none → H' c = some (.lst vs) → RepL K (keys S ++ ([c] ++ Zh)) H' l vs → Φ l S' → Q (.ref c) H'
def DN (X : Cx) (e : Expr) (ρ : Ro) (S : Sto) (Φ : List D → Sto → Prop) : Prop :=
  ∀ (Zh : List Addr) (pins : List (Addr × Obj)) (s : Shared) (σ : L2.St) (H : Hp) (Q : VK), Inv X pins σ H s → Ev X.K Zh H σ ρ S → PostN X.K Zh H S Φ Q → wpAny (model X.prog X.w) X.A (eval e X.env) (EP X pins σ Q) X.xe s
theorem DN.of {t : TE} {Φ : List D → Sto → Prop} (p : PE X e t) (h : ∀ Zh σ H Q, Ev X.K Zh H σ ρ S → PostN X.K Zh H S Φ Q → t σ H Q) : DN X e ρ S Φ := fun Zh pins s σ H Q I E q => p.run pins s σ H Q I (h Zh σ H Q E q)
theorem DN.tw {Φ : List D → Sto → Prop} {Zh : List Addr} {σ : L2.St} {H : Hp} {Q : VK} (h : DN X e ρ S Φ) (E : Ev X.K Zh H σ ρ S) (q : PostN X.K Zh H S Φ Q) : tW X e σ H Q := fun pins s I => h Zh pins s σ H Q I E q
theorem back_none {K : PySem.W.Frag} {Zh : List Addr} {H H1 : Hp} {c : Addr} (s : Store K Zh H S) (g : Grow (keys S) H H1) {S1 : Sto} (k : keys S1 = keys S) (s1 : Store K Zh H1 S1) (h : H1 c = none) : H c = none := by
  cases e : H c with
  | none => rfl
  | some x =>
    by_cases hm : c ∈ keys S
    · rw [← k] at hm
      obtain ⟨vs, e2⟩ := s1.zl c hm
      rw [h] at e2
      cases e2
    · rw [g _ _ hm e] at h
      cases h
theorem PostN.next {K : PySem.W.Frag} {Zh : List Addr} {H H1 : Hp} {S1 : Sto} {Φ : List D → Sto → Prop} {Q : VK} (P : PostN K Zh H S Φ Q) (s : Store K Zh H S) (k : keys S1 = keys S) (g : Grow (keys S) H H1) (s1 : Store K Zh H1 S1) : PostN K Zh H1 S1 Φ Q := fun c vs H' l S' k' g' s' hc h' r q =>
  P c vs H' l S' (k'.trans k) (g.trans (by rw [← k]; exact g')) s' (back_none s g k s1 hc) h' (by rw [← k]; exact r) q
theorem PostN.lst {K : PySem.W.Frag} {Zh : List Addr} {H : Hp} {Φ : List D → Sto → Prop} {Q : VK} {l : List D} {vs : List V} {c : Addr} (P : PostN K Zh H S Φ Q) (s : Store K Zh H S) (r : RepL K (keys S ++ Zh) H l vs) (q : Φ l S) (hc : H c = none) : Q (.ref c) (upd H c (.lst vs)) :=
  P c vs _ l S rfl (Grow.new hc) (s.hide hc) hc upd_same (RepL.grow s.zl (Grow.new hc) sub_l (RepL.fresh (Zx := [c]) (fun p hp => by
    rw [List.mem_singleton.mp hp]
    exact hc) r)) q
theorem dn_lst {Φ : List D → Sto → Prop} (hl : Nat.ble es.length 1000 = true) (h : DA X es ρ S fun ds S1 => Φ ds S1) : DN X (.List es pos) ρ S Φ :=
  DN.of (pe_lst pa_w) fun Zh σ H Q E P => h.tw E fun vs H1 ds S1 k1 g1 s1 r1 l1 q1 => ⟨by rw [r1.length, l1]; exact sz hl, fun c hc => (P.next E.st k1 g1 s1).lst s1 (by rw [k1]; exact r1) q1 hc⟩
theorem dn_listOf {Φ : List D → Sto → Prop} (A : At X P w K mg base tb names k) (G : NoB mg) (hg : glB names "list" = true) (he : starEach [e] X.env = [(false, eval e X.env)]) (h : DE X e ρ S fun d S1 => ∃ l, SeqD S1 d l ∧ Φ l S1) : DN X (.Call (.Name "list" p) [e] [] pos) ρ S Φ := by
  have z := glB_of hg
  exact DN.of (pe_callTy call_list_of (A.gl _ z.2) (by rw [A.mg]; exact G.no _ rfl) rfl pa_w (plain1 z.1).2.2 (plain1 z.1).1 he rfl) fun Zh σ H Q E P => (da_one (Ψ := fun ds S1 => ∃ d l, ds = [d] ∧ SeqD S1 d l ∧ Φ l S1) he (DE.mono h fun d S1 ⟨l, a, b⟩ => ⟨d, l, rfl, a, b⟩)).tw E fun vs H1 ds S1 k1 g1 s1 r1 l1 q1 => by
    obtain ⟨d, l, rfl, hs, q⟩ := q1
    obtain ⟨v, t, rfl, rv, t0⟩ := r1.uncons
    cases t0.un0
    obtain ⟨p, ws, rfl, sq, rl⟩ := seqV_of s1 (by rw [k1]; exact rv) hs
    exact ⟨p, ws, rfl, sq, fun c hc => (P.next E.st k1 g1 s1).lst s1 rl q hc⟩
theorem dn_or1 {op} {Φ : List D → Sto → Prop} (h : DN X e ρ S Φ) : DN X (.BoolOp op [e] pos) ρ S Φ := DN.of (pe_one pe_w) fun Zh σ H Q E P => h.tw E P
theorem dn_or {b : Expr} {rest : List Expr} {Φ : List D → Sto → Prop} (h : DN X e ρ S fun l S1 => if (!l.isEmpty) = true then Φ l S1 else DN X (.BoolOp .Or (b :: rest) pos) ρ S1 Φ) : DN X (.BoolOp .Or (e :: b :: rest) pos) ρ S Φ := DN.of (pe_orT pe_w pe_w) fun Zh σ H Q E P => h.tw E fun c vs H1 l S1 k1 g1 s1 hc h1 r1 q => by
  refine ⟨!l.isEmpty, .inl ⟨vs, .inl (.inl h1), by rw [r1.isEmpty]⟩, ?_⟩
  have E1 := E.next k1 g1 s1.narrow
  replace q : if (!l.isEmpty) = true then Φ l S1 else DN X (.BoolOp .Or (b :: rest) pos) ρ S1 Φ := q
  cases hl : l.isEmpty with
  | true =>
    rw [hl] at q
    exact DN.tw q E1 (P.next E.st k1 g1 s1.narrow)
  | false =>
    rw [hl] at q
    exact P c vs H1 l S1 k1 g1 s1 hc h1 r1 q
/-- a def that tells a new list -/
abbrev SpecN := List D → Sto → (List D → Sto → Prop) → Prop
def spOfN (K : PySem.W.Frag) (n : Nat) (B : SpecN) : Sp := fun vs H Q _ => vs.length = n ∧ ∃ Zh ds S Φ, Store K Zh H S ∧ RepL K (keys S ++ Zh) H ds vs ∧ B ds S Φ ∧ PostN K Zh H S Φ Q
structure FnN (P : Program) (w : World) (K : PySem.W.Frag) (mg : Str → Option Value) (base : Heap) (x : Str) (n k : Nat) (B : SpecN) : Prop where
  ex : ∃ f fd ps, FnOk P w K mg base CX0 k f fd ps (spOfN K n B) ∧ mg x = some (.ref f) ∧ PySem.W.keepIn K (.ref f) = true ∧ Binds K fd ps [] ∧ ps.length = n ∧ FdAt K f fd
theorem dn_call {x : Str} {n j : Nat} {B : SpecN} {Φ : List D → Sto → Prop} (A : At X P w K mg base tb names k) (F : FnN P w K mg base x n j B) (hc : (Nat.ble j k && Nat.beq (e :: es).length n && glB names x) = true)
    (he : starEach (e :: es) X.env = (false, eval e X.env) :: starEach es X.env) (hpl : (backTo pos (starEach es X.env)).any (·.1) = false)
    (h : DA X (e :: es) ρ S fun ds S1 => B ds S1 Φ) : DN X (.Call (.Name x p) (e :: es) [] pos) ρ S Φ := by
  rw [Bool.and_eq_true, Bool.and_eq_true] at hc
  obtain ⟨⟨hj, hn⟩, hg⟩ := hc
  obtain ⟨f, fd, ps, F, m, kp, b, _⟩ := F.ex
  cases A.prog
  cases A.w
  cases A.K
  cases A.mg
  cases A.base
  exact DN.of (pe_call F (A.room.mono (Nat.le_of_ble_eq_true hj)) (A.gl _ (glB_of hg).2) m kp b .nil pass0 pa_w (plain1 (glB_of hg).1).1 he hpl) fun Zh σ H Q E P => h.tw E fun vs H1 ds S1 k1 g1 s1 r1 l1 q1 => by
    refine ⟨?_, Zh, ds, S1, Φ, s1, by rw [k1, List.append_nil]; exact r1, q1, P.next E.st k1 g1 s1⟩
    rw [List.append_nil, r1.length, l1]
    exact Nat.eq_of_beq_eq_true hn
/-- x = a new list, a cell from here on -/
theorem Ev.cell {Zh : List Addr} {H H' : Hp} {σ : L2.St} {S' : Sto} {c : Addr} {l : List D} {vs : List V} (E : Ev K Zh H σ ρ S) (k1 : keys S' = keys S) (g : Grow (keys S) H H') (s1 : Store K ([c] ++ Zh) H' S') (hc : H c = none) (h1 : H' c = some (.lst vs)) (r : RepL K (keys S ++ ([c] ++ Zh)) H' l vs) :
    Ev K Zh H' σ ρ (S' ++ [(c, l)]) ∧ Step S H (S' ++ [(c, l)]) H' := by
  have kk : keys (S' ++ [(c, l)]) = keys S ++ [c] := by rw [keys_append, k1]; rfl
  have ks : keys (S' ++ [(c, l)]) ++ Zh = keys S ++ ([c] ++ Zh) := by rw [kk, List.append_assoc]
  have hcn : c ∉ keys S' := (s1.hid c (List.mem_append_left _ (List.mem_singleton.mpr rfl))).1
  refine ⟨⟨⟨?_, fun p m hm => ?_, fun p hp => ?_⟩, E.len, fun i d h => ?_⟩, g, fun p hm => ?_⟩
  · rw [kk, ← k1, List.nodup_append]
    refine ⟨s1.nd, List.nodup_cons.mpr ⟨List.not_mem_nil, List.nodup_nil⟩, fun a ha b hb e => ?_⟩
    rw [e, List.mem_singleton.mp hb] at ha
    exact hcn ha
  · rw [ks]
    rcases List.mem_append.mp hm with hm | hm
    · obtain ⟨ws, a, b⟩ := s1.st p m hm
      rw [k1] at b
      exact ⟨ws, a, b⟩
    · cases List.mem_singleton.mp hm
      exact ⟨vs, h1, r⟩
  · obtain ⟨n, ws, e⟩ := s1.hid p (List.mem_append_right _ hp)
    refine ⟨fun m => ?_, ws, e⟩
    rw [kk, ← k1] at m
    rcases List.mem_append.mp m with m | m
    · exact n m
    · obtain ⟨_, us, e2⟩ := E.st.hid p hp
      rw [List.mem_singleton.mp m, hc] at e2
      cases e2
  · obtain ⟨v, e, rv⟩ := E.var i d h
    refine ⟨v, e, ?_⟩
    rw [ks]
    exact Rep.grow E.st.zl g sub_l (Rep.fresh (Zx := [c]) (fun p hp => by
      rw [List.mem_singleton.mp hp]
      exact hc) rv)
  · rw [kk] at hm
    rcases List.mem_append.mp hm with m | m
    · exact .inl m
    · rw [List.mem_singleton.mp m]
      exact .inr hc
theorem ds_setCell {x : Str} (A : At X P w K mg base tb names k) (hs : swapsWith e (some (.Name x p)) pos.line X.env = pure false)
    (h : ∃ i, tb.lookup x = some i ∧ stB (names.lookup x) = true ∧ DN X e ρ S fun l S1 => ∀ c, Nx E (ρ.set i (some (.cell c))) (S1 ++ [(c, l)])) : DS X (.Assign [.Name x p] e pos) ρ S E := by
  obtain ⟨i, hi, hv, h⟩ := h
  exact DS.of (ps_set A.nd (A.slot _ _ hi) (A.sto _ hv).1 pe_w hs (A.sto _ hv).2) fun Zh σ H Dn ev k => h.tw ev fun c vs H' l S' k' g s' hc h' r q => by
    obtain ⟨ev1, st1⟩ := ev.cell k' g s' hc h' r
    exact k.nx _ _ _ _ st1 (ev1.put (by unfold Rep; rfl)) (q c)
theorem ds_retCell (h : DN X e ρ S fun l S1 => ∀ c, E.rt (.cell c) (S1 ++ [(c, l)])) : DS X (.Return (some e) pos) ρ S E := DS.of (ps_ret pe_w) fun Zh σ H Dn ev k => h.tw ev fun c vs H' l S' k' g s' hc h' r q => by
  obtain ⟨ev1, st1⟩ := ev.cell k' g s' hc h' r
  exact k.rt _ _ _ _ st1 ev1.st (by unfold Rep; rfl) (q c)
/-- the end of a def that tells a new list -/
inductive RetC (S0 : Sto) (Φ : List D → Sto → Prop) : D → Sto → Prop where
  | cell {p : Addr} {l : List D} {S2 R : Sto} (h : keys S2 = keys S0) (m : (p, l) ∈ R) (q : Φ l S2) : RetC S0 Φ (.cell p) (S2 ++ R)
theorem fnN_data {f : Addr} {fd : FuncData} {x qual : Str} {st : Stmt} {N ps : List Str} {n : Nat} {B : SpecN} (F : Fun K x qual st f fd) (Sc : FnScope N ps (defScope st)) (hn : ps.length = n) (hnm : (defScope st).names = names) (ht : tbOk N tb = true)
    (hm : mg x = some (.ref f)) (hb : Binds K fd ps [])
    (body : ∀ X, At X P w K mg base tb names k → ∀ ds S Φ, ds.length = n → B ds S Φ → DSs X (defBody st) (ds.map some ++ List.replicate (N.length - ds.length) none) S { nx := fun _ _ => False, rt := RetC S Φ }) : FnN P w K mg base x n (k + 1) B := by
  refine ⟨f, fd, ps, F.ok Sc (fun vs H Q E h => by rw [h.1, hn]) (fun cdv A outer s H vs Q E hr h => ?_), hm, F.kp, hb, hn, .of F⟩
  obtain ⟨hl, Zh, ds, S, Φ, hS, hR, hB, hP⟩ := h
  have hat := at_def (P := P) (w := w) (K := K) (mg := mg) (base := base) (qual := qual) (f := f) (cd := cdv) (A := A) (outer := outer) (s := s) (H := H) (E := E) (tbOk_of ht) (tbOk_cov ht) Sc hr
  rw [hnm] at hat
  have b := body _ hat ds S Φ (by rw [← hR.length]; exact hl) hB
  refine ⟨_, pss_w, b.tw (ev_start hS hR) ?_⟩
  refine ⟨fun σ' H' ρ' S' t ev q => q.elim, fun v H' d S' t s' r q => ?_, fun _ _ _ _ _ _ q => q.elim, fun _ _ _ _ _ _ q => q.elim⟩
  cases q with
  | cell h m q =>
    rename_i p l S2 R
    obtain ⟨vs, h1, h2⟩ := s'.st p l (List.mem_append_right _ m)
    rw [r.cell]
    have pk : p ∈ keys (S2 ++ R) := by
      rw [keys_append]
      exact List.mem_append_right _ (List.mem_map.mpr ⟨_, m, rfl⟩)
    have nd := s'.nd
    rw [keys_append, List.nodup_append] at nd
    have pn : p ∉ keys S2 := fun z => nd.2.2 p z p (List.mem_map.mpr ⟨_, m, rfl⟩) rfl
    have hpn : H p = none := (t.2 p pk).resolve_left (by rw [← h]; exact pn)
    have sub : ∀ q, q ∈ keys S2 ++ ([p] ++ Zh) → q ∈ keys (S2 ++ R) ++ Zh := fun q hq => by
      rcases List.mem_append.mp hq with z | z
      · exact List.mem_append_left _ (by rw [keys_append]; exact List.mem_append_left _ z)
      · rcases List.mem_append.mp z with z | z
        · rw [List.mem_singleton.mp z]
          exact List.mem_append_left _ pk
        · exact List.mem_append_right _ z
    refine hP p vs H' l S2 h t.1 ⟨s'.drop.nd, fun q m hm => ?_, fun q hq => ?_⟩ hpn h1 (by rw [← h]; exact h2.shrink sub) q
    · obtain ⟨ws, a, b⟩ := s'.st q m (List.mem_append_left _ hm)
      exact ⟨ws, a, b.shrink sub⟩
    · rcases List.mem_append.mp hq with z | z
      · rw [List.mem_singleton.mp z]
        exact ⟨pn, vs, h1⟩
      · exact s'.drop.hid q z
/-! ### writes -/
theorem ds_store (hs : swapsWithSole [.Subscript o i tpos] e pos.line X.env = pure false) (hw : swappedStores [.Subscript o i tpos] e X.env = pure none) (h1 : (assignEach [.Subscript o i tpos] X.env).map (·.2) = [assign (.Subscript o i tpos) X.env])
    (ha : ∀ v, assign (.Subscript o i tpos) X.env v = (do
      let ov ← holding [v] (eval o X.env)
      let iv ← holding [v, ov] (eval i X.env)
      standAt tpos
      holding [v, ov, iv] (setItem ov iv v)
      release [v, ov, iv] []))
    (h : DE X e ρ S fun d S1 => DE X o ρ S1 fun c S2 => DE X i ρ S2 fun j S3 => ∃ p A l B n m, c = .cell p ∧ S3 = A ++ (p, l) :: B ∧ j = .int n ∧ ixN l.length n = some m ∧ E.nx ρ (A ++ (p, l.set m d) :: B)) : DS X (.Assign [.Subscript o i tpos] e pos) ρ S E :=
  DS.of (ps_asg pe_w (pg_sub pe_w pe_w set_list ha) hs hw h1) fun Zh σ H Dn ev kk => h.bind ev fun v H1 d S1 k1 g1 E1 r1 h2 => h2.bind E1 fun ov H2 c S2 k2 g2 E2 r2 h3 => h3.bind E2 fun iv H3 j S3 k3 g3 E3 r3 h4 => by
    obtain ⟨p, A, l, B, n, m, rfl, rfl, rfl, hm, q⟩ := h4
    obtain ⟨vs, hp, rl⟩ := E3.st.st p l (List.mem_append_right _ List.mem_cons_self)
    refine ⟨p, vs, n, m, r2.cell, r3.int, hp, by rw [rl.length]; exact hm, ?_⟩
    have rd : Rep X.K (keys (A ++ (p, l) :: B) ++ Zh) H3 d v := by
      rw [k3]
      refine E2.st.gr g3 ?_
      rw [k2]
      exact E1.st.gr g2 r1
    have s4 := E3.st.wr (rl.set (j := m) rd)
    have ev4 := E3.next (S' := A ++ (p, l.set m d) :: B) keys_wr grow_wr s4
    exact kk.nx _ _ _ _ ((((Step.of k1 g1).trans (.of k2 g2)).trans (.of k3 g3)).trans (.of keys_wr grow_wr)) ev4 q
theorem tyV_cell {Zh : List Addr} {H : Hp} {A B : Sto} {p : Addr} {l : List D} (s : Store K Zh H (A ++ (p, l) :: B)) : tyV K "list" (.ref p) H := by
  obtain ⟨vs, hp, rl⟩ := s.st p l (List.mem_append_right _ List.mem_cons_self)
  exact .inl ⟨rfl, vs, .inl (.inl hp)⟩
theorem de_append (hbase : attributeBase o "append" X.env (eval o X.env) = eval o X.env)
    (hfew : ((backTo cpos (starEach [e] X.env)).all (fun x => !x.1) && (backToKw cpos (keywordEach [] X.env)).all (fun x => x.1.isSome)
      && decide (([e] : List Expr).length + ([] : List Keyword).length + (if ([] : List Keyword).isEmpty then 0 else 1) < 30)) = true)
    (hline : (apos.endLine == cpos.line) = true) (he : starEach [e] X.env = [(false, eval e X.env)])
    (h : DE X o ρ S fun c S1 => ∃ p A l B, c = .cell p ∧ S1 = A ++ (p, l) :: B ∧ DE X e ρ S1 fun d S2 => ∃ A' l' B', S2 = A' ++ (p, l') :: B' ∧ l'.length < sizeLine ∧ Φ .non (A' ++ (p, l' ++ [d]) :: B')) : DE X (.Call (.Attribute o "append" apos) [e] [] cpos) ρ S Φ :=
  DE.of (pe_bm PySem.F.plainAttrs_list PySem.F.slot_list_append PySem.F.type_list_append mt_append pe_w pa_w hbase hfew hline he rfl) fun Zh σ H Q ev P => h.bind ev fun v H1 c S1 k1 g1 E1 r1 h2 => by
    obtain ⟨p, A, l, B, rfl, rfl, h2⟩ := h2
    have hv := r1.cell
    subst hv
    refine ⟨tyV_cell E1.st, (da_one (Ψ := fun ds S2 => ∃ d, ds = [d] ∧ ∃ A' l' B', S2 = A' ++ (p, l') :: B' ∧ l'.length < sizeLine ∧ Φ .non (A' ++ (p, l' ++ [d]) :: B')) he (DE.mono h2 fun d S2 q => ⟨d, rfl, q⟩)).tw E1 fun vs H2 ds S2 k2 g2 s2 r2 l2 q2 => ?_⟩
    obtain ⟨d, rfl, A', l', B', rfl, hz, q⟩ := q2
    obtain ⟨v, t, rfl, rv, t0⟩ := r2.uncons
    cases t0.un0
    obtain ⟨ws, hp, rl⟩ := s2.st p l' (List.mem_append_right _ List.mem_cons_self)
    refine ⟨p, ws, v, rfl, rfl, hp, by rw [rl.length]; exact hz, ?_⟩
    exact ((P.next k1 g1).next k2 g2).wr s2 (rl.append (.one (by rw [k2]; exact rv))) q
theorem de_extend (hbase : attributeBase o "extend" X.env (eval o X.env) = eval o X.env)
    (hfew : ((backTo cpos (starEach [e] X.env)).all (fun x => !x.1) && (backToKw cpos (keywordEach [] X.env)).all (fun x => x.1.isSome)
      && decide (([e] : List Expr).length + ([] : List Keyword).length + (if ([] : List Keyword).isEmpty then 0 else 1) < 30)) = true)
    (hline : (apos.endLine == cpos.line) = true) (he : starEach [e] X.env = [(false, eval e X.env)])
    (h : DE X o ρ S fun c S1 => ∃ p A l B, c = .cell p ∧ S1 = A ++ (p, l) :: B ∧ DE X e ρ S1 fun d S2 => ∃ A' l' B' m, d = .lst m ∧ S2 = A' ++ (p, l') :: B' ∧ l'.length + m.length ≤ sizeLine ∧ Φ .non (A' ++ (p, l' ++ m) :: B')) : DE X (.Call (.Attribute o "extend" apos) [e] [] cpos) ρ S Φ :=
  DE.of (pe_bm PySem.F.plainAttrs_list PySem.F.slot_list_extend PySem.F.type_list_extend mt_extend pe_w pa_w hbase hfew hline he rfl) fun Zh σ H Q ev P => h.bind ev fun v H1 c S1 k1 g1 E1 r1 h2 => by
    obtain ⟨p, A, l, B, rfl, rfl, h2⟩ := h2
    have hv := r1.cell
    subst hv
    refine ⟨tyV_cell E1.st, (da_one (Ψ := fun ds S2 => ∃ d, ds = [d] ∧ ∃ A' l' B' m, d = .lst m ∧ S2 = A' ++ (p, l') :: B' ∧ l'.length + m.length ≤ sizeLine ∧ Φ .non (A' ++ (p, l' ++ m) :: B')) he (DE.mono h2 fun d S2 q => ⟨d, rfl, q⟩)).tw E1 fun vs H2 ds S2 k2 g2 s2 r2 l2 q2 => ?_⟩
    obtain ⟨d, rfl, A', l', B', m, rfl, rfl, hz, q⟩ := q2
    obtain ⟨v, t, rfl, rv, t0⟩ := r2.uncons
    cases t0.un0
    obtain ⟨b, zs, rfl, _, hb, rz⟩ := rv.lst
    obtain ⟨ws, hp, rl⟩ := s2.st p l' (List.mem_append_right _ List.mem_cons_self)
    refine ⟨p, b, ws, zs, rfl, rfl, hp, hb, by rw [rl.length, rz.length]; exact hz, ?_⟩
    exact ((P.next k1 g1).next k2 g2).wr s2 (rl.append (by rw [k2]; exact rz)) q
theorem ds_aug {x : Str} {op : Operator} (A : At X P w K mg base tb names k)
    (h : ∃ i d, tb.lookup x = some i ∧ stB (names.lookup x) = true ∧ ρ[i]? = some (some d) ∧ DE X e ρ S fun c S1 => DO X (inplaceOp op) d c S1 fun r S2 => Nx E (ρ.set i (some r)) S2) : DS X (.AugAssign (.Name x p) op e pos) ρ S E := by
  obtain ⟨i, d, hi, hv, hd, h⟩ := h
  exact DS.of (ps_aug (ti := rW X (inplaceOp op)) A.nd (A.slot _ _ hi) (A.sto _ hv).1 pe_w op_w (A.sto _ hv).2) fun Zh σ H Dn ev kk => by
    obtain ⟨v, e1, rv⟩ := ev.var i d hd
    refine ⟨v, e1, h.bind ev fun u H1 c S1 k1 g1 E1 r1 h1 => ?_⟩
    refine h1.rw E1.st (by rw [k1]; exact ev.st.gr g1 rv) r1 fun v2 H2 d2 S2 k2 g2 s2 r2 q => ?_
    exact kk.nx _ _ _ _ ((Step.of k1 g1).trans (.of k2 g2)) ((E1.next k2 g2 s2).put (by rw [k2]; exact r2)) q
variable {a b : Int}
theorem do_iadd (q : Φ (.int (a + b)) S) : DO X (inplaceOp .Add) (.int a) (.int b) S Φ := do_i0 iop_add q
theorem do_isub (q : Φ (.int (a - b)) S) : DO X (inplaceOp .Sub) (.int a) (.int b) S Φ := do_i0 iop_sub q
end
end Ar
namespace Ar
open PySem PySem.Spec PyProof.Rows L2
/-! ### sizes of ints -/
structure Bd (n : Nat) (x : Int) : Prop where
  lt : x.natAbs < 2 ^ n
theorem Bd.mono {n m : Nat} {x : Int} (h : Bd n x) (k : n ≤ m) : Bd m x := ⟨Nat.lt_of_lt_of_le h.lt (Nat.pow_le_pow_right (by decide) k)⟩
theorem Bd.fit {n m : Nat} {x : Int} (h : Bd n x) (k : Nat.ble n m = true) : Bd m x := h.mono (Nat.le_of_ble_eq_true k)
theorem Bd.add {n m : Nat} {x y : Int} (h : Bd n x) (k : Bd m y) : Bd (max n m + 1) (x + y) := by
  have h1 := (h.mono (Nat.le_max_left n m)).lt
  have k1 := (k.mono (Nat.le_max_right n m)).lt
  constructor
  rw [Nat.pow_succ]
  omega
theorem Bd.neg {n : Nat} {x : Int} (h : Bd n x) : Bd n (-x) := ⟨by
  have := h.lt
  omega⟩
theorem Bd.sub {n m : Nat} {x y : Int} (h : Bd n x) (k : Bd m y) : Bd (max n m + 1) (x - y) := by
  rw [Int.sub_eq_add_neg]
  exact h.add k.neg
theorem Bd.mul {n m : Nat} {x y : Int} (h : Bd n x) (k : Bd m y) : Bd (n + m) (x * y) := by
  constructor
  rw [Int.natAbs_mul, Nat.pow_add]
  exact Nat.mul_lt_mul'' h.lt k.lt
theorem Bd.ediv {n : Nat} {x y : Int} (h : Bd n x) : Bd (n + 1) (x / y) := by
  constructor
  have := Int.natAbs_ediv_le_natAbs x y
  have := h.lt
  rw [Nat.pow_succ]
  omega
theorem Bd.pos {n : Nat} {x : Int} (h0 : 0 ≤ x) (h : x < 2 ^ n) : Bd n x := by
  constructor
  have e : ((2 : Int) ^ n) = ((2 ^ n : Nat) : Int) := by
    rw [Int.natCast_pow]
    rfl
  rw [e] at h
  omega
theorem Bd.le {n : Nat} {x y : Int} (h0 : 0 ≤ x) (h : x ≤ y) (k : Bd n y) : Bd n x := ⟨by
  have := k.lt
  omega⟩
theorem Bd.lt2 {n : Nat} {x y : Int} (h0 : 0 ≤ x) (h : x < y) (k : Bd n y) : Bd n x := ⟨by
  have := k.lt
  omega⟩
theorem Bd.abs {n : Nat} {x y : Int} (h : x.natAbs ≤ y.natAbs) (k : Bd n y) : Bd n x := ⟨Nat.lt_of_le_of_lt h k.lt⟩
theorem Bd.lit {n : Nat} {x : Int} (h : Nat.blt x.natAbs (2 ^ n) = true) : Bd n x := by
  constructor
  have z : Nat.ble (x.natAbs + 1) (2 ^ n) = true := h
  exact Nat.le_of_ble_eq_true z
theorem intBits_le {n : Nat} {x : Int} (h : Bd n x) : Builtin.Int.intBits x ≤ n := by
  unfold Builtin.Int.intBits
  split
  · exact Nat.zero_le _
  · rename_i h0
    have hp : x.natAbs ≠ 0 := by
      intro e
      exact h0 (by simpa using e)
    have := (Nat.log2_lt hp).mpr h.lt
    omega
theorem Bd.ok {n m : Nat} {x y : Int} (h : Bd n x) (k : Bd m y) (hn : Nat.ble (n + m) 134217000 = true) : IntMulOk x y := by
  have h1 := intBits_le h
  have h2 := intBits_le k
  have hn := Nat.le_of_ble_eq_true hn
  have e : bitsLine = 134217728 := by decide
  unfold IntMulOk
  intro z
  rw [Bool.and_eq_true] at z
  have z2 := z.2
  unfold Builtin.Int.intTooBig at z2
  have z3 := of_decide_eq_true z2
  rw [e] at z3
  omega
theorem Bd.okL {x y : Int} (h : Bd 64 x) : IntMulOk x y := .of_left (intBits_le h)
theorem Bd.okR {x y : Int} (h : Bd 64 y) : IntMulOk x y := .of_right (intBits_le h)
theorem Bd.div {n : Nat} {x y : Int} (h : 0 < y) (k : Bd n y) (hn : (Nat.ble 1 n && Nat.ble n 9000) = true) : CDivW x y := by
  rw [Bool.and_eq_true] at hn
  exact wide_div h k.lt (Nat.le_of_ble_eq_true hn.1) (Nat.le_of_ble_eq_true hn.2)
/-! ### data and ==  -/
mutual
def toPy : D → PyData
  | .non => .none
  | .bl b => .bool b
  | .int i => .int i
  | .str x => .str x
  | .tup l => .tuple (toPyL l)
  | .lst l => .list (toPyL l)
  | .frz l => .list (toPyL l)
  | .cell _ => .none
  | .dct _ _ => .none
  | .rng _ _ => .none
def toPyL : List D → List PyData
  | [] => []
  | d :: l => toPy d :: toPyL l
end
mutual
def plainD : D → Bool
  | .cell _ => false
  | .dct _ _ => false
  | .rng _ _ => false
  | .tup l => Nat.ble l.length sizeLine && plainL l
  | .lst l => Nat.ble l.length sizeLine && plainL l
  | .frz l => Nat.ble l.length sizeLine && plainL l
  | _ => true
def plainL : List D → Bool
  | [] => true
  | d :: l => plainD d && plainL l
end
mutual
theorem dp_of {K : PySem.W.Frag} {Z : List Addr} {H : Hp} : ∀ {d : D} {v : V}, Rep K Z H d v → plainD d = true → Dp K H v (toPy d)
  | .non, v, h, _ => by rw [h.non]; unfold toPy; exact .non
  | .bl b, v, h, _ => by rw [h.bl]; unfold toPy; exact .bl b
  | .int i, v, h, _ => by rw [h.int]; unfold toPy; exact .int i
  | .str x, v, h, _ => by rw [h.str]; unfold toPy; exact .str x
  | .tup l, v, h, q => by
    obtain ⟨p, vs, e, sq, r⟩ := h.tup
    rw [e]
    unfold toPy
    exact .tup sq (dpL_of r (by unfold plainD at q; rw [Bool.and_eq_true] at q; exact q.2))
  | .lst l, v, h, q => by
    obtain ⟨p, vs, e, _, sq, r⟩ := h.lst
    rw [e]
    unfold toPy
    exact .lst (.inl (.inl sq)) (dpL_of r (by unfold plainD at q; rw [Bool.and_eq_true] at q; exact q.2))
  | .frz l, v, h, q => by
    obtain ⟨p, vs, e, sq, r⟩ := h.frzL
    rw [e]
    unfold toPy
    exact .lst sq (dpL_of r (by unfold plainD at q; rw [Bool.and_eq_true] at q; exact q.2))
  | .cell p, v, h, q => by unfold plainD at q; cases q
  | .dct ks l, v, h, q => by unfold plainD at q; cases q
  | .rng _ _, v, h, q => by unfold plainD at q; cases q
theorem dpL_of {K : PySem.W.Frag} {Z : List Addr} {H : Hp} : ∀ {l : List D} {vs : List V}, RepL K Z H l vs → plainL l = true → DpAll K H vs (toPyL l)
  | [], vs, h, _ => by
    rw [h.un0]
    unfold toPyL
    exact .nil
  | d :: l, vs, h, q => by
    obtain ⟨v, r, e, h1, h2⟩ := h.uncons
    rw [e]
    unfold plainL at q
    rw [Bool.and_eq_true] at q
    unfold toPyL
    exact .cons (dp_of h1 q.1) (dpL_of h2 q.2)
end
def eqOk (d : D) : Bool := plainD d && SeqAt.shaped (toPy d)
section
variable {X : Cx} {ρ : Ro} {S : Sto} {Φ : D → Sto → Prop} {P : Program} {w : World} {K : PySem.W.Frag} {mg : Str → Option Value} {base : Heap} {tb : List (Str × Nat)} {names : List (Str × NameKind)} {k : Nat} {pos p cpos apos tpos : Pos} {e o i : Expr} {es : List Expr} {E : DEnds}
theorem op_mulX : OpR X (binaryOp .Mult) (rI IntMulOk fun i j => .int (i * j)) := opI fun _ _ _ _ _ _ _ hc q => mul_int q hc
theorem do_mulX {i j : Int} (c : IntMulOk i j) (q : Φ (.int (i * j)) S) : DO X (binaryOp .Mult) (.int i) (.int j) S Φ := do_iC op_mulX c q
theorem do_modN {i j : Int} (c : j ≠ 0) (q : Φ (.int (i.fmod j)) S) : DO X (binaryOp .Mod) (.int i) (.int j) S Φ := do_iC (C := fun _ j => j ≠ 0) op_modN c q
theorem do_eqD {a b : D} (A : At X P w K mg base tb names k) (h : (eqOk a && eqOk b) = true) (q : Φ (.bl (PyData.eqv (toPy a) (toPy b))) S) : DO X (compareOp .Eq) a b S Φ := DO.of (op_eqD A.room.units) fun Zh H x y Q st ra rb P => by
  unfold eqOk at h
  rw [Bool.and_eq_true, Bool.and_eq_true, Bool.and_eq_true] at h
  exact ⟨toPy a, toPy b, dp_of ra h.1.1, dp_of rb h.2.1, h.1.2, h.2.2, P.here st rep_bl q⟩
theorem do_neD {a b : D} (A : At X P w K mg base tb names k) (h : (eqOk a && eqOk b) = true) (q : Φ (.bl (!PyData.eqv (toPy a) (toPy b))) S) : DO X (compareOp .NotEq) a b S Φ := DO.of (op_neD A.room.units) fun Zh H x y Q st ra rb P => by
  unfold eqOk at h
  rw [Bool.and_eq_true, Bool.and_eq_true, Bool.and_eq_true] at h
  exact ⟨toPy a, toPy b, dp_of ra h.1.1, dp_of rb h.2.1, h.1.2, h.2.2, P.here st rep_bl q⟩
/-- a cell against a list -/
theorem do_neC {p : Addr} {m : List D} (A : At X P w K mg base tb names k) (h : ∃ l, (p, l) ∈ S ∧ (eqOk (.lst l) && eqOk (.lst m)) = true ∧ Φ (.bl (!PyData.eqv (toPy (.lst l)) (toPy (.lst m)))) S) : DO X (compareOp .NotEq) (.cell p) (.lst m) S Φ := DO.of (op_neD A.room.units) fun Zh H x y Q st ra rb P => by
  obtain ⟨l, hm, h, q⟩ := h
  unfold eqOk at h
  rw [Bool.and_eq_true, Bool.and_eq_true, Bool.and_eq_true] at h
  obtain ⟨vs, h1, rl⟩ := st.st p l hm
  rw [ra.cell]
  refine ⟨toPy (.lst l), toPy (.lst m), ?_, dp_of rb h.2.1, h.1.2, h.2.2, P.here st rep_bl q⟩
  unfold toPy
  exact .lst (.inl (.inl h1)) (dpL_of rl (by
    have z := h.1.1
    unfold plainD at z
    rw [Bool.and_eq_true] at z
    exact z.2))
/-! ### texts -/
theorem do_inS {c : Nat} {z : Str} (q : Φ (.bl (decide (c ∈ z.cps.toList))) S) : DO X (compareOp .In) (.str ⟨#[c]⟩) (.str z) S Φ := DO.of op_in_sign fun Zh H x y Q st ra rb P => ⟨c, z, ra.str, rb.str, P.here st rep_bl q⟩
theorem do_notInS {c : Nat} {z : Str} (q : Φ (.bl (!decide (c ∈ z.cps.toList))) S) : DO X (compareOp .NotIn) (.str ⟨#[c]⟩) (.str z) S Φ := DO.of op_notIn_sign fun Zh H x y Q st ra rb P => ⟨c, z, ra.str, rb.str, P.here st rep_bl q⟩
theorem de_join (hs : starEach [e] X.env = [(false, eval e X.env)]) (hbase : attributeBase o "join" X.env (eval o X.env) = eval o X.env) (hline : (apos.endLine == pos.line) = true)
    (h : DE X o ρ S fun c S1 => ∃ a, c = .str a ∧ DE X e ρ S1 fun d S2 => ∃ ys : List Str, d = .lst (ys.map D.str) ∧ (ys.map (·.length)).sum + ys.length * a.length ≤ 16777216 ∧ Φ (.str (Txt.join a ys)) S2) : DE X (.Call (.Attribute o "join" apos) [e] [] pos) ρ S Φ :=
  DE.of (pe_join pe_w pe_w hs hbase hline) fun Zh σ H Q ev P => h.bind ev fun v H1 c S1 k1 g1 E1 r1 h2 => by
    obtain ⟨a, rfl, h2⟩ := h2
    refine ⟨⟨a, r1.str⟩, h2.bind E1 fun u H2 d S2 k2 g2 E2 r2 h3 => ?_⟩
    obtain ⟨ys, rfl, hz, q⟩ := h3
    obtain ⟨p, vs, rfl, _, sq, rl⟩ := r2.lst
    rw [rl.strs] at sq
    exact ⟨a, p, ys, r1.str, rfl, .inl (.inl (.inl sq)), hz, ((P.next k1 g1).next k2 g2).here E2.st rep_str q⟩
theorem de_sindex (hs : starEach [e] X.env = [(false, eval e X.env)]) (hbase : attributeBase o "index" X.env (eval o X.env) = eval o X.env) (hline : (apos.endLine == pos.line) = true)
    (h : DE X o ρ S fun c S1 => ∃ a, c = .str a ∧ DE X e ρ S1 fun d S2 => ∃ b i rest, d = .str b ∧ Builtin.Str.occurrences a b 0 a.length 1 = i :: rest ∧ Φ (.int ((i : Nat) : Int)) S2) : DE X (.Call (.Attribute o "index" apos) [e] [] pos) ρ S Φ :=
  DE.of (pe_m1 PySem.F.slot_str_index PySem.F.type_str_index mt_sindex pe_w pe_w hs hbase hline) fun Zh σ H Q ev P => h.bind ev fun v H1 c S1 k1 g1 E1 r1 h2 => by
    obtain ⟨a, rfl, h2⟩ := h2
    refine ⟨⟨a, r1.str⟩, h2.bind E1 fun u H2 d S2 k2 g2 E2 r2 h3 => ?_⟩
    obtain ⟨b, i, rest, rfl, hz, q⟩ := h3
    exact ⟨a, b, i, rest, r1.str, by rw [r2.str], hz, ((P.next k1 g1).next k2 g2).here E2.st rep_int q⟩
/-! ### names of the module -/
def GlobD (K : PySem.W.Frag) (mg : Str → Option Value) (x : Str) (d : D) : Prop := ∃ u v, mg x = some u ∧ RelV v u ∧ ∀ Z H, Rep K Z H d v
theorem de_glob {x : Str} {d : D} (A : At X P w K mg base tb names k) (G : GlobD K mg x d) (hg : glB names x = true) (q : Φ d S) : DE X (.Name x pos) ρ S Φ := by
  obtain ⟨u, v, hm, rv, rep⟩ := G
  have z := glB_of hg
  exact DE.of (pe_glob (v := v) (A.gl _ z.2) (by rw [A.mg]; exact hm) rv (plain1 z.1).1) fun Zh σ H Q E P => P.here E.st (by rw [A.K]; exact rep _ _) q
def DictG (K : PySem.W.Frag) (w : World) (mg : Str → Option Value) (x : Str) (f : Str → Option D) : Prop := ∃ a, mg x = some (.ref a) ∧ ∀ z d, f z = some d → ∃ v, KDct K w a z v ∧ ∀ Z H, Rep K Z H d v
theorem de_kd {x : Str} {f : Str → Option D} {px : Pos} (A : At X P w K mg base tb names k) (G : DictG K w mg x f) (hg : glB names x = true) (hp : PlainIx e) (h : DE X e ρ S fun d S1 => ∃ z r, d = .str z ∧ f z = some r ∧ Φ r S1) : DE X (.Subscript (.Name x px) e pos) ρ S Φ := by
  obtain ⟨a, hm, hf⟩ := G
  have z := glB_of hg
  exact DE.of (pe_ix ix_kdict (pe_glob (v := .ref a) (A.gl _ z.2) (by rw [A.mg]; exact hm) rfl (plain1 z.1).1) pe_w hp) fun Zh σ H Q E P => h.bind E fun v H1 d S1 k1 g1 E1 r1 h1 => by
    obtain ⟨z, r, rfl, hz, q⟩ := h1
    obtain ⟨u, hk, rep⟩ := hf z r hz
    refine ⟨a, z, u, rfl, r1.str, ?_, (P.next k1 g1).here E1.st (by rw [A.K]; exact rep _ _) q⟩
    rw [A.K, A.w]
    exact hk
end
end Ar
namespace Ar
open PySem PySem.Spec PyProof.Rows L2
def isStar (e : Expr) : Bool := match e with | .Starred .. => true | _ => false
/-- two values are put on the stack and stored from its top -/
theorem sw_some2 {env : Env} {x y : Str} {px py pt pt2 : Pos} {a b : Expr} {kt k2} (hb : env.blockKind = .function) (kx : env.kindOf x = some .local) (ky : env.kindOf y = some .local) (hl : (py.line == px.line) = true) (hxy : (y == x) = false) (hf : ([a, b].all (foldedForSure 8)) = false) (hc : ([a, b].all (constantsAlone 8)) = false) (hs : ([a, b].any isStar) = false) :
    swappedStores [.Tuple [.Name x px, .Name y py] kt pt] (.Tuple [a, b] k2 pt2) env = pure (some [x, y]) := by
  have e1 : ([x, y] : List Str).eraseDups.length = 2 := by
    simp [List.eraseDups_cons, hxy]
  have hl2 := eq_of_beq hl
  unfold swappedStores
  simp only [hf, hc]
  split
  · rename_i h
    exact absurd h (by simp [hb])
  · split
    · rename_i h
      have h2 : ([a, b].any isStar) = true := h
      rw [hs] at h2
      cases h2
    · split
      · rename_i h
        revert h
        simp [kx, ky, Expr.pos, hl2, e1]
      · simp [kx, ky, Expr.pos, hl2]
theorem sw_some3 {env : Env} {x y z : Str} {px py pz pt pt2 : Pos} {a b c : Expr} {kt k2} (hb : env.blockKind = .function) (kx : env.kindOf x = some .local) (ky : env.kindOf y = some .local) (kz : env.kindOf z = some .local) (hl : (py.line == px.line) = true) (hl3 : (pz.line == px.line) = true) (hxy : (y == x) = false) (hxz : (z == x) = false) (hyz : (z == y) = false) (hf : ([a, b, c].all (foldedForSure 8)) = false) (hc : ([a, b, c].all (constantsAlone 8)) = false) (hs : ([a, b, c].any isStar) = false) :
    swappedStores [.Tuple [.Name x px, .Name y py, .Name z pz] kt pt] (.Tuple [a, b, c] k2 pt2) env = pure (some [x, y, z]) := by
  have e1 : ([x, y, z] : List Str).eraseDups.length = 3 := by
    simp [List.eraseDups_cons, hxy, hxz, hyz]
  have hl2 := eq_of_beq hl
  have hl4 := eq_of_beq hl3
  unfold swappedStores
  simp only [hf, hc]
  split
  · rename_i h
    exact absurd h (by simp [hb])
  · split
    · rename_i h
      have h2 : ([a, b, c].any isStar) = true := h
      rw [hs] at h2
      cases h2
    · split
      · rename_i h
        revert h
        simp [kx, ky, kz, Expr.pos, hl2, hl4, e1]
      · simp [kx, ky, kz, Expr.pos, hl2, hl4]
theorem sw_fold {env : Env} {ts vs : List Expr} {pt pt2 : Pos} {kt k2} (hf : (vs.all (foldedForSure 8)) = true) :
    swappedStores [.Tuple ts kt pt] (.Tuple vs k2 pt2) env = pure none := by
  unfold swappedStores
  simp only [hf]
  split
  · rfl
  · split
    · rfl
    · split
      · rfl
      · rfl
/-- one of two is no local -/
theorem sw_cell2 {env : Env} {x y : Str} {px py pt pt2 : Pos} {vs : List Expr} {kt k2} (h : (env.kindOf x == some .local) = false ∨ (env.kindOf y == some .local) = false) :
    swappedStores [.Tuple [.Name x px, .Name y py] kt pt] (.Tuple vs k2 pt2) env = pure none := by
  unfold swappedStores
  simp only []
  split
  · rfl
  · split
    · rfl
    · split
      · rfl
      · rename_i h3
        exfalso
        apply h3
        rw [Bool.or_eq_true]
        left
        simp only [List.filterMap_cons, List.filterMap_nil]
        rcases h with h | h <;> simp only [h, Bool.false_and] <;> split <;> simp_all <;> (try (split <;> simp_all))
/-! ### the same rules, their names' facts given -/
structure Var (tb : List (Str × Nat)) (names : List (Str × NameKind)) (x : Str) (i : Nat) : Prop where
  look : tb.lookup x = some i
  vis : (plainName x && visB (names.lookup x)) = true
structure Stv (tb : List (Str × Nat)) (names : List (Str × NameKind)) (x : Str) (i : Nat) : Prop where
  look : tb.lookup x = some i
  st : stB (names.lookup x) = true
structure Lcv (tb : List (Str × Nat)) (names : List (Str × NameKind)) (x : Str) (i : Nat) : Prop where
  look : tb.lookup x = some i
  lc : locB names x = true
structure Glo (names : List (Str × NameKind)) (x : Str) : Prop where
  g : glB names x = true
def varB (tb : List (Str × Nat)) (names : List (Str × NameKind)) (x : Str) (i : Nat) : Bool := decide (tb.lookup x = some i) && (plainName x && visB (names.lookup x))
def stvB (tb : List (Str × Nat)) (names : List (Str × NameKind)) (x : Str) (i : Nat) : Bool := decide (tb.lookup x = some i) && stB (names.lookup x)
def lcvB (tb : List (Str × Nat)) (names : List (Str × NameKind)) (x : Str) (i : Nat) : Bool := decide (tb.lookup x = some i) && locB names x
section
variable {X : Cx} {ρ : Ro} {S : Sto} {Φ : D → Sto → Prop} {P : Program} {w : World} {K : PySem.W.Frag} {mg : Str → Option Value} {base : Heap} {tb : List (Str × Nat)} {names : List (Str × NameKind)} {k : Nat} {pos p px py pz pt spos : Pos} {e e2 : Expr} {es : List Expr} {x y z : Str} {i j l : Nat} {E : DEnds}
theorem At.var (A : At X P w K mg base tb names k) (x : Str) (i : Nat) (h : varB tb names x i = true) : Var tb names x i := by
  unfold varB at h
  rw [Bool.and_eq_true] at h
  exact ⟨of_decide_eq_true h.1, h.2⟩
theorem At.stv (A : At X P w K mg base tb names k) (x : Str) (i : Nat) (h : stvB tb names x i = true) : Stv tb names x i := by
  unfold stvB at h
  rw [Bool.and_eq_true] at h
  exact ⟨of_decide_eq_true h.1, h.2⟩
theorem At.lcv (A : At X P w K mg base tb names k) (x : Str) (i : Nat) (h : lcvB tb names x i = true) : Lcv tb names x i := by
  unfold lcvB at h
  rw [Bool.and_eq_true] at h
  exact ⟨of_decide_eq_true h.1, h.2⟩
theorem At.glo (A : At X P w K mg base tb names k) (x : Str) (h : glB names x = true) : Glo names x := ⟨h⟩
theorem vName (A : At X P w K mg base tb names k) (v : Var tb names x i) (h : ∃ d, ρ[i]? = some (some d) ∧ Φ d S) : DE X (.Name x pos) ρ S Φ := by
  obtain ⟨d, h, q⟩ := h
  exact de_name A ⟨i, d, v.look, v.vis, h, q⟩
theorem vSet (A : At X P w K mg base tb names k) (v : Stv tb names x i) (hs : swapsWith e (some (.Name x p)) pos.line X.env = pure false) (h : DE X e ρ S fun d S1 => Nx E (ρ.set i (some d)) S1) : DS X (.Assign [.Name x p] e pos) ρ S E := ds_set A hs ⟨i, v.look, v.st, h⟩
theorem vCell (A : At X P w K mg base tb names k) (v : Stv tb names x i) (hs : swapsWith e (some (.Name x p)) pos.line X.env = pure false) (h : DN X e ρ S fun l S1 => ∀ c, Nx E (ρ.set i (some (.cell c))) (S1 ++ [(c, l)])) : DS X (.Assign [.Name x p] e pos) ρ S E := ds_setCell A hs ⟨i, v.look, v.st, h⟩
theorem At.bk (A : At X P w K mg base tb names k) : X.env.blockKind = .function := by
  unfold Env.blockKind
  rw [A.kind]
  rfl
def par2B (px py : Pos) (x y : Str) (a b : Expr) : Bool := (py.line == px.line) && !(y == x) && !([a, b].all (foldedForSure 8)) && !([a, b].all (constantsAlone 8)) && !([a, b].any isStar)
def par3B (px py pz : Pos) (x y z : Str) (a b c : Expr) : Bool := (py.line == px.line) && (pz.line == px.line) && !(y == x) && !(z == x) && !(z == y) && !([a, b, c].all (foldedForSure 8)) && !([a, b, c].all (constantsAlone 8)) && !([a, b, c].any isStar)
theorem vPar {a b : Expr} {kt k2 pt2} (A : At X P w K mg base tb names k) (v : Lcv tb names x i) (u : Lcv tb names y j) (hp : par2B px py x y a b = true)
    (hs : swapsWithSole [.Tuple [.Name x px, .Name y py] kt pt] (.Tuple [a, b] k2 pt2) pos.line X.env = pure false) (hij : Nat.beq i j = false)
    (h : DA X [a, b] ρ S fun ds S1 => ∃ c d, ds = [c, d] ∧ Nx E ((ρ.set i (some c)).set j (some d)) S1) : DS X (.Assign [.Tuple [.Name x px, .Name y py] kt pt] (.Tuple [a, b] k2 pt2) pos) ρ S E := by
  unfold par2B at hp
  simp only [Bool.and_eq_true, Bool.not_eq_true'] at hp
  obtain ⟨⟨⟨⟨h1, h2⟩, h3⟩, h4⟩, h5⟩ := hp
  exact ds_par A (sw_some2 A.bk (A.loc _ (locB_of v.lc)) (A.loc _ (locB_of u.lc)) h1 h2 h3 h4 h5) hs ⟨i, j, v.look, u.look, hij, by rw [v.lc, u.lc]; rfl, h⟩
theorem vPar3 {a b c : Expr} {kt k2 pt2} (A : At X P w K mg base tb names k) (v : Lcv tb names x i) (u : Lcv tb names y j) (t : Lcv tb names z l) (hp : par3B px py pz x y z a b c = true)
    (hs : swapsWithSole [.Tuple [.Name x px, .Name y py, .Name z pz] kt pt] (.Tuple [a, b, c] k2 pt2) pos.line X.env = pure false) (hij : Nat.beq i j = false ∧ Nat.beq i l = false ∧ Nat.beq j l = false)
    (h : DA X [a, b, c] ρ S fun ds S1 => ∃ a b c, ds = [a, b, c] ∧ Nx E (((ρ.set i (some a)).set j (some b)).set l (some c)) S1) : DS X (.Assign [.Tuple [.Name x px, .Name y py, .Name z pz] kt pt] (.Tuple [a, b, c] k2 pt2) pos) ρ S E := by
  unfold par3B at hp
  simp only [Bool.and_eq_true, Bool.not_eq_true'] at hp
  obtain ⟨⟨⟨⟨⟨⟨⟨h1, h2⟩, h3⟩, h4⟩, h5⟩, h6⟩, h7⟩, h8⟩ := hp
  exact ds_par3 A (sw_some3 A.bk (A.loc _ (locB_of v.lc)) (A.loc _ (locB_of u.lc)) (A.loc _ (locB_of t.lc)) h1 h2 h3 h4 h5 h6 h7 h8) hs ⟨i, j, l, v.look, u.look, t.look, hij, by rw [v.lc, u.lc, t.lc]; rfl, h⟩
/-- constants alone -/
theorem vAsgF {ts vs : List Expr} {kt k2 pt2} (hf : (vs.all (foldedForSure 8)) = true) (hs : swapsWithSole [.Tuple ts kt pt] (.Tuple vs k2 pt2) pos.line X.env = pure false) (h1 : (assignEach [.Tuple ts kt pt] X.env).map (·.2) = [assign (.Tuple ts kt pt) X.env])
    (h : DE X (.Tuple vs k2 pt2) ρ S fun d S1 => DG X (fun _ => true) (.Tuple ts kt pt) d ρ S1 E.nx) : DS X (.Assign [.Tuple ts kt pt] (.Tuple vs k2 pt2) pos) ρ S E := ds_asg hs (sw_fold hf) h1 h
/-- one of two targets is a cell of the def -/
theorem vAsgC {vs : List Expr} {kt k2 pt2} (A : At X P w K mg base tb names k) (hc : (cfB (names.lookup x) || cfB (names.lookup y)) = true) (hs : swapsWithSole [.Tuple [.Name x px, .Name y py] kt pt] (.Tuple vs k2 pt2) pos.line X.env = pure false) (h1 : (assignEach [.Tuple [.Name x px, .Name y py] kt pt] X.env).map (·.2) = [assign (.Tuple [.Name x px, .Name y py] kt pt) X.env])
    (h : DE X (.Tuple vs k2 pt2) ρ S fun d S1 => DG X (fun _ => true) (.Tuple [.Name x px, .Name y py] kt pt) d ρ S1 E.nx) : DS X (.Assign [.Tuple [.Name x px, .Name y py] kt pt] (.Tuple vs k2 pt2) pos) ρ S E := by
  have no : ∀ z, cfB (names.lookup z) = true → (X.env.kindOf z == some .local) = false := fun z hz => by
    rcases A.cf z hz with q | q
    · show (X.env.scope.names.lookup z == some .local) = false
      rw [q]
      rfl
    · show (X.env.scope.names.lookup z == some .local) = false
      rw [q]
      rfl
  rw [Bool.or_eq_true] at hc
  exact ds_asg hs (sw_cell2 (hc.imp (no x) (no y))) h1 h
theorem vG {ok : Nat → Bool} {d : D} {Φ : Ro → Sto → Prop} (A : At X P w K mg base tb names k) (v : Stv tb names x i) (hok : ok i = true) (h : NxG Φ (ρ.set i (some d)) S) : DG X ok (.Name x pos) d ρ S Φ := dg_name A ⟨i, v.look, by rw [v.st, hok]; rfl, h⟩
theorem vAug {op : Operator} (A : At X P w K mg base tb names k) (v : Stv tb names x i) (h : ∃ d, ρ[i]? = some (some d) ∧ DE X e ρ S fun c S1 => DO X (inplaceOp op) d c S1 fun r S2 => Nx E (ρ.set i (some r)) S2) : DS X (.AugAssign (.Name x p) op e pos) ρ S E := by
  obtain ⟨d, h1, h2⟩ := h
  exact ds_aug A ⟨i, d, v.look, v.st, h1, h2⟩
theorem vSetLc {scope : Scope} {own : List (Str × Nat)} {tg iter elt : Expr} {ifs : List Expr} (A : At X P w K mg base tb names k) (v : Lcv tb names y i) (hk : scope.kind = .function) (hb : blkD tb names scope.names own = true) (hs : ∀ x, foldedSetIterable iter X.env x = pure x)
    (hl : (py.line == pos.line) = true) (ha : (scope.names.any fun (n, k) => n == y && (k == .local || k == .cell)) = false)
    (h : DI X tg iter ρ S fun ds S1 => ds.length ≤ sizeLine ∧ LcN X scope (okOf own) tg ifs elt ds (wipeR ρ (own.map (·.2))) S1 fun d S2 => Nx E (ρ.set i (some d)) S2) : DS X (.Assign [.Name y py] (.ListComp elt [⟨tg, iter, ifs, 0⟩] scope pos) spos) ρ S E :=
  ds_setLc A hk hb hs hl ha v.lc ⟨i, v.look, h⟩
theorem vCall {n j : Nat} {B : Spec} (A : At X P w K mg base tb names k) (F : Fn P w K mg base x n j B) (g : Glo names x) (hc : (Nat.ble j k && Nat.beq (e :: es).length n) = true)
    (he : starEach (e :: es) X.env = (false, eval e X.env) :: starEach es X.env) (hpl : (backTo pos (starEach es X.env)).any (·.1) = false)
    (h : DA X (e :: es) ρ S fun ds S1 => B ds S1 Φ) : DE X (.Call (.Name x p) (e :: es) [] pos) ρ S Φ := de_call A F (by rw [hc, g.g]; rfl) he hpl h
theorem vNCall {n j : Nat} {B : SpecN} {Φ : List D → Sto → Prop} (A : At X P w K mg base tb names k) (F : FnN P w K mg base x n j B) (g : Glo names x) (hc : (Nat.ble j k && Nat.beq (e :: es).length n) = true)
    (he : starEach (e :: es) X.env = (false, eval e X.env) :: starEach es X.env) (hpl : (backTo pos (starEach es X.env)).any (·.1) = false)
    (h : DA X (e :: es) ρ S fun ds S1 => B ds S1 Φ) : DN X (.Call (.Name x p) (e :: es) [] pos) ρ S Φ := dn_call A F (by rw [hc, g.g]; rfl) he hpl h
theorem vIsi {T : String} {f : D → Bool} (A : At X P w K mg base tb names k) (G : NoB mg) (t : TyG x T f) (g : Glo names x) (g2 : Glo names "isinstance")
    (he : starEach [e, .Name x px] X.env = (false, eval e X.env) :: starEach [.Name x px] X.env)
    (h : DE X e ρ S fun d S1 => OkC S1 d ∧ Φ (.bl (f d)) S1) : DE X (.Call (.Name "isinstance" p) [e, .Name x px] [] pos) ρ S Φ := de_isi A G t (by rw [g.g, g2.g]; rfl) he h
theorem vIsi2 {T T2 : String} {f f2 : D → Bool} {x2 : Str} {px2 : Pos} {kk} (A : At X P w K mg base tb names k) (G : NoB mg) (t : TyG x T f) (t' : TyG x2 T2 f2) (g : Glo names x) (g2 : Glo names "isinstance") (g3 : Glo names x2)
    (he : starEach [e, .Tuple [.Name x px, .Name x2 px2] kk pt] X.env = (false, eval e X.env) :: starEach [.Tuple [.Name x px, .Name x2 px2] kk pt] X.env)
    (h : DE X e ρ S fun d S1 => OkC S1 d ∧ Φ (.bl (f d || f2 d)) S1) : DE X (.Call (.Name "isinstance" p) [e, .Tuple [.Name x px, .Name x2 px2] kk pt] [] pos) ρ S Φ := de_isi2 A G t t' (by rw [g.g, g2.g, g3.g]; rfl) he h
/-- [elt for x in iter], nothing else changed -/
theorem vLc {scope : Scope} {own : List (Str × Nat)} {tg iter elt : Expr} {ifs : List Expr} (A : At X P w K mg base tb names k) (hk : scope.kind = .function) (hb : blkD tb names scope.names own = true) (hs : ∀ x, foldedSetIterable iter X.env x = pure x)
    (h : DI X tg iter ρ S fun ds S1 => ds.length ≤ sizeLine ∧ LcN X scope (okOf own) tg ifs elt ds (wipeR ρ (own.map (·.2))) S1 Φ) : DE X (.ListComp elt [⟨tg, iter, ifs, 0⟩] scope pos) ρ S Φ := de_lc A hk hb hs h
end
end Ar
namespace Ar
open PySem PySem.Spec PyProof.Rows L2
/-! ### contracts by data, of the package's functions -/
abbrev t3 (x y z : Int) : D := .tup [.int x, .int y, .int z]
/-- what a law's file needs of a def -/
def Has (K : PySem.W.Frag) (mg : Str → Option Value) (x : Str) (st : Stmt) (ps : List Str) : Prop := ∃ f fd, Fun K x x st f fd ∧ mg x = some (.ref f) ∧ Binds K fd ps []
theorem Has.fn {P : Program} {w : World} {K : PySem.W.Frag} {mg : Str → Option Value} {base : Heap} {tb : List (Str × Nat)} {x : Str} {st : Stmt} {N ps : List Str} {k n : Nat} {names : List (Str × NameKind)} {B : Spec} (F : Has K mg x st ps) (Sc : FnScope N ps (defScope st)) (hn : ps.length = n) (hnm : (defScope st).names = names) (ht : tbOk N tb = true)
    (body : ∀ X, At X P w K mg base tb names k → ∀ ds S Φ, ds.length = n → B ds S Φ → DSs X (defBody st) (ds.map some ++ List.replicate (N.length - ds.length) none) S { nx := fun _ S' => RetP S Φ .non S', rt := RetP S Φ }) : Fn P w K mg base x n (k + 1) B := by
  obtain ⟨f, fd, F, hm, hb⟩ := F
  exact fn_data F Sc hn hnm ht hm hb body
theorem Has.fnN {P : Program} {w : World} {K : PySem.W.Frag} {mg : Str → Option Value} {base : Heap} {tb : List (Str × Nat)} {x : Str} {st : Stmt} {N ps : List Str} {k n : Nat} {names : List (Str × NameKind)} {B : SpecN} (F : Has K mg x st ps) (Sc : FnScope N ps (defScope st)) (hn : ps.length = n) (hnm : (defScope st).names = names) (ht : tbOk N tb = true)
    (body : ∀ X, At X P w K mg base tb names k → ∀ ds S Φ, ds.length = n → B ds S Φ → DSs X (defBody st) (ds.map some ++ List.replicate (N.length - ds.length) none) S { nx := fun _ _ => False, rt := RetC S Φ }) : FnN P w K mg base x n (k + 1) B := by
  obtain ⟨f, fd, F, hm, hb⟩ := F
  exact fnN_data F Sc hn hnm ht hm hb body
theorem dss_norm {X : Cx} {st : List Stmt} {ρ ρ' : Ro} {S : Sto} {E : DEnds} (e : ρ = ρ') (h : DSs X st ρ' S E) : DSs X st ρ S E := by
  rw [e]
  exact h
theorem asg_list {X : Cx} {x : Str} {p q pos : Pos} {es : List Expr} {ρ : Ro} {S : Sto} {E : DEnds} (h : DS X (.Assign [.Name x p] (.List es q) pos) ρ S E) : DS X (.Assign [.Name x p] (.List es q) pos) ρ S E := h

theorem ble_self (n : Nat) : Nat.ble n n = true := Nat.ble_eq.mpr (Nat.le_refl n)
section
variable {X : Cx} {ρ : Ro} {S : Sto}
theorem de_norm {ρ' : Ro} {e : Expr} {Φ : D → Sto → Prop} (q : ρ = ρ') (h : DE X e ρ' S Φ) : DE X e ρ S Φ := by
  rw [q]
  exact h
theorem dg_norm {ρ' : Ro} {ok : Nat → Bool} {e : Expr} {d : D} {Φ : Ro → Sto → Prop} (q : ρ = ρ') (h : DG X ok e d ρ' S Φ) : DG X ok e d ρ S Φ := by
  rw [q]
  exact h
theorem de_id {e : Expr} {Φ : D → Sto → Prop} (h : DE X e ρ S Φ) : DE X e ρ S Φ := h
theorem de_callId {f : Expr} {es : List Expr} {ks pos} {Φ : D → Sto → Prop} (h : DE X (.Call f es ks pos) ρ S Φ) : DE X (.Call f es ks pos) ρ S Φ := h
theorem do_id {f : Value → Value → Sem Value} {a b : D} {Φ : D → Sto → Prop} (h : DO X f a b S Φ) : DO X f a b S Φ := h
theorem dt_id {e : Expr} {Φ : Bool → Sto → Prop} (h : DT X e ρ S Φ) : DT X e ρ S Φ := h
theorem dw_id {e : Expr} {Φ : Bool → Sto → Prop} (h : DW X e ρ S Φ) : DW X e ρ S Φ := h
theorem ds_id {st : Stmt} {E : DEnds} (h : DS X st ρ S E) : DS X st ρ S E := h
theorem dg_id {ok : Nat → Bool} {e : Expr} {d : D} {Φ : Ro → Sto → Prop} (h : DG X ok e d ρ S Φ) : DG X ok e d ρ S Φ := h
end
theorem okc_and {S : Sto} {d : D} {A : Prop} (h : OkC S d) (q : A) : OkC S d ∧ A := ⟨h, q⟩
def isNumB : D → Bool
  | .int _ => true
  | _ => false
def isTupB : D → Bool
  | .tup _ => true
  | _ => false
def isLongB : D → Int → Bool
  | .tup l, n => decide ((l.length : Int) = n)
  | _, _ => false
def areNumB : D → Bool
  | .tup l => l.all isNumB
  | _ => false
def isTripB (d : D) : Bool := isLongB d 3 && areNumB d
mutual
/-- lists as tuples, at every depth -/
def nrm : D → D
  | .tup l => .tup (nrmL l)
  | .lst l => .tup (nrmL l)
  | .frz l => .tup (nrmL l)
  | d => d
def nrmL : List D → List D
  | [] => []
  | d :: l => nrm d :: nrmL l
end
mutual
/-- of depth at most n, rows within the line, no cells -/
def fitD : Nat → D → Bool
  | n + 1, .tup l => Nat.ble l.length sizeLine && fitL n l
  | n + 1, .lst l => Nat.ble l.length sizeLine && fitL n l
  | n + 1, .frz l => Nat.ble l.length sizeLine && fitL n l
  | 0, .tup _ => false
  | 0, .lst _ => false
  | 0, .frz _ => false
  | _, .cell _ => false
  | _, .dct _ _ => false
  | _, _ => true
def fitL : Nat → List D → Bool
  | _, [] => true
  | n, d :: l => fitD n d && fitL n l
end
def cIsNumber : Spec := fun ds S Φ => ∃ d, ds = [d] ∧ OkC S d ∧ Φ (.bl (isNumB d)) S
theorem cIsNumber_i {d : D} {S : Sto} {Φ} (h : OkC S d) (q : Φ (.bl (isNumB d)) S) : cIsNumber [d] S Φ := ⟨d, rfl, h, q⟩
def cIsLong : Spec := fun ds S Φ => ∃ d n, ds = [d, .int n] ∧ OkC S d ∧ Φ (.bl (isLongB d n)) S
theorem cIsLong_i {d : D} {n : Int} {S : Sto} {Φ} (h : OkC S d) (q : Φ (.bl (isLongB d n)) S) : cIsLong [d, .int n] S Φ := ⟨d, n, rfl, h, q⟩
/-! loops and comprehensions -/
/-- a statement that is not opened -/
inductive Box (A : Prop) : Prop where
  | mk (h : A) : Box A
  | mk2 (h : A) : Box A
theorem Box.get {A : Prop} : Box A → A
  | .mk h => h
  | .mk2 h => h
structure RngOk (i : Int) : Prop where
  lo : -(2 ^ 62) ≤ i
  hi : i < 2 ^ 62
section
variable {X : Cx} {ρ : Ro} {S : Sto} {P : Program} {w : World} {K : PySem.W.Frag} {mg : Str → Option Value} {base : Heap} {tb : List (Str × Nat)} {names : List (Str × NameKind)} {k : Nat} {pos p tpos : Pos}
theorem for_ind {tg : Expr} {body : List Stmt} {E : DEnds} (I : List D → Ro → Sto → Prop) (step : ∀ d ds ρ S, I (d :: ds) ρ S → DG X (fun _ => true) tg d ρ S fun ρ1 S1 => DSs X body ρ1 S1 { nx := fun r s => Box (I ds r s), rt := E.rt, bk := E.nx, ct := fun r s => Box (I ds r s) }) (fin : ∀ ρ S, I [] ρ S → E.nx ρ S) : ∀ {ds : List D} {ρ : Ro} {S : Sto}, I ds ρ S → ForD X tg body ds ρ S E
  | [], ρ, S, h => fin ρ S h
  | d :: ds, ρ, S, h => fun Zh pins s σ H v u Q I' ev r rv k => step d ds ρ S h Zh pins s σ H v u Q I' ev r rv fun σ' H' ρ' S' a b c e f q => k σ' H' ρ' S' a b c e f (q.mono (fun _ _ z => for_ind I step fin z.get) (fun _ _ z => z) (fun _ _ z => z) (fun _ _ z => for_ind I step fin z.get))
theorem lc_ind {b : Bl} {ok : Nat → Bool} {tg elt : Expr} {Φ : D → Sto → Prop} (I : List D → Sto → List D → Prop) (step : ∀ d ds S acc, I (d :: ds) S acc → ∀ X', b X' → DG X' ok tg d ρ S fun ρ2 S2 => Box (∀ X', b X' → DE X' elt ρ2 S2 fun y S4 => Box (I ds S4 (acc ++ [y])))) (fin : ∀ S acc, I [] S acc → Φ (.lst acc) S) : ∀ {ds : List D} {S : Sto} {acc : List D}, I ds S acc → LcD b ok tg [] elt ds ρ S acc Φ
  | [], S, acc, h => fin S acc h
  | d :: ds, S, acc, h => lc_cons fun X' hX => fun Zh pins s σ H v u Q I' ev r rv k => step d ds S acc h X' hX Zh pins s σ H v u Q I' ev r rv fun σ' H' ρ' S' a b c e f q => k σ' H' ρ' S' a b c e f fun X2 hX2 => (q.get X2 hX2).mono fun y S4 z => lc_ind I step fin z.get
theorem lc_mapN {scope : Scope} {own : List (Str × Nat)} {x : Str} {elt : Expr} {i : Nat} {f : D → D} {Φ : D → Sto → Prop} {ds : List D} (A : At X P w K mg base tb names k) (hk : scope.kind = .function) (hx : tb.lookup x = some i) (hv : (stB (scope.names.lookup x) && okOf own i) = true)
    (h : ∀ d, d ∈ ds → ∀ X', At X' P w K mg base tb scope.names k → ∀ Ξ : D → Sto → Prop, Ξ (f d) S → DE X' elt (ρ.set i (some d)) S Ξ) (q : Φ (.lst (ds.map f)) S) : LcD (blks X scope) (okOf own) (.Name x p) [] elt ds ρ S [] Φ :=
  lc_map (f := f) (fun d hd X' hX Ψ hΨ => dg_name (A.blk hk hX) ⟨i, hx, hv, hΨ _ fun X2 hX2 Ξ hΞ => h d hd X2 (A.blk hk hX2) Ξ hΞ⟩) q
theorem lc_mapP {scope : Scope} {own : List (Str × Nat)} {x y : Str} {px py : Pos} {kk : Nat} {elt : Expr} {i j : Nat} {f : D → D} {Φ : D → Sto → Prop} {ds : List D} (A : At X P w K mg base tb names k) (hk : scope.kind = .function) (hx : tb.lookup x = some i) (hv : (stB (scope.names.lookup x) && okOf own i) = true)
    (hy : tb.lookup y = some j) (hw : (stB (scope.names.lookup y) && okOf own j) = true)
    (h : ∀ d, d ∈ ds → ∃ a b, d = .tup [a, b] ∧ ∀ X', At X' P w K mg base tb scope.names k → ∀ Ξ : D → Sto → Prop, Ξ (f d) S → DE X' elt ((ρ.set i (some a)).set j (some b)) S Ξ) (q : Φ (.lst (ds.map f)) S) : LcD (blks X scope) (okOf own) (.Tuple [.Name x px, .Name y py] kk p) [] elt ds ρ S [] Φ :=
  lc_map (f := f) (fun d hd X' hX Ψ hΨ => by
    obtain ⟨a, b, rfl, h⟩ := h d hd
    have A' := A.blk hk hX
    refine dg_tup (n := 2) A' rfl rfl ⟨_, rfl, rfl, dgs_cons rfl (dg_name A' ⟨i, hx, hv, ?_⟩)⟩
    refine dgs_cons rfl (dg_name A' ⟨j, hy, hw, dgs_nil ?_⟩)
    exact hΨ _ fun X2 hX2 Ξ hΞ => h X2 (A.blk hk hX2) Ξ hΞ) q
/-- [elt for x in iter], nothing else changed -/
theorem de_lcN {scope : Scope} {own : List (Str × Nat)} {x : Str} {iter elt : Expr} {Φ : D → Sto → Prop} (i : Nat) (f : D → D) (A : At X P w K mg base tb names k) (hk : scope.kind = .function) (hb : blkD tb names scope.names own = true) (hs : ∀ x, foldedSetIterable iter X.env x = pure x) (hx : tb.lookup x = some i) (hv : (stB (scope.names.lookup x) && okOf own i) = true)
    (h : DI X (.Name x p) iter ρ S fun ds S1 => ds.length ≤ sizeLine ∧ (∀ d, d ∈ ds → ∀ X', At X' P w K mg base tb scope.names k → ∀ Ξ : D → Sto → Prop, Ξ (f d) S1 → DE X' elt ((wipeR ρ (own.map (·.2))).set i (some d)) S1 Ξ) ∧ Φ (.lst (ds.map f)) S1) : DE X (.ListComp elt [⟨.Name x p, iter, [], 0⟩] scope pos) ρ S Φ :=
  de_lc (own := own) A hk hb hs (DI.mono h fun ds S1 ⟨h1, h2, h3⟩ => ⟨h1, lc_mapN A hk hx hv h2 h3⟩)
theorem de_lcP {scope : Scope} {own : List (Str × Nat)} {x y : Str} {px py : Pos} {kk : Nat} {iter elt : Expr} {Φ : D → Sto → Prop} (i j : Nat) (f : D → D) (A : At X P w K mg base tb names k) (hk : scope.kind = .function) (hb : blkD tb names scope.names own = true) (hs : ∀ x, foldedSetIterable iter X.env x = pure x) (hx : tb.lookup x = some i) (hv : (stB (scope.names.lookup x) && okOf own i) = true)
    (hy : tb.lookup y = some j) (hw : (stB (scope.names.lookup y) && okOf own j) = true)
    (h : DI X (.Tuple [.Name x px, .Name y py] kk p) iter ρ S fun ds S1 => ds.length ≤ sizeLine ∧ (∀ d, d ∈ ds → ∃ a b, d = .tup [a, b] ∧ ∀ X', At X' P w K mg base tb scope.names k → ∀ Ξ : D → Sto → Prop, Ξ (f d) S1 → DE X' elt (((wipeR ρ (own.map (·.2))).set i (some a)).set j (some b)) S1 Ξ) ∧ Φ (.lst (ds.map f)) S1) : DE X (.ListComp elt [⟨.Tuple [.Name x px, .Name y py] kk p, iter, [], 0⟩] scope pos) ρ S Φ :=
  de_lc (own := own) A hk hb hs (DI.mono h fun ds S1 ⟨h1, h2, h3⟩ => ⟨h1, lc_mapP A hk hx hv hy hw h2 h3⟩)
theorem vRange1 {e tg : Expr} {Φ : List D → Sto → Prop} (A : At X P w K mg base tb names k) (G : NoB mg) (g : Glo names "range") (hs : starEach [e] X.env = [(false, eval e X.env)]) (h : DE X e ρ S fun d S1 => ∃ i, d = .int i ∧ RngOk i ∧ Φ (rangeD 0 i.toNat) S1) : DI X tg (.Call (.Name "range" p) [e] [] pos) ρ S Φ :=
  di_range1 A (G.no _ rfl) g.g hs (h.mono fun d S1 ⟨i, e, r, q⟩ => ⟨i, e, ⟨r.lo, r.hi⟩, q⟩) hs
theorem vRange2 {e e2 tg : Expr} {Φ : List D → Sto → Prop} (A : At X P w K mg base tb names k) (G : NoB mg) (g : Glo names "range") (hs : starEach [e, e2] X.env = [(false, eval e X.env), (false, eval e2 X.env)]) (hs2 : starEach [e2] X.env = [(false, eval e2 X.env)])
    (hs3 : starEach (e :: [e2]) X.env = (false, eval e X.env) :: starEach [e2] X.env) (h : DE X e ρ S fun d S1 => DE X e2 ρ S1 fun c S2 => ∃ i j, d = .int i ∧ c = .int j ∧ RngOk i ∧ RngOk j ∧ Φ (rangeD i (j - i).toNat) S2) : DI X tg (.Call (.Name "range" p) [e, e2] [] pos) ρ S Φ :=
  di_range2 A (G.no _ rfl) g.g hs hs2 hs3 hs2 (h.mono fun d S1 h => h.mono fun c S2 ⟨i, j, e1, e2, r1, r2, q⟩ => ⟨i, j, e1, e2, ⟨r1.lo, r1.hi, r2.lo, r2.hi⟩, q⟩)
theorem rng_and {i : Int} {B : Prop} (h : RngOk i) (q : B) : RngOk i ∧ B := ⟨h, q⟩
theorem bls_map {f : D → Bool} {l : List D} : l.map (fun d => D.bl (f d)) = (l.map f).map D.bl := by
  rw [List.map_map]
  rfl
theorem plain_ok {d : D} (h : plainD d = true) : OkC S d := by
  cases d with
  | cell p => unfold plainD at h; cases h
  | _ => exact trivial
theorem plain_in {l : List D} (h : plainL l = true) : ∀ d, d ∈ l → plainD d = true := fun d hd => by
  induction l with
  | nil => cases hd
  | cons c l ih =>
    unfold plainL at h
    rw [Bool.and_eq_true] at h
    rcases List.mem_cons.mp hd with e | e
    · rw [e]; exact h.1
    · exact ih h.2 e
theorem plain_tup {l : List D} (h : plainD (.tup l) = true) : l.length ≤ sizeLine ∧ plainL l = true := by
  unfold plainD at h
  rw [Bool.and_eq_true] at h
  exact ⟨Nat.le_of_ble_eq_true h.1, h.2⟩
end
theorem fit_in {n : Nat} {l : List D} (h : fitL n l = true) : ∀ d, d ∈ l → fitD n d = true := fun d hd => by
  induction l with
  | nil => cases hd
  | cons c l ih =>
    unfold fitL at h
    rw [Bool.and_eq_true] at h
    rcases List.mem_cons.mp hd with e | e
    · rw [e]; exact h.1
    · exact ih h.2 e
theorem nrmL_map : ∀ {l : List D}, nrmL l = l.map nrm
  | [] => by unfold nrmL; rfl
  | d :: l => by unfold nrmL; rw [List.map_cons, nrmL_map]
def cTupled (n : Nat) : Spec := fun ds S Φ => ∃ d, ds = [d] ∧ fitD n d = true ∧ Φ (nrm d) S
theorem cTupled_i {n : Nat} {d : D} {S : Sto} {Φ} (h : fitD n d = true) (q : Φ (nrm d) S) : cTupled n [d] S Φ := ⟨d, rfl, h, q⟩
def cPlain1 (f : D → D) : Spec := fun ds S Φ => ∃ d, ds = [d] ∧ plainD d = true ∧ Φ (f d) S
theorem cPlain1_i {f : D → D} {d : D} {S : Sto} {Φ} (h : plainD d = true) (q : Φ (f d) S) : cPlain1 f [d] S Φ := ⟨d, rfl, h, q⟩
def cRowOf : Spec := fun ds S Φ => ∃ d n, ds = [d, .int n, .non] ∧ plainD d = true ∧ Φ (.bl (isLongB d n && areNumB d)) S
theorem cRowOf_i {d : D} {n : Int} {S : Sto} {Φ} (h : plainD d = true) (q : Φ (.bl (isLongB d n && areNumB d)) S) : cRowOf [d, .int n, .non] S Φ := ⟨d, n, rfl, h, q⟩
/-- an argument that is a deed, as it is or with a list in the tuple's place -/
def IsDeed (d : D) (x y z : Int) : Prop := d = t3 x y z
def cSureDeed : Spec := fun ds S Φ => ∃ x y z, ds = [t3 x y z] ∧ Φ (t3 x y z) S
theorem cSureDeed_i {x y z : Int} {S : Sto} {Φ} (q : Φ (t3 x y z) S) : cSureDeed [t3 x y z] S Φ := ⟨x, y, z, rfl, q⟩
def cSureNumber : Spec := fun ds S Φ => ∃ x, ds = [.int x] ∧ Φ (.int x) S
theorem cSureNumber_i {x : Int} {S : Sto} {Φ} (q : Φ (.int x) S) : cSureNumber [.int x] S Φ := ⟨x, rfl, q⟩
/-! deeds -/
abbrev fJoin (x y z p q s : Int) : D := t3 (x + p) (y + q) (z + s + x * q)
abbrev fUndo (x y z : Int) : D := t3 (-x) (-y) (x * y - z)
abbrev fTimes (x y z k : Int) : D := t3 (k * x) (k * y) (k * z + k * (k - 1) / 2 * x * y)
abbrev fCross (x y _z p q _s : Int) : D := .int (x * q - y * p)
abbrev fTrip (x y _z p q _s : Int) : D := t3 0 0 (x * q - y * p)
abbrev fLed (x y z p q _s : Int) : D := t3 x y (z + (p * y - q * x))
abbrev fSteps (x y z p q s : Int) : D := t3 (-x + p) (-y + q) (x * y - z + s + -x * q)
abbrev fTilt (x y z : Int) : D := .int (2 * z - x * y)
abbrev fMir (x y z : Int) : D := t3 (-x) y (-z)
abbrev fRead (x y z : Int) : D := t3 x y (x * y - z)
def cD1 (N : Nat) (f : Int → Int → Int → D) : Spec := fun ds S Φ => ∃ x y z, ds = [t3 x y z] ∧ (Bd N x ∧ Bd N y ∧ Bd N z) ∧ Φ (f x y z) S
theorem cD1_i {N : Nat} {f : Int → Int → Int → D} {x y z : Int} {S : Sto} {Φ} (h1 : Bd N x) (h2 : Bd N y) (h3 : Bd N z) (q : Φ (f x y z) S) : cD1 N f [t3 x y z] S Φ := ⟨x, y, z, rfl, ⟨h1, h2, h3⟩, q⟩
def cD2 (N : Nat) (f : Int → Int → Int → Int → Int → Int → D) : Spec := fun ds S Φ => ∃ x y z p q s, ds = [t3 x y z, t3 p q s] ∧ (Bd N x ∧ Bd N y ∧ Bd N z) ∧ (Bd N p ∧ Bd N q ∧ Bd N s) ∧ Φ (f x y z p q s) S
theorem cD2_i {N : Nat} {f : Int → Int → Int → Int → Int → Int → D} {x y z p q s : Int} {S : Sto} {Φ} (h1 : Bd N x) (h2 : Bd N y) (h3 : Bd N z) (h4 : Bd N p) (h5 : Bd N q) (h6 : Bd N s) (k : Φ (f x y z p q s) S) : cD2 N f [t3 x y z, t3 p q s] S Φ := ⟨x, y, z, p, q, s, rfl, ⟨h1, h2, h3⟩, ⟨h4, h5, h6⟩, k⟩
def cDI (N : Nat) (f : Int → Int → Int → Int → D) : Spec := fun ds S Φ => ∃ x y z k, ds = [t3 x y z, .int k] ∧ (Bd N x ∧ Bd N y ∧ Bd N z) ∧ Bd N k ∧ Φ (f x y z k) S
theorem cDI_i {N : Nat} {f : Int → Int → Int → Int → D} {x y z k : Int} {S : Sto} {Φ} (h1 : Bd N x) (h2 : Bd N y) (h3 : Bd N z) (h4 : Bd N k) (q : Φ (f x y z k) S) : cDI N f [t3 x y z, .int k] S Φ := ⟨x, y, z, k, rfl, ⟨h1, h2, h3⟩, h4, q⟩
def cI1 (N : Nat) (f : Int → D) : Spec := fun ds S Φ => ∃ k, ds = [.int k] ∧ Bd N k ∧ Φ (f k) S
theorem cI1_i {N : Nat} {f : Int → D} {k : Int} {S : Sto} {Φ} (h4 : Bd N k) (q : Φ (f k) S) : cI1 N f [.int k] S Φ := ⟨k, rfl, h4, q⟩
end Ar
namespace Ar
open PySem PySem.Spec PyProof.Rows L2
/-! ### deeds in rows -/
abbrev T3 := Int × Int × Int
abbrev d3 (t : T3) : D := t3 t.1 t.2.1 t.2.2
def Bd3 (N : Nat) (t : T3) : Prop := Bd N t.1 ∧ Bd N t.2.1 ∧ Bd N t.2.2
abbrev joinT (t u : T3) : T3 := (t.1 + u.1, t.2.1 + u.2.1, t.2.2 + u.2.2 + t.1 * u.2.1)
def cAllJoined : Spec := fun ds S Φ => ∃ l : List T3, ds = [.tup (l.map d3)] ∧ l.length ≤ 1000 ∧ (∀ t, t ∈ l → Bd3 1200 t) ∧ Φ (d3 (l.foldl joinT (0, 0, 0))) S
theorem cAllJoined_i {ds : List D} {S : Sto} {Φ} (l : List T3) (e : ds = l.map d3) (hl : l.length ≤ 1000) (h : ∀ t, t ∈ l → Bd3 1200 t) (q : Φ (d3 (l.foldl joinT (0, 0, 0))) S) : cAllJoined [.tup ds] S Φ := ⟨l, by rw [e], hl, h, q⟩
def cSureDeeds : Spec := fun ds S Φ => ∃ l : List T3, ds = [.tup (l.map d3)] ∧ l.length ≤ 1000 ∧ Φ (.tup (l.map d3)) S
theorem cSureDeeds_i {S : Sto} {Φ} (l : List T3) (hl : l.length ≤ 1000) (q : Φ (.tup (l.map d3)) S) : cSureDeeds [.tup (l.map d3)] S Φ := ⟨l, rfl, hl, q⟩
theorem nrm_t3 {x y z : Int} : nrm (t3 x y z) = t3 x y z := by
  simp [nrm, nrmL]
theorem nrm_d3s : ∀ l : List T3, nrmL (l.map d3) = l.map d3
  | [] => by simp [nrmL]
  | t :: l => by
    rw [List.map_cons]
    unfold nrmL
    rw [nrm_d3s l]
    rw [show nrm (d3 t) = d3 t from nrm_t3]
theorem fit_d3s : ∀ l : List T3, fitL 1 (l.map d3) = true
  | [] => by simp [fitL]
  | t :: l => by
    rw [List.map_cons]
    unfold fitL
    rw [fit_d3s l]
    rfl
theorem plain_d3s : ∀ l : List T3, plainL (l.map d3) = true
  | [] => by simp [plainL]
  | t :: l => by
    rw [List.map_cons]
    unfold plainL
    rw [plain_d3s l]
    rfl
theorem le_line {n m : Nat} (h : n ≤ m) (k : Nat.ble m 1000000 = true) : n ≤ sizeLine := by
  have := Nat.le_of_ble_eq_true k
  have e : sizeLine = sizeLine := rfl
  unfold sizeLine
  omega
def turnN : Nat → T3 → T3
  | 0, t => t
  | n + 1, t => turnN n (-t.2.1, t.1, t.2.2 - t.1 * t.2.1)
abbrev fTurn (x y z k : Int) : D := d3 (turnN (k % 4).toNat (x, y, z))
/-! ### words -/
abbrev ch (c : Nat) : D := .str ⟨#[c]⟩
abbrev wd (cs : List Nat) : Str := ⟨cs.toArray⟩
def Ltr (c : Nat) : Prop := c = 114 ∨ c = 117 ∨ c = 108 ∨ c = 100
def LetW (cs : List Nat) : Prop := ∀ c, c ∈ cs → Ltr c
theorem chars_wd (cs : List Nat) : charsD (wd cs) = cs.map ch := by
  unfold charsD
  simp
def dx (c : Nat) : Int := if c = 114 then 1 else if c = 108 then -1 else 0
def dy (c : Nat) : Int := if c = 117 then 1 else if c = 100 then -1 else 0
def doW : List Nat → T3 → T3
  | [], t => t
  | c :: cs, t => doW cs (t.1 + dx c, t.2.1 + dy c, t.2.2 + t.1 * dy c)
def stepF (z : Str) : Option D := match z.cps.toList with
  | [114] => some (.tup [.int 1, .int 0])
  | [117] => some (.tup [.int 0, .int 1])
  | [108] => some (.tup [.int (-1), .int 0])
  | [100] => some (.tup [.int 0, .int (-1)])
  | _ => none
def cRoute (f : List Nat → D) : Spec := fun ds S Φ => ∃ cs, ds = [.str (wd cs)] ∧ LetW cs ∧ cs.length ≤ 1000 ∧ Φ (f cs) S
theorem cRoute_i {f : List Nat → D} {cs : List Nat} {S : Sto} {Φ} (h : LetW cs) (hl : cs.length ≤ 1000) (q : Φ (f cs) S) : cRoute f [.str (wd cs)] S Φ := ⟨cs, rfl, h, hl, q⟩
def cRoute2 (f : List Nat → List Nat → D) : Spec := fun ds S Φ => ∃ cs es, ds = [.str (wd cs), .str (wd es)] ∧ (LetW cs ∧ cs.length ≤ 1000) ∧ (LetW es ∧ es.length ≤ 1000) ∧ Φ (f cs es) S
theorem cRoute2_i {f : List Nat → List Nat → D} {cs es : List Nat} {S : Sto} {Φ} (h : LetW cs) (hl : cs.length ≤ 1000) (h2 : LetW es) (hl2 : es.length ≤ 1000) (q : Φ (f cs es) S) : cRoute2 f [.str (wd cs), .str (wd es)] S Φ := ⟨cs, es, rfl, ⟨h, hl⟩, ⟨h2, hl2⟩, q⟩
theorem LetW.tail {c : Nat} {cs : List Nat} (h : LetW (c :: cs)) : LetW cs := fun d hd => h d (List.mem_cons_of_mem _ hd)
theorem LetW.head {c : Nat} {cs : List Nat} (h : LetW (c :: cs)) : Ltr c := h c List.mem_cons_self
/-! ### the law's draws -/
/-- the source of draws: at most b drawn -/
def Tin (b : Nat) (l : List D) : Prop := ∃ a q c : Int, l = [.int a, .int q, .int c] ∧ 0 ≤ a ∧ 0 ≤ q ∧ Bd 80 q ∧ 0 ≤ c ∧ c ≤ b
theorem Bd.nat {b : Nat} {c : Int} (h0 : 0 ≤ c) (h : c ≤ b) (k : b ≤ 1000000000) : Bd 30 c := by
  constructor
  have e : (2 : Nat) ^ 30 = 1073741824 := rfl
  omega
def cTake : Spec := fun ds S Φ => ∃ p b l R n, ds = [.cell p, .int n] ∧ S = (p, l) :: R ∧ Tin b l ∧ b ≤ 1000000000 ∧ 0 < n ∧ Bd 8000 n ∧ ∀ r l', 0 ≤ r → r < n → Tin (b + 1) l' → Φ (.int r) ((p, l') :: R)
theorem cTake_i {p : Addr} {b : Nat} {l : List D} {R : Sto} {n : Int} {Φ} (h : Tin b l) (hb : b ≤ 1000000000) (h0 : 0 < n) (h1 : Bd 8000 n) (q : ∀ r l', 0 ≤ r → r < n → Tin (b + 1) l' → Φ (.int r) ((p, l') :: R)) : cTake [.cell p, .int n] ((p, l) :: R) Φ := ⟨p, b, l, R, n, rfl, rfl, h, hb, h0, h1, q⟩
section
variable {X : Cx} {ρ : Ro} {S : Sto} {pos tpos : Pos} {e o i : Expr} {E : DEnds}
theorem ds_storeH (hs : swapsWithSole [.Subscript o i tpos] e pos.line X.env = pure false) (hw : swappedStores [.Subscript o i tpos] e X.env = pure none) (h1 : (assignEach [.Subscript o i tpos] X.env).map (·.2) = [assign (.Subscript o i tpos) X.env])
    (ha : ∀ v, assign (.Subscript o i tpos) X.env v = (do
      let ov ← holding [v] (eval o X.env)
      let iv ← holding [v, ov] (eval i X.env)
      standAt tpos
      holding [v, ov, iv] (setItem ov iv v)
      release [v, ov, iv] []))
    (h : DE X e ρ S fun d S1 => DE X o ρ S1 fun c S2 => DE X i ρ S2 fun j S3 => ∃ p l B n m, c = .cell p ∧ S3 = (p, l) :: B ∧ j = .int n ∧ ixN l.length n = some m ∧ E.nx ρ ((p, l.set m d) :: B)) : DS X (.Assign [.Subscript o i tpos] e pos) ρ S E :=
  ds_store hs hw h1 ha (h.mono fun d S1 h => h.mono fun c S2 h => h.mono fun j S3 ⟨p, l, B, n, m, e1, e2, e3, e4, q⟩ => ⟨p, [], l, B, n, m, e1, e2, e3, e4, q⟩)
end
theorem Bd.ofBool {c : Bool} : Bd 64 (if c = true then 1 else 0) := by
  cases c <;> exact Bd.lit rfl
def cBoxN : SpecN := fun ds S Φ => ∃ (is : List Int) (k : Int), ds = [.lst (is.map D.int), .int k] ∧ 0 ≤ k ∧ k < 100 ∧ is.length ≤ 100 ∧ ∀ l', Tin 0 l' → Φ l' S
def cCells : Spec := fun ds S Φ => ∃ (is : List Int) (n : Int), ds = [.frz (is.map D.int), .int n] ∧ 0 < n ∧ n < 64 ∧ is.length ≤ 63 ∧ ∀ js : List Int, js.length ≤ 63 → Φ (.lst (js.map D.int)) S
def cOf : Spec := fun ds S Φ => ∃ p b l R g n, ds = [.cell p, g] ∧ S = (p, l) :: R ∧ Tin b l ∧ b ≤ 1000000000 ∧ OkC [] g ∧ LenD [] g n ∧ 0 < n ∧ n < 1000000 ∧ ∀ (r : Int) l', 0 ≤ r → r < n → Tin (b + 1) l' → ∃ e, IxD [] g (.int r) e ∧ Φ e ((p, l') :: R)
def cWhole : Spec := fun ds S Φ => ∃ p b l R n, ds = [.cell p, .int n] ∧ S = (p, l) :: R ∧ Tin b l ∧ b ≤ 1000000 ∧ 0 ≤ n ∧ Bd 1000 n ∧ ∀ r l', Bd 1100 r → (n < 100000000 → -n ≤ r ∧ r ≤ n) → Tin (b + 2) l' → Φ (.int r) ((p, l') :: R)
theorem cWhole_i {p : Addr} {b : Nat} {l : List D} {R : Sto} {n : Int} {Φ} (h : Tin b l) (hb : b ≤ 1000000) (h0 : 0 ≤ n) (h1 : Bd 1000 n) (q : ∀ r l', Bd 1100 r → (n < 100000000 → -n ≤ r ∧ r ≤ n) → Tin (b + 2) l' → Φ (.int r) ((p, l') :: R)) : cWhole [.cell p, .int n] ((p, l) :: R) Φ := ⟨p, b, l, R, n, rfl, rfl, h, hb, h0, h1, q⟩
def cDeed : Spec := fun ds S Φ => ∃ p b l R n, ds = [.cell p, .int n] ∧ S = (p, l) :: R ∧ Tin b l ∧ b ≤ 100000 ∧ 0 ≤ n ∧ Bd 1000 n ∧ ∀ x y z l', Bd 1100 x → Bd 1100 y → Bd 1100 z → Tin (b + 6) l' → Φ (t3 x y z) ((p, l') :: R)
theorem cDeed_i {p : Addr} {b : Nat} {l : List D} {R : Sto} {n : Int} {Φ} (h : Tin b l) (hb : b ≤ 100000) (h0 : 0 ≤ n) (h1 : Bd 1000 n) (q : ∀ x y z l', Bd 1100 x → Bd 1100 y → Bd 1100 z → Tin (b + 6) l' → Φ (t3 x y z) ((p, l') :: R)) : cDeed [.cell p, .int n] ((p, l) :: R) Φ := ⟨p, b, l, R, n, rfl, rfl, h, hb, h0, h1, q⟩
def cWord : Spec := fun ds S Φ => ∃ p b l R n, ds = [.cell p, .int n] ∧ S = (p, l) :: R ∧ Tin b l ∧ b ≤ 100000 ∧ 0 ≤ n ∧ n ≤ 1000 ∧ ∀ cs l', LetW cs → (cs.length : Int) = n → Tin (b + n.toNat) l' → Φ (.str (wd cs)) ((p, l') :: R)
mutual
def noFrz : D → Bool
  | .frz _ => false
  | .tup l => noFrzL l
  | .lst l => noFrzL l
  | _ => true
def noFrzL : List D → Bool
  | [] => true
  | d :: l => noFrz d && noFrzL l
end
def cSame (n : Nat) : Spec := fun ds S Φ => ∃ d, ds = [d, d] ∧ fitD n d = true ∧ noFrz d = true ∧ Φ (.bl true) S
theorem cSame_i {n : Nat} {d d' : D} {S : Sto} {Φ} (e : d = d') (h : fitD n d = true) (h2 : noFrz d = true) (q : Φ (.bl true) S) : cSame n [d, d'] S Φ := ⟨d, by rw [e], h, h2, q⟩
section
variable {X : Cx} {ρ : Ro} {S : Sto} {Φ : D → Sto → Prop} {P : Program} {w : World} {K : PySem.W.Frag} {mg : Str → Option Value} {base : Heap} {tb : List (Str × Nat)} {names : List (Str × NameKind)} {k : Nat}
theorem eqv_t3 {x y z p q s : Int} : PyData.eqv (toPy (t3 x y z)) (toPy (t3 p q s)) = decide ((x, y, z) = (p, q, s)) := by
  simp only [toPy, toPyL, PyData.eqv, PyData.eqvAll]
  by_cases h1 : x = p <;> by_cases h2 : y = q <;> by_cases h3 : z = s <;> simp [h1, h2, h3]
theorem do_eqT3 {x y z p q s : Int} (A : At X P w K mg base tb names k) (h : Φ (.bl (decide ((x, y, z) = (p, q, s)))) S) : DO X (compareOp .Eq) (t3 x y z) (t3 p q s) S Φ := do_eqD A rfl (by rw [eqv_t3]; exact h)
/-- a written list against [] -/
theorem do_neNil {c : Addr} (A : At X P w K mg base tb names k) (h : ∃ l, (c, l) ∈ S ∧ eqOk (.lst l) = true ∧ Φ (.bl (!l.isEmpty)) S) : DO X (compareOp .NotEq) (.cell c) (.lst []) S Φ := by
  obtain ⟨l, hm, he, q⟩ := h
  refine do_neC A ⟨l, hm, by rw [he]; rfl, ?_⟩
  have e : PyData.eqv (toPy (.lst l)) (toPy (.lst [])) = l.isEmpty := by
    cases l with
    | nil => simp [toPy, toPyL, PyData.eqv, PyData.eqvAll]
    | cons d l => simp [toPy, toPyL, PyData.eqv, PyData.eqvAll]
  rw [e]
  exact q
end
theorem ltr_ruld {c : Nat} (h : Ltr c) : decide (c ∈ (Str.ofString "ruld").cps.toList) = true := by
  rcases h with rfl | rfl | rfl | rfl <;> rfl
/-! ### runs -/
abbrev Run := Nat × Int
abbrev rn (r : Run) : D := .tup [ch r.1, .int r.2]
abbrev sRun (a b : Nat) (m : Int) : Run := (if 0 ≤ m then a else b, if 0 ≤ m then m else -m)
def runTog : List Run → List Run → List Run
  | acc, [] => acc
  | acc, r :: l => if 0 < r.2 then (match acc.getLast? with
      | some u => if u.1 = r.1 then runTog (acc.dropLast ++ [(r.1, u.2 + r.2)]) l else runTog (acc ++ [r]) l
      | none => runTog (acc ++ [r]) l) else runTog acc l
def doR : List Run → T3 → T3
  | [], t => t
  | r :: l, t => doR l (t.1 + dx r.1 * r.2, t.2.1 + dy r.1 * r.2, t.2.2 + t.1 * dy r.1 * r.2)
def LetR (l : List Run) : Prop := ∀ r, r ∈ l → Ltr r.1
/-- good runs: at most 200, letters, positive, neighbours unlike -/
def GoodR (l : List Run) : Prop := l.length ≤ 200 ∧ (∀ r, r ∈ l → Ltr r.1 ∧ 0 < r.2) ∧ ∀ i r u, l[i]? = some r → l[i + 1]? = some u → r.1 ≠ u.1
def cSigned : Spec := fun ds S Φ => ∃ a b m, ds = [.str ⟨#[a, b]⟩, .int m] ∧ Φ (rn (sRun a b m)) S
def cTogether : Spec := fun ds S Φ => ∃ l : List Run, ds = [.lst (l.map rn)] ∧ l.length ≤ 100 ∧ LetR l ∧ Φ (.tup ((runTog [] l).map rn)) S
def cByRuns : Spec := fun ds S Φ => ∃ l : List Run, ds = [.tup (l.map rn)] ∧ l.length ≤ 200 ∧ (∀ r, r ∈ l → Ltr r.1 ∧ Bd 2000 r.2) ∧ Φ (d3 (doR l (0, 0, 0))) S
def cGoodR (f : List Run → D) : Spec := fun ds S Φ => ∃ l : List Run, ds = [.tup (l.map rn)] ∧ GoodR l ∧ (∀ r, r ∈ l → Bd 2000 r.2) ∧ Φ (f l) S
def rowsOf (x y z : Int) : List Run := [sRun 117 100 y, sRun 114 108 x] ++ (if z ≠ 0 then [(114, 1), sRun 117 100 z, (108, 1), sRun 100 117 z] else [])
theorem runTog_skip {acc : List Run} {r : Run} {l : List Run} (h : ¬ 0 < r.2) : runTog acc (r :: l) = runTog acc l := by
  rw [runTog, if_neg h]
theorem runTog_nil {r : Run} {l : List Run} (h : 0 < r.2) : runTog [] (r :: l) = runTog [r] l := by
  rw [runTog, if_pos h]
  rfl
theorem runTog_eq {ini : List Run} {u r : Run} {l : List Run} (h : 0 < r.2) (e : u.1 = r.1) : runTog (ini ++ [u]) (r :: l) = runTog (ini ++ [(r.1, u.2 + r.2)]) l := by
  rw [runTog, if_pos h, List.getLast?_concat]
  simp only [e, if_true, List.dropLast_concat]
theorem runTog_ne {ini : List Run} {u r : Run} {l : List Run} (h : 0 < r.2) (e : u.1 ≠ r.1) : runTog (ini ++ [u]) (r :: l) = runTog (ini ++ [u] ++ [r]) l := by
  rw [runTog, if_pos h, List.getLast?_concat]
  simp only [e, if_false]
theorem ixN_last {α : Type} {ini : List α} {u : α} : ixN (ini ++ [u]).length (-1) = some ini.length := by
  unfold ixN
  rw [List.length_append, List.length_singleton, if_neg (by omega), if_pos (by omega)]
  congr 1
  omega
theorem atI_last {α : Type} {ini : List α} {u : α} : atI (ini ++ [u]) (-1) = some u := by
  unfold atI
  rw [ixN_last]
  show (ini ++ [u])[ini.length]? = some u
  rw [List.getElem?_append_right (Nat.le_refl _), Nat.sub_self]
  rfl
theorem set_last {α : Type} {ini : List α} {u v : α} : (ini ++ [u]).set ini.length v = ini ++ [v] := by
  rw [List.set_append_right _ _ (Nat.le_refl _), Nat.sub_self]
  rfl
theorem ltr_small {c : Nat} (h : Ltr c) : decide (c < 0x110000) = true := by
  rcases h with rfl | rfl | rfl | rfl <;> rfl
theorem runs_plain : ∀ {l : List Run}, plainL (l.map rn) = true
  | [] => by simp [plainL]
  | r :: l => by
    rw [List.map_cons]
    unfold plainL
    rw [runs_plain (l := l)]
    rfl
theorem runs_lay : ∀ {l : List Run}, LetR l → PyData.canLayAll0 (toPyL (l.map rn)) = true
  | [], _ => by simp [toPyL, PyData.canLayAll0]
  | r :: l, h => by
    rw [List.map_cons]
    have h1 := ltr_small (h r List.mem_cons_self)
    have h2 := runs_lay (l := l) fun u hu => h u (List.mem_cons_of_mem _ hu)
    simp only [toPyL, PyData.canLayAll0, h2, Bool.and_true]
    show PyData.canLay0 (toPy (rn r)) = true
    have h3 := of_decide_eq_true h1
    simp [toPy, toPyL, PyData.canLay0, PyData.canLayAll0, PyData.strOk, h3]
theorem runs_depth : ∀ {l : List Run}, PyData.depthAll (toPyL (l.map rn)) ≤ 1
  | [] => by simp [toPyL, PyData.depthAll]
  | r :: l => by
    have h := runs_depth (l := l)
    rw [List.map_cons]
    simp only [toPyL, PyData.depthAll]
    have e : PyData.depth (toPy (rn r)) = 1 := by simp [toPy, toPyL, PyData.depth, PyData.depthAll]
    rw [e]
    omega
theorem runs_ok {l : List Run} (h : LetR l) (hl : l.length ≤ 1000) : eqOk (.lst (l.map rn)) = true := by
  unfold eqOk
  rw [Bool.and_eq_true]
  constructor
  · unfold plainD
    rw [runs_plain, Bool.and_true]
    exact Nat.ble_eq.mpr (le_line (m := 1000) (by rw [List.length_map]; exact hl) rfl)
  · unfold SeqAt.shaped
    rw [Bool.and_eq_true]
    constructor
    · show PyData.canLayAll0 (toPyL (l.map rn)) = true
      exact runs_lay h
    · have := runs_depth (l := l)
      refine decide_eq_true ?_
      show PyData.depthAll (toPyL (l.map rn)) + 1 ≤ 64
      omega
theorem lt_line {n m : Nat} (h : n ≤ m) (k : Nat.ble m 1000000 = true) : n < sizeLine := by
  have := Nat.le_of_ble_eq_true k
  unfold sizeLine
  omega
theorem len_and {n : Nat} {B : Prop} (h : n < sizeLine) (q : B) : n < sizeLine ∧ B := ⟨h, q⟩
theorem le_and {n : Nat} {B : Prop} (h : n ≤ sizeLine) (q : B) : n ≤ sizeLine ∧ B := ⟨h, q⟩
theorem nil_or_last {α : Type} (l : List α) : l = [] ∨ ∃ ini u, l = ini ++ [u] := by
  cases l with
  | nil => exact .inl rfl
  | cons a l => exact .inr ⟨_, _, (List.dropLast_concat_getLast (List.cons_ne_nil a l)).symm⟩
theorem Bd.add2 {n : Nat} {x y : Int} (h : Bd n x) (k : Bd n y) : Bd (n + 1) (x + y) := by
  have z := h.add k
  rw [Nat.max_self] at z
  exact z
theorem Bd.dxm {n c : Nat} {k : Int} (h : Ltr c) (b : Bd n k) : Bd n (dx c * k) := by
  rcases h with rfl | rfl | rfl | rfl
  · show Bd n (1 * k)
    rw [Int.one_mul]
    exact b
  · show Bd n (0 * k)
    rw [Int.zero_mul]
    exact ⟨Nat.pow_pos (by decide)⟩
  · show Bd n (-1 * k)
    rw [Int.neg_one_mul]
    exact b.neg
  · show Bd n (0 * k)
    rw [Int.zero_mul]
    exact ⟨Nat.pow_pos (by decide)⟩
/-- a written list is read only from here on -/
theorem Ev.freeze {K : PySem.W.Frag} {Zh : List Addr} {H : Hp} {σ : L2.St} {ρ : Ro} {A B : Sto} {c : Addr} {l : List D} {i : Nat} (E : Ev K Zh H σ ρ (A ++ (c, l) :: B)) (h : ρ[i]? = some (some (.cell c))) : Ev K Zh H σ (ρ.set i (some (.lst l))) (A ++ B) := by
  have kk : keys (A ++ (c, l) :: B) = keys A ++ c :: keys B := by rw [keys_append]; rfl
  have sub : ∀ p, p ∈ keys (A ++ B) ++ Zh → p ∈ keys (A ++ (c, l) :: B) ++ Zh := fun p m => by
    rw [kk]
    rw [keys_append] at m
    rcases List.mem_append.mp m with m | m
    · rcases List.mem_append.mp m with m | m
      · exact List.mem_append_left _ (List.mem_append_left _ m)
      · exact List.mem_append_left _ (List.mem_append_right _ (List.mem_cons_of_mem _ m))
    · exact List.mem_append_right _ m
  have nd := E.st.nd
  rw [kk, List.nodup_append] at nd
  obtain ⟨n1, n2, n3⟩ := nd
  have n4 : c ∉ keys B ∧ (keys B).Nodup := List.nodup_cons.mp n2
  have hin : (c, l) ∈ A ++ (c, l) :: B := List.mem_append_right _ List.mem_cons_self
  refine ⟨⟨?_, fun p m hm => ?_, fun p hp => ?_⟩, by rw [List.length_set]; exact E.len, fun j d hj => ?_⟩
  · rw [keys_append, List.nodup_append]
    exact ⟨n1, n4.2, fun a ha b hb => n3 a ha b (List.mem_cons_of_mem _ hb)⟩
  · obtain ⟨vs, a, b⟩ := E.st.st p m (by
      rcases List.mem_append.mp hm with q | q
      · exact List.mem_append_left _ q
      · exact List.mem_append_right _ (List.mem_cons_of_mem _ q))
    exact ⟨vs, a, b.shrink sub⟩
  · obtain ⟨n, vs, e⟩ := E.st.hid p hp
    refine ⟨fun m => n ?_, vs, e⟩
    rw [keys_append] at m
    rw [kk]
    rcases List.mem_append.mp m with m | m
    · exact List.mem_append_left _ m
    · exact List.mem_append_right _ (List.mem_cons_of_mem _ m)
  · by_cases e : i = j
    · subst e
      obtain ⟨v, ev, rv⟩ := E.var i _ h
      have hl : i < ρ.length := (List.getElem?_eq_some_iff.mp h).1
      rw [List.getElem?_set_self hl] at hj
      cases hj
      refine ⟨v, ev, ?_⟩
      rw [rv.cell]
      obtain ⟨vs, a, b⟩ := E.st.st c l hin
      unfold Rep
      refine ⟨c, vs, rfl, fun m => ?_, a, b.shrink sub⟩
      rcases List.mem_append.mp m with m | m
      · rw [keys_append] at m
        rcases List.mem_append.mp m with m | m
        · exact n3 c m c List.mem_cons_self rfl
        · exact n4.1 m
      · exact (E.st.hid c m).1 (by rw [kk]; exact List.mem_append_right _ List.mem_cons_self)
    · rw [List.getElem?_set_ne e] at hj
      obtain ⟨v, ev, rv⟩ := E.var j d hj
      exact ⟨v, ev, rv.shrink sub⟩
theorem dss_freeze {X : Cx} {sts : List Stmt} {ρ : Ro} {A B : Sto} {c : Addr} {l : List D} {E : DEnds} (i : Nat) (h : ρ[i]? = some (some (.cell c))) (q : DSs X sts (ρ.set i (some (.lst l))) (A ++ B) E) : DSs X sts ρ (A ++ (c, l) :: B) E := fun Zh pins s σ H Dn I ev k => by
  have st : Step (A ++ (c, l) :: B) H (A ++ B) H := ⟨Grow.refl, fun p m => .inl (by
    rw [keys_append] at m ⊢
    rcases List.mem_append.mp m with m | m
    · exact List.mem_append_left _ m
    · exact List.mem_append_right _ (List.mem_cons_of_mem _ m))⟩
  exact q Zh pins s σ H Dn I (ev.freeze h) (k.next st)
theorem stepF_ltr {c : Nat} (h : Ltr c) : stepF ⟨#[c]⟩ = some (.tup [.int (dx c), .int (dy c)]) := by
  rcases h with rfl | rfl | rfl | rfl <;> rfl
theorem bd_dx {c : Nat} (h : Ltr c) : Bd 64 (dx c) := by
  rcases h with rfl | rfl | rfl | rfl <;> exact Bd.lit rfl
theorem bd_dy {c : Nat} (h : Ltr c) : Bd 64 (dy c) := by
  rcases h with rfl | rfl | rfl | rfl <;> exact Bd.lit rfl
theorem cut1 {α : Type} {f : α → D} {l : List α} : cutD (l.map f) (some 1) none = (l.drop 1).map f := by
  unfold cutD
  rw [← List.map_drop]
  cases l with
  | nil => simp [HT.sIx]
  | cons a l =>
    have e : HT.sIx (List.map f (a :: l)).length 0 (some 1) = 1 := by
      simp [HT.sIx]
    have e2 : HT.sIx (List.map f (a :: l)).length (List.map f (a :: l)).length none = (List.map f (a :: l)).length := rfl
    rw [e, e2, List.drop_one, List.length_map, List.length_cons, Nat.add_sub_cancel]
    show List.take l.length (l.map f) = l.map f
    exact List.take_of_length_le (by rw [List.length_map]; exact Nat.le_refl _)
theorem zip_next {f : Run → D} : ∀ {l : List Run} {d : D}, d ∈ zipD (l.map f) ((l.drop 1).map f) → ∃ i r u, l[i]? = some r ∧ l[i + 1]? = some u ∧ d = .tup [f r, f u]
  | [], d, h => by cases h
  | [a], d, h => by cases h
  | a :: b :: l, d, h => by
    have h2 : d = .tup [f a, f b] ∨ d ∈ zipD ((b :: l).map f) (((b :: l).drop 1).map f) := List.mem_cons.mp h
    rcases h2 with e | h2
    · exact ⟨0, a, b, rfl, rfl, e⟩
    · obtain ⟨i, r, u, h3, h4, h5⟩ := zip_next h2
      exact ⟨i + 1, r, u, h3, h4, h5⟩
theorem dss_box {X : Cx} {st : Stmt} {sts : List Stmt} {ρ : Ro} {S : Sto} {E : DEnds} (h : DS X st ρ S { E with nx := fun r s => Box (DSs X sts r s E) }) : DSs X (st :: sts) ρ S E :=
  ds_cons (h.mono (fun _ _ z => z.get) (fun _ _ z => z) (fun _ _ z => z) (fun _ _ z => z))
theorem nrm_runs : ∀ l : List Run, nrmL (l.map rn) = l.map rn
  | [] => by simp [nrmL]
  | t :: l => by
    rw [List.map_cons]
    unfold nrmL
    rw [nrm_runs l]
    rw [show nrm (rn t) = rn t by simp [nrm, nrmL]]
theorem fit_runs : ∀ l : List Run, fitL 1 (l.map rn) = true
  | [] => by simp [fitL]
  | t :: l => by
    rw [List.map_cons]
    unfold fitL
    rw [fit_runs l]
    rfl
theorem runs_plainT {l : List Run} (h : l.length ≤ 1000) : plainD (.tup (l.map rn)) = true := by
  unfold plainD
  rw [runs_plain, Bool.and_true]
  exact Nat.ble_eq.mpr (le_line (m := 1000) (by rw [List.length_map]; exact h) rfl)
theorem ltr_sRun {a b : Nat} {m : Int} (ha : Ltr a) (hb : Ltr b) : Ltr (sRun a b m).1 := by
  show Ltr (if 0 ≤ m then a else b)
  split
  · exact ha
  · exact hb
theorem ltr_rows {x y z : Int} : LetR (rowsOf x y z) := by
  have r : Ltr 114 := .inl rfl
  have u : Ltr 117 := .inr (.inl rfl)
  have l : Ltr 108 := .inr (.inr (.inl rfl))
  have d : Ltr 100 := .inr (.inr (.inr rfl))
  unfold rowsOf
  intro t ht
  split at ht
  · simp only [List.cons_append, List.nil_append, List.mem_cons, List.not_mem_nil, or_false] at ht
    rcases ht with rfl | rfl | rfl | rfl | rfl | rfl
    · exact ltr_sRun u d
    · exact ltr_sRun r l
    · exact r
    · exact ltr_sRun u d
    · exact l
    · exact ltr_sRun d u
  · simp only [List.append_nil, List.mem_cons, List.not_mem_nil, or_false] at ht
    rcases ht with rfl | rfl
    · exact ltr_sRun u d
    · exact ltr_sRun r l
theorem rows_len {x y z : Int} : (rowsOf x y z).length ≤ 6 := by
  unfold rowsOf
  split <;> simp
theorem le_line6 {n : Nat} (h : n ≤ 1000000) : n ≤ sizeLine := le_line h rfl
theorem lt_line6 {n : Nat} (h : n ≤ 1000000) : n < sizeLine := lt_line h rfl
section
variable {X : Cx} {S : Sto} {Φ : D → Sto → Prop}
theorem do_p7 (q : Φ (.int 10000000) S) : DO X (binaryOp .Pow) (.int 10) (.int 7) S Φ := do_pow ⟨by decide, by decide, by decide⟩ q
theorem do_p8 (q : Φ (.int 100000000) S) : DO X (binaryOp .Pow) (.int 10) (.int 8) S Φ := do_pow ⟨by decide, by decide, by decide⟩ q
theorem do_p18 (q : Φ (.int 1000000000000000000) S) : DO X (binaryOp .Pow) (.int 10) (.int 18) S Φ := do_pow ⟨by decide, by decide, by decide⟩ q
theorem do_p20 (q : Φ (.int 100000000000000000000) S) : DO X (binaryOp .Pow) (.int 10) (.int 20) S Φ := do_pow ⟨by decide, by decide, by decide⟩ q
theorem do_p29 (q : Φ (.int 100000000000000000000000000000) S) : DO X (binaryOp .Pow) (.int 10) (.int 29) S Φ := do_pow ⟨by decide, by decide, by decide⟩ q
end
theorem Bd.emod {n : Nat} {x y : Int} (h0 : 0 < y) (h : Bd n y) : Bd n (x % y) := Bd.lt2 (Int.emod_nonneg _ (by omega)) (Int.emod_lt_of_pos _ h0) h
theorem LenD.nil {S : Sto} {g : D} {n : Nat} (h : LenD [] g n) : LenD S g n := by
  cases g with
  | cell p =>
    obtain ⟨l, m, _⟩ := h
    cases m
  | _ => exact h
theorem IxD.nil {S : Sto} {g e : D} {i : D} (h : IxD [] g i e) : IxD S g i e := by
  cases i with
  | int i =>
    cases g with
    | cell p =>
      obtain ⟨l, m, _⟩ := h
      cases m
    | _ => exact h
  | _ => cases g <;> exact (show False from h).elim
abbrev fLead (x y z p q s : Int) : D := t3 (p + x + -p) (q + y + -q) (s + z + p * y + (p * q - s) + (p + x) * -q)
theorem str_one {c : Nat} {cs : List Nat} : (⟨#[c]⟩ : Str) ++ wd cs = wd (c :: cs) := by
  show (⟨#[c] ++ cs.toArray⟩ : Str) = _
  congr 1
  simp
theorem str_nil {x : Str} : x ++ (Str.ofString "") = x := by
  obtain ⟨a⟩ := x
  show (⟨a ++ (Str.ofString "").cps⟩ : Str) = _
  have e : (Str.ofString "").cps = #[] := by rfl
  rw [e, Array.append_empty]
theorem sjoin_wd : ∀ cs : List Nat, Str.join (Str.ofString "") (cs.map fun c => (⟨#[c]⟩ : Str)) = wd cs
  | [] => rfl
  | [c] => rfl
  | c :: d :: cs => by
    show (⟨#[c]⟩ : Str) ++ (Str.ofString "") ++ Str.join (Str.ofString "") ((d :: cs).map fun c => (⟨#[c]⟩ : Str)) = _
    rw [sjoin_wd (d :: cs), str_nil, str_one]
theorem join_wd (cs : List Nat) : Txt.join (Str.ofString "") (cs.map fun c => (⟨#[c]⟩ : Str)) = wd cs := by
  show Builtin.Str.glued (Str.ofString "") _ = _
  rw [StrLaws.glued_eq_join]
  exact sjoin_wd cs
theorem sum_ones : ∀ cs : List Nat, ((cs.map fun c => (⟨#[c]⟩ : Str)).map (·.length)).sum = cs.length
  | [] => rfl
  | c :: cs => by
    have := sum_ones cs
    simp only [List.map_cons, List.sum_cons, List.length_cons, this]
    show 1 + cs.length = cs.length + 1
    omega
theorem zip_self : ∀ {l : List D} {d : D}, d ∈ zipD l l → ∃ x, x ∈ l ∧ d = .tup [x, x]
  | [], d, h => by cases h
  | a :: l, d, h => by
    have h2 : d = .tup [a, a] ∨ d ∈ zipD l l := List.mem_cons.mp h
    rcases h2 with e | h2
    · exact ⟨a, List.mem_cons_self, e⟩
    · obtain ⟨x, h3, h4⟩ := zip_self h2
      exact ⟨x, List.mem_cons_of_mem _ h3, h4⟩
theorem noFrz_in {l : List D} (h : noFrzL l = true) : ∀ d, d ∈ l → noFrz d = true := fun d hd => by
  induction l with
  | nil => cases hd
  | cons c l ih =>
    unfold noFrzL at h
    rw [Bool.and_eq_true] at h
    rcases List.mem_cons.mp hd with e | e
    · rw [e]; exact h.1
    · exact ih h.2 e
theorem all_true {α : Type} (l : List α) : (l.map fun _ => true).all id = true := by
  rw [List.all_map, List.all_eq_true]
  intro t _
  rfl
theorem ds_retCN {X : Cx} {ρ : Ro} {S S0 : Sto} {Φ : List D → Sto → Prop} {e : Expr} {pos : Pos} {nx bk ct : Ro → Sto → Prop} (h : DN X e ρ S fun l S1 => ∀ c, RetC S0 Φ (.cell c) (S1 ++ [(c, l)])) : DS X (.Return (some e) pos) ρ S ⟨nx, RetC S0 Φ, bk, ct⟩ := ds_retCell h
theorem atI_ok {α : Type} {l : List α} {k : Int} (h0 : 0 ≤ k) (h : k < l.length) : ∃ x, l[k.toNat]? = some x ∧ atI l k = some x := by
  have hk : k.toNat < l.length := by omega
  refine ⟨l[k.toNat], List.getElem?_eq_getElem hk, ?_⟩
  unfold atI ixN
  rw [if_pos h0, if_pos h]
  exact List.getElem?_eq_getElem hk
theorem ixN_ok {n : Nat} {k : Int} (h0 : 0 ≤ k) (h : k < n) : ixN n k = some k.toNat := by
  unfold ixN
  rw [if_pos h0, if_pos h]
theorem enum_ints : ∀ {is : List Int} {n : Nat} {d : D}, d ∈ enumD n (is.map D.int) → ∃ (j : Nat) (x : Int), d = .tup [.int (j : Int), .int x] ∧ n ≤ j ∧ j < n + is.length
  | [], n, d, h => by cases h
  | a :: l, n, d, h => by
    have h2 : d = .tup [.int (n : Int), .int a] ∨ d ∈ enumD (n + 1) (l.map D.int) := List.mem_cons.mp h
    rw [List.length_cons]
    rcases h2 with e | h2
    · exact ⟨n, a, e, Nat.le_refl _, by omega⟩
    · obtain ⟨j, x, e, h3, h4⟩ := enum_ints h2
      exact ⟨j, x, e, by omega, by omega⟩
theorem cut_hi {is : List Int} {n : Int} (h : 0 ≤ n) : ∃ js : List Int, cutD (is.map D.int) none (some n) = js.map D.int ∧ js.length = min n.toNat is.length := by
  unfold cutD
  rw [← List.map_drop, ← List.map_take]
  refine ⟨_, rfl, ?_⟩
  have e1 : HT.sIx (is.map D.int).length 0 none = 0 := rfl
  have e2 : HT.sIx (is.map D.int).length (is.map D.int).length (some n) = min n.toNat (is.map D.int).length := by
    show (if n < 0 then _ else _) = _
    rw [if_neg (by omega)]
  rw [e1, e2, List.length_take, List.length_drop, List.length_map]
  omega
theorem cut_mid {is : List Int} {n m : Int} (h : 0 ≤ n) : ∃ js : List Int, cutD (is.map D.int) (some n) (some m) = js.map D.int ∧ js.length ≤ is.length - n.toNat := by
  unfold cutD
  rw [← List.map_drop, ← List.map_take]
  refine ⟨_, rfl, ?_⟩
  have e1 : HT.sIx (is.map D.int).length 0 (some n) = min n.toNat (is.map D.int).length := by
    show (if n < 0 then _ else _) = _
    rw [if_neg (by omega)]
  rw [e1, List.length_take, List.length_drop, List.length_map]
  omega
theorem DN.mono {X : Cx} {ρ : Ro} {S : Sto} {e : Expr} {Φ Ψ : List D → Sto → Prop} (h : DN X e ρ S Φ) (k : ∀ l S1, Φ l S1 → Ψ l S1) : DN X e ρ S Ψ := fun Zh pins s σ H Q I E P => h Zh pins s σ H Q I E fun c vs H' l S' k1 g s1 hc h1 r q => P c vs H' l S' k1 g s1 hc h1 r (k _ _ q)
theorem int_mem {js : List Int} {k : Nat} {d : D} (h : (js.map D.int)[k]? = some d) : ∃ x, d = .int x := by
  rw [List.getElem?_map] at h
  cases e : js[k]? with
  | none => rw [e] at h; cases h
  | some x =>
    rw [e] at h
    exact ⟨x, (Option.some.inj h).symm⟩
end Ar
namespace Ar
open PySem PySem.Spec PyProof.Rows L2
/-! ### text[::-1] -/
theorem pe_revS {X : Cx} {e : Expr} {te : TE} {k : Nat} {p1 p2 p3 pos : Pos} (he : PE X e te) : PE X (.Subscript e (.Slice none none (some (.UnaryOp .USub (.Constant (.int 1) k p1) p2)) p3) pos) (fun σ H Q => te σ H fun x H1 => ∃ z, x = .str z ∧ z.length ≤ sizeLine ∧ Q (.str ⟨z.cps.toList.reverse.toArray⟩) H1) := by
  refine ⟨fun pins s σ H Q I h => ?_⟩
  refine Subscript_ (thn (he.run pins s σ H _ I h) fun v s1 ⟨x, H1, I1, r1, q1⟩ => ?_)
  obtain ⟨z, ex, hz, q⟩ := q1
  subst ex
  obtain ⟨t, rfl⟩ := r1
  have hst : PO X (some (.UnaryOp .USub (.Constant (.int 1) k p1) p2)) (tPart (tUn (rU fun i => .int (-i)) (tC (.int 1)))) := po_some (pe_un un_neg pe_int)
  refine wpAny_Slice (thn (po_none.run pins s1 σ H1 (fun o H2 => o = none ∧ H2 = H1) I1 ⟨rfl, rfl⟩) fun vl s2 ⟨l, H2, I2, pl, el, e2⟩ => ?_)
  subst el e2
  refine thn (po_none.run pins s2 σ H2 (fun o H3 => o = none ∧ H3 = H2) I2 ⟨rfl, rfl⟩) fun vu s3 ⟨u, H3, I3, pu, eu, e3⟩ => ?_
  subst eu e3
  refine thn (hst.run pins s3 σ H3 (fun o H4 => o = some (-1) ∧ H4 = H3) I3 ⟨1, rfl, -1, rfl, rfl, rfl⟩) fun vs s4 ⟨o, H4, I4, ps, eo, e4⟩ => ?_
  subst eo e4
  have I5 : Inv X pins σ H4 { s4 with heap := s4.heap.push { cls := .type "slice", data := .fields #[vl, vu, vs] } } := I4.kept (t' := s4.toks) fun b ob q => Heap.get?_push_of_some _ q
  show wpAny (model X.prog X.w) X.A (subscriptTail e (.Slice none none (some (.UnaryOp .USub (.Constant (.int 1) k p1) p2)) p3) (.str z t) (.ref s4.heap.objs.size)) (EP X pins σ Q) X.xe { s4 with heap := s4.heap.push { cls := .type "slice", data := .fields #[vl, vu, vs] } }
  refine tail_any (ops := [.str z t, .ref s4.heap.objs.size]) (typeIs_str _ _ _) (PySem.F.slot_str_getitem.lookup) ?_ (by with_unfolding_all rfl)
  obtain ⟨l, rfl, hl⟩ := IsPart.raw pl
  obtain ⟨u, rfl, hu⟩ := IsPart.raw pu
  obtain ⟨st, rfl, hs⟩ := IsPart.raw ps
  cases l with
  | some l => cases hl
  | none =>
    cases u with
    | some u => cases hu
    | none =>
      cases st with
      | none => cases hs
      | some st =>
        obtain ⟨i, ti⟩ := st
        have hi : i = -1 := Option.some.inj hs
        subst hi
        obtain ⟨os, hos, hcs, hds⟩ := Heap.IsSliceOf.new s4.heap (partValue none) (partValue none) (partValue (some (-1, ti)))
        refine wpAny_getItem_str_slice (l := none) (u := none) (st := some (-1, ti)) ⟨os, hos, hcs, hds⟩ rfl ?_
        have e1 : (slicePicked z none none (some (-1, ti))).filterMap (z.cps[·]?) = z.cps.toList.reverse := by
          unfold slicePicked
          show (Builtin.Str.strSliceIndices none none (-1) z.length).filterMap (z.cps[·]?) = _
          rw [picked_rev, filterMap_get _ _ (fun i hi => by
            obtain ⟨k, hk, rfl⟩ := List.mem_map.mp hi
            have := List.mem_range.mp hk
            show z.length - 1 - k < z.length
            omega)]
          rw [List.map_map]
          apply List.ext_getElem
          · simp [Str.length]
          · intro j h1 h2
            have hj : j < z.cps.size := by simpa [Str.length] using h1
            simp only [List.getElem_map, List.getElem_range, Function.comp_apply, List.getElem_reverse, Array.getElem_toList, Array.length_toList]
            show z.cps.getD (z.cps.size - 1 - j) 0 = _
            simp [Array.getD, show z.cps.size - 1 - j < z.cps.size by omega]
        unfold sliceMade
        rw [e1]
        rw [if_neg (by simp)]
        exact ⟨by show z.cps.toList.reverse.toArray.size ≤ _; rw [List.size_toArray, List.length_reverse, Array.length_toList]; exact hz, .str _, H4, I5.tok _, ⟨_, rfl⟩, q⟩
section
variable {X : Cx} {ρ : Ro} {S : Sto} {Φ : D → Sto → Prop} {P : Program} {w : World} {K : PySem.W.Frag} {mg : Str → Option Value} {base : Heap} {tb : List (Str × Nat)} {names : List (Str × NameKind)} {k : Nat} {pos p1 p2 p3 : Pos} {e : Expr} {kk : Nat}
theorem de_revS (h : DE X e ρ S fun d S1 => ∃ z, d = .str z ∧ z.length ≤ sizeLine ∧ Φ (.str ⟨z.cps.toList.reverse.toArray⟩) S1) : DE X (.Subscript e (.Slice none none (some (.UnaryOp .USub (.Constant (.int 1) kk p1) p2)) p3) pos) ρ S Φ := DE.of (pe_revS pe_w) fun Zh σ H Q E P => h.bind E fun v H1 d S1 k1 g1 E1 r1 h1 => by
  obtain ⟨z, rfl, hz, q⟩ := h1
  exact ⟨z, r1.str, hz, (P.next k1 g1).here E1.st rep_str q⟩
/-! ### {"a": "b", ..}[e], four pairs -/
theorem dlit4 {a1 a2 a3 a4 b1 b2 b3 b4 : Str} {i1 i2 i3 i4 j1 j2 j3 j4 : Nat} {s1 s2 s3 s4 t1 t2 t3 t4 dp : Pos} : PE X (.Dict [some (.Constant (.str a1) i1 s1), some (.Constant (.str a2) i2 s2), some (.Constant (.str a3) i3 s3), some (.Constant (.str a4) i4 s4)] [.Constant (.str b1) j1 t1, .Constant (.str b2) j2 t2, .Constant (.str b3) j3 t3, .Constant (.str b4) j4 t4] dp)
   (tDisp [(tC (.str a1), tC (.str b1)), (tC (.str a2), tC (.str b2)), (tC (.str a3), tC (.str b3)), (tC (.str a4), tC (.str b4))]) :=
  pe_disp (pps_cons pe_str pe_str (pps_cons pe_str pe_str (pps_cons pe_str pe_str (pps_cons pe_str pe_str pps_nil)))) rfl rfl (List.cons_ne_nil _ _) (Nat.le_of_ble_eq_true rfl)
theorem disp4 {a1 a2 a3 a4 b1 b2 b3 b4 : Str} {σ : L2.St} {H : Hp} {Q : VK} (h : ∀ p, H p = none → Q (.ref p) (upd (upd H p (.dK [])) p (.dK (mergeK [] [(Sum.inr a1, V.str b1), (Sum.inr a2, V.str b2), (Sum.inr a3, V.str b3), (Sum.inr a4, V.str b4)])))) :
  tDisp [(tC (.str a1), tC (.str b1)), (tC (.str a2), tC (.str b2)), (tC (.str a3), tC (.str b3)), (tC (.str a4), tC (.str b4))] σ H Q := fun p hp => ⟨upd_same, [(Sum.inr a1, V.str b1), (Sum.inr a2, V.str b2), (Sum.inr a3, V.str b3), (Sum.inr a4, V.str b4)], rfl, Nat.le_of_ble_eq_true rfl, h p hp⟩
/-! ### {"a": "b", ..}[e], four pairs -/
theorem tA {o : Expr} {td : TE} (p0 : PE X o td) (hs : NoSl e) (hu : X.A.units + 1 < cLine) : PE X (.Subscript o e pos) (tDGet td (tW X e)) := pe_dget hu p0 pe_w hs
theorem tB {o : Expr} {td : TE} (p0 : PE X o td) (hs : NoSl e) (hu : X.A.units + 1 < cLine) (h : ∀ Zh σ H Q, Ev X.K Zh H σ ρ S → Post X.K Zh H S Φ Q → tDGet td (tW X e) σ H Q) : DE X (.Subscript o e pos) ρ S Φ := DE.of (tA p0 hs hu) h
theorem de_dlit4 {a1 a2 a3 a4 b1 b2 b3 b4 : Str} {i1 i2 i3 i4 j1 j2 j3 j4 : Nat} {s1 s2 s3 s4 t1 t2 t3 t4 dp : Pos} (A : At X P w K mg base tb names k) (hs : NoSl e)
    (h : DE X e ρ S fun d S1 => ∃ z r, d = .str z ∧ valV (mergeK [] [(Sum.inr a1, V.str b1), (Sum.inr a2, V.str b2), (Sum.inr a3, V.str b3), (Sum.inr a4, V.str b4)]) (Sum.inr z) = some (V.str r) ∧ Φ (.str r) S1) :
    DE X (.Subscript (.Dict [some (.Constant (.str a1) i1 s1), some (.Constant (.str a2) i2 s2), some (.Constant (.str a3) i3 s3), some (.Constant (.str a4) i4 s4)] [.Constant (.str b1) j1 t1, .Constant (.str b2) j2 t2, .Constant (.str b3) j3 t3, .Constant (.str b4) j4 t4] dp) e pos) ρ S Φ := by
  have hu : X.A.units + 1 < cLine := Nat.lt_of_le_of_lt (Nat.add_le_add_left (Nat.le_of_ble_eq_true rfl) _) A.room.units
  have p0 := @dlit4 X a1 a2 a3 a4 b1 b2 b3 b4 i1 i2 i3 i4 j1 j2 j3 j4 s1 s2 s3 s4 t1 t2 t3 t4 dp
  generalize Expr.Dict _ _ _ = o at p0 ⊢
  refine tB p0 hs hu fun Zh σ H Q E P => ?_
  generalize hm : mergeK [] [(Sum.inr a1, V.str b1), (Sum.inr a2, V.str b2), (Sum.inr a3, V.str b3), (Sum.inr a4, V.str b4)] = m at h
  refine disp4 fun p hp => ?_
  rw [hm]
  have g0 : Grow (keys S) H (upd (upd H p (.dK [])) p (.dK m)) := fun b x n hb => by
    rw [upd_ne (ne_of_none hb hp), upd_ne (ne_of_none hb hp)]
    exact hb
  have st1 := E.st.keep (H' := upd (upd H p (.dK [])) p (.dK m)) fun b x hb => by
    rw [upd_ne (ne_of_none hb hp), upd_ne (ne_of_none hb hp)]
    exact hb
  have hpk : p ∉ keys S := fun m => by
    obtain ⟨vs, e1⟩ := E.st.zl p m
    rw [hp] at e1
    cases e1
  refine h.bind (E.next rfl g0 st1) fun v H1 d S1 k1 g1 E1 r1 h1 => ?_
  obtain ⟨z, r, rfl, hz, q⟩ := h1
  refine ⟨p, .str r, rfl, ?_, ((P.next rfl g0).next k1 g1).here E1.st rep_str q⟩
  rw [r1.str, ← hz]
  exact DGet.k (k := Sum.inr z) (g1 _ _ hpk upd_same)
end
end Ar
namespace Ar
open PySem PySem.Spec PyProof.Rows L2
/-! ### the plain law of k03 -/
abbrev Pr (k : Int) : Int := k * (k - 1) / 2
theorem pr_two (k : Int) : 2 * Pr k = k * (k - 1) := by
  have h : k * (k - 1) % 2 = 0 := by
    have h2 : k % 2 = 0 ∨ k % 2 = 1 := by omega
    rw [Int.mul_emod]
    rcases h2 with h2 | h2
    · rw [h2, Int.zero_mul]
      rfl
    · have : (k - 1) % 2 = 0 := by omega
      rw [this, Int.mul_zero]
      rfl
  show 2 * (k * (k - 1) / 2) = _
  omega
theorem pr_add (a b : Int) : Pr (a + b) = Pr a + Pr b + a * b := by
  have h1 := pr_two (a + b)
  have h2 := pr_two a
  have h3 := pr_two b
  have h : 2 * Pr (a + b) = 2 * (Pr a + Pr b + a * b) := by grind
  omega
theorem pr_three (a : Int) : Pr (3 * a) = 3 * Pr a + 3 * (a * a) := by
  have h1 := pr_two (3 * a)
  have h2 := pr_two a
  have h : 2 * Pr (3 * a) = 2 * (3 * Pr a + 3 * (a * a)) := by grind
  omega
theorem pr_neg (a : Int) : Pr (-a) = Pr a + a := by
  have h1 := pr_two (-a)
  have h2 := pr_two a
  have h : 2 * Pr (-a) = 2 * (Pr a + a) := by grind
  omega
/-! runs that do a deed -/
theorem doR_append : ∀ (l m : List Run) (t : T3), doR (l ++ m) t = doR m (doR l t)
  | [], m, t => rfl
  | r :: l, m, t => doR_append l m _
/-- two runs with one letter do as one -/
theorem doR_two {c : Nat} {a b : Int} {l : List Run} {t : T3} (h : Ltr c) : doR ((c, a + b) :: l) t = doR ((c, a) :: (c, b) :: l) t := by
  obtain ⟨x, y, z⟩ := t
  simp only [doR]
  congr 1
  rcases h with rfl | rfl | rfl | rfl <;> simp [dx, dy] <;> grind
theorem doR_tog : ∀ (l acc : List Run), LetR l → (∀ r, r ∈ l → 0 ≤ r.2) → LetR acc → doR (runTog acc l) (0, 0, 0) = doR (acc ++ l) (0, 0, 0)
  | [], acc, _, _, _ => by simp [runTog]
  | r :: l, acc, hl, h0, ha => by
    have hl' : LetR l := fun u hu => hl u (List.mem_cons_of_mem _ hu)
    have h0' : ∀ u, u ∈ l → 0 ≤ u.2 := fun u hu => h0 u (List.mem_cons_of_mem _ hu)
    have hr : Ltr r.1 := hl r List.mem_cons_self
    by_cases hk : 0 < r.2
    · rcases nil_or_last acc with rfl | ⟨ini, u, rfl⟩
      · rw [runTog_nil hk, doR_tog l [r] hl' h0' (fun v hv => by rw [List.mem_singleton.mp hv]; exact hr)]
        rfl
      · by_cases e : u.1 = r.1
        · rw [runTog_eq hk e, doR_tog l _ hl' h0' (fun v hv => by
            rcases List.mem_append.mp hv with q | q
            · exact ha v (List.mem_append_left _ q)
            · rw [List.mem_singleton.mp q]
              exact hr)]
          simp only [List.append_assoc, List.cons_append, List.nil_append, doR_append]
          show doR ((r.1, u.2 + r.2) :: l) _ = doR (u :: r :: l) _
          rw [doR_two hr]
          obtain ⟨a, b⟩ := u
          obtain ⟨c, d⟩ := r
          cases (show a = c from e)
          rfl
        · rw [runTog_ne hk e, doR_tog l _ hl' h0' (fun v hv => by
            rcases List.mem_append.mp hv with q | q
            · exact ha v q
            · rw [List.mem_singleton.mp q]
              exact hr)]
          rw [List.append_assoc]
          rfl
    · have hz : r.2 = 0 := by
        have := h0 r List.mem_cons_self
        omega
      rw [runTog_skip hk, doR_tog l acc hl' h0' ha, doR_append, doR_append]
      obtain ⟨a, b⟩ := r
      cases (show b = 0 from hz)
      show _ = doR l _
      simp
theorem rows_do (x y z : Int) : doR (rowsOf x y z) (0, 0, 0) = (x, y, z) := by
  unfold rowsOf sRun
  by_cases hx : 0 ≤ x <;> by_cases hy : 0 ≤ y <;> by_cases hz : 0 ≤ z <;> by_cases h0 : z = 0 <;> simp [hx, hy, hz, h0, doR, dx, dy] <;> grind
def Nb (l : List Nat) : Prop := ∀ (i : Nat) (a b : Nat), l[i]? = some a → l[i + 1]? = some b → a ≠ b
theorem nb_snoc {ini : List Nat} {a b : Nat} (h : Nb (ini ++ [a])) (hab : a ≠ b) : Nb (ini ++ [a] ++ [b]) := fun i c d h1 h2 => by
  by_cases hi : i + 1 < (ini ++ [a]).length
  · rw [List.getElem?_append_left (by omega)] at h1
    rw [List.getElem?_append_left hi] at h2
    exact h i c d h1 h2
  · have hl : i + 1 < (ini ++ [a] ++ [b]).length := (List.getElem?_eq_some_iff.mp h2).1
    simp only [List.length_append, List.length_cons, List.length_nil] at hi hl
    have hi2 : i = ini.length := by omega
    subst hi2
    have e1 : (ini ++ [a] ++ [b])[ini.length]? = some a := by
      rw [List.getElem?_append_left (by simp), List.getElem?_append_right (Nat.le_refl _), Nat.sub_self]
      rfl
    have e2 : (ini ++ [a] ++ [b])[ini.length + 1]? = some b := by
      rw [List.getElem?_append_right (by simp)]
      simp
    rw [e1] at h1
    rw [e2] at h2
    cases h1
    cases h2
    exact hab
structure Gd (N : Nat) (l : List Run) : Prop where
  each : ∀ r, r ∈ l → Ltr r.1 ∧ 0 < r.2 ∧ Bd N r.2
  nb : Nb (l.map (·.1))
theorem tog_good : ∀ (l acc : List Run) (N : Nat), (∀ r, r ∈ l → Ltr r.1 ∧ Bd N r.2) → Gd N acc → Gd (N + l.length) (runTog acc l) ∧ (runTog acc l).length ≤ acc.length + l.length
  | [], acc, N, _, ha => ⟨by simpa [runTog] using ha, by simp [runTog]⟩
  | r :: l, acc, N, hl, ha => by
    have hl' : ∀ u, u ∈ l → Ltr u.1 ∧ Bd (N + 1) u.2 := fun u hu => ⟨(hl u (List.mem_cons_of_mem _ hu)).1, (hl u (List.mem_cons_of_mem _ hu)).2.mono (by omega)⟩
    obtain ⟨hr, hb⟩ := hl r List.mem_cons_self
    have ha1 : Gd (N + 1) acc := ⟨fun u hu => ⟨(ha.each u hu).1, (ha.each u hu).2.1, (ha.each u hu).2.2.mono (by omega)⟩, ha.nb⟩
    have fin : ∀ acc1 : List Run, acc1.length ≤ acc.length + 1 → Gd (N + 1) acc1 → Gd (N + (r :: l).length) (runTog acc1 l) ∧ (runTog acc1 l).length ≤ acc.length + (r :: l).length := fun acc1 h1 h2 => by
      obtain ⟨a, b⟩ := tog_good l acc1 (N + 1) hl' h2
      rw [List.length_cons]
      refine ⟨?_, by omega⟩
      rw [show N + (l.length + 1) = N + 1 + l.length by omega]
      exact a
    by_cases hk : 0 < r.2
    · rcases nil_or_last acc with rfl | ⟨ini, u, rfl⟩
      · rw [runTog_nil hk]
        refine fin _ (by simp) ⟨fun v hv => ?_, fun i a b h1 h2 => ?_⟩
        · rw [List.mem_singleton.mp hv]
          exact ⟨hr, hk, hb.mono (by omega)⟩
        · have := (List.getElem?_eq_some_iff.mp h2).1
          simp at this
      · by_cases e : u.1 = r.1
        · rw [runTog_eq hk e]
          have hu := ha.each u (List.mem_append_right _ (List.mem_singleton.mpr rfl))
          refine fin _ (by simp) ⟨fun v hv => ?_, ?_⟩
          · rcases List.mem_append.mp hv with q | q
            · exact ha1.each v (List.mem_append_left _ q)
            · rw [List.mem_singleton.mp q]
              exact ⟨hr, by have := hu.2.1; show 0 < u.2 + r.2; omega, hu.2.2.add2 hb⟩
          · have hn := ha.nb
            rw [List.map_append] at hn ⊢
            show Nb (ini.map (·.1) ++ [r.1])
            rw [← e]
            exact hn
        · rw [runTog_ne hk e]
          refine fin _ (by simp) ⟨fun v hv => ?_, ?_⟩
          · rcases List.mem_append.mp hv with q | q
            · exact ha1.each v q
            · rw [List.mem_singleton.mp q]
              exact ⟨hr, hk, hb.mono (by omega)⟩
          · have hn := ha.nb
            rw [List.map_append] at hn
            rw [List.map_append, List.map_append]
            exact nb_snoc hn e
    · rw [runTog_skip hk]
      exact fin _ (by omega) ha1
theorem gd_good {N : Nat} {l : List Run} (h : Gd N l) (hl : l.length ≤ 200) : GoodR l := ⟨hl, fun r hr => ⟨(h.each r hr).1, (h.each r hr).2.1⟩, fun i r u h1 h2 => h.nb i r.1 u.1 (by rw [List.getElem?_map, h1]; rfl) (by rw [List.getElem?_map, h2]; rfl)⟩
theorem rows_each {N : Nat} {x y z : Int} (h64 : 1 ≤ N) (hx : Bd N x) (hy : Bd N y) (hz : Bd N z) : ∀ r, r ∈ rowsOf x y z → (Ltr r.1 ∧ Bd N r.2) ∧ 0 ≤ r.2 := fun r hr => by
  have abs : ∀ m : Int, Bd N m → Bd N (if 0 ≤ m then m else -m) ∧ 0 ≤ (if 0 ≤ m then m else -m) := fun m hm => by
    split
    · exact ⟨hm, by omega⟩
    · exact ⟨hm.neg, by omega⟩
  have one : Bd N 1 := (Bd.lit (n := 1) rfl).mono h64
  have l := ltr_rows r hr
  suffices h : Bd N r.2 ∧ 0 ≤ r.2 from ⟨⟨l, h.1⟩, h.2⟩
  unfold rowsOf at hr
  split at hr
  · simp only [List.cons_append, List.nil_append, List.mem_cons, List.not_mem_nil, or_false] at hr
    rcases hr with rfl | rfl | rfl | rfl | rfl | rfl
    · exact abs y hy
    · exact abs x hx
    · exact ⟨one, by decide⟩
    · exact abs z hz
    · exact ⟨one, by decide⟩
    · exact abs z hz
  · simp only [List.append_nil, List.mem_cons, List.not_mem_nil, or_false] at hr
    rcases hr with rfl | rfl
    · exact abs y hy
    · exact abs x hx
/-- what a law needs of plain runs -/
theorem plain_good {x y z : Int} (hx : Bd 1500 x) (hy : Bd 1500 y) (hz : Bd 1500 z) : GoodR (runTog [] (rowsOf x y z)) ∧ (∀ r, r ∈ runTog [] (rowsOf x y z) → Bd 2000 r.2) ∧ doR (runTog [] (rowsOf x y z)) (0, 0, 0) = (x, y, z) := by
  have he := rows_each (N := 1500) (by decide) hx hy hz
  have hl := rows_len (x := x) (y := y) (z := z)
  obtain ⟨a, b⟩ := tog_good (rowsOf x y z) [] 1500 (fun r hr => (he r hr).1) ⟨(by intro r hr; cases hr), (by intro i a b h1 h2; simp at h1)⟩
  rw [List.length_nil] at b
  refine ⟨gd_good a (by omega), fun r hr => (a.each r hr).2.2.mono (by omega), ?_⟩
  rw [doR_tog _ _ (fun r hr => (he r hr).1.1) (fun r hr => (he r hr).2) (by intro r hr; cases hr)]
  exact rows_do x y z
/-! letters turned, mirrored, read back -/
abbrev trn (t : T3) : T3 := (-t.2.1, t.1, t.2.2 - t.1 * t.2.1)
def spin1 (c : Nat) : Nat := if c = 114 then 117 else if c = 117 then 108 else if c = 108 then 100 else 114
def spinN : Nat → Nat → Nat
  | 0, c => c
  | n + 1, c => spinN n (spin1 c)
theorem ltr_spin1 {c : Nat} (h : Ltr c) : Ltr (spin1 c) := by
  rcases h with rfl | rfl | rfl | rfl
  · exact .inr (.inl rfl)
  · exact .inr (.inr (.inl rfl))
  · exact .inr (.inr (.inr rfl))
  · exact .inl rfl
theorem doW_spin1 : ∀ (cs : List Nat) (t : T3), LetW cs → doW (cs.map spin1) (trn t) = trn (doW cs t)
  | [], t, _ => rfl
  | c :: cs, t, h => by
    have ih := doW_spin1 cs (t.1 + dx c, t.2.1 + dy c, t.2.2 + t.1 * dy c) h.tail
    obtain ⟨x, y, z⟩ := t
    rw [List.map_cons, doW, doW, ← ih]
    congr 1
    rcases h.head with rfl | rfl | rfl | rfl <;> simp [dx, dy, spin1, trn] <;> grind
theorem turnN_trn : ∀ (n : Nat) (t : T3), turnN n t = trn (turnN n t) ∨ True := fun _ _ => .inr trivial
theorem letW_map {f : Nat → Nat} (hf : ∀ c, Ltr c → Ltr (f c)) {cs : List Nat} (h : LetW cs) : LetW (cs.map f) := fun d hd => by
  obtain ⟨c, hc, rfl⟩ := List.mem_map.mp hd
  exact hf c (h c hc)
theorem doW_spin : ∀ (n : Nat) (cs : List Nat), LetW cs → doW (cs.map (spinN n)) (0, 0, 0) = turnN n (doW cs (0, 0, 0))
  | 0, cs, _ => by
    have e : spinN 0 = id := by funext c; rfl
    rw [e, List.map_id]
    rfl
  | n + 1, cs, h => by
    have e : cs.map (spinN (n + 1)) = (cs.map spin1).map (spinN n) := by
      rw [List.map_map]
      rfl
    rw [e, doW_spin n _ (letW_map (fun _ => ltr_spin1) h)]
    have z := doW_spin1 cs (0, 0, 0) h
    have e0 : trn (0, 0, 0) = (0, 0, 0) := by decide
    rw [e0] at z
    rw [z]
    rfl
def flip1 (c : Nat) : Nat := if c = 114 then 108 else if c = 108 then 114 else c
theorem ltr_flip1 {c : Nat} (h : Ltr c) : Ltr (flip1 c) := by
  rcases h with rfl | rfl | rfl | rfl
  · exact .inr (.inr (.inl rfl))
  · exact .inr (.inl rfl)
  · exact .inl rfl
  · exact .inr (.inr (.inr rfl))
theorem doW_flip : ∀ (cs : List Nat) (t : T3), LetW cs → doW (cs.map flip1) (-t.1, t.2.1, -t.2.2) = (-(doW cs t).1, (doW cs t).2.1, -(doW cs t).2.2)
  | [], t, _ => rfl
  | c :: cs, t, h => by
    have ih := doW_flip cs (t.1 + dx c, t.2.1 + dy c, t.2.2 + t.1 * dy c) h.tail
    obtain ⟨x, y, z⟩ := t
    rw [List.map_cons, doW, doW, ← ih]
    congr 1
    rcases h.head with rfl | rfl | rfl | rfl <;> simp [dx, dy, flip1] <;> grind
theorem doW_from : ∀ (cs : List Nat) (t : T3), doW cs t = joinT t (doW cs (0, 0, 0))
  | [], t => by
    obtain ⟨x, y, z⟩ := t
    simp [doW, joinT]
  | c :: cs, t => by
    obtain ⟨x, y, z⟩ := t
    have h1 := doW_from cs (x + dx c, y + dy c, z + x * dy c)
    have h2 := doW_from cs (0 + dx c, 0 + dy c, 0 + 0 * dy c)
    show doW cs (x + dx c, y + dy c, z + x * dy c) = joinT (x, y, z) (doW cs (0 + dx c, 0 + dy c, 0 + 0 * dy c))
    rw [h1, h2]
    simp only [joinT]
    generalize doW cs (0, 0, 0) = u
    obtain ⟨p, q, s⟩ := u
    refine Prod.ext ?_ (Prod.ext ?_ ?_) <;> grind
theorem doW_append : ∀ (cs es : List Nat) (t : T3), doW (cs ++ es) t = doW es (doW cs t)
  | [], es, t => rfl
  | c :: cs, es, t => doW_append cs es _
theorem dxdy {c : Nat} (h : Ltr c) : dx c * dy c = 0 := by
  rcases h with rfl | rfl | rfl | rfl <;> rfl
theorem doW_rev : ∀ (cs : List Nat), LetW cs → doW cs.reverse (0, 0, 0) = ((doW cs (0, 0, 0)).1, (doW cs (0, 0, 0)).2.1, (doW cs (0, 0, 0)).1 * (doW cs (0, 0, 0)).2.1 - (doW cs (0, 0, 0)).2.2)
  | [], _ => rfl
  | c :: cs, h => by
    have hd := dxdy h.head
    have h2 := doW_from cs (0 + dx c, 0 + dy c, 0 + 0 * dy c)
    have h3 : doW (c :: cs) (0, 0, 0) = doW cs (0 + dx c, 0 + dy c, 0 + 0 * dy c) := rfl
    rw [List.reverse_cons, doW_append, doW_rev cs h.tail, h3, h2]
    simp only [joinT, doW]
    clear h2 h3 h
    generalize doW cs (0, 0, 0) = u
    obtain ⟨p, q, s⟩ := u
    refine Prod.ext ?_ (Prod.ext ?_ ?_) <;> grind
/-- the law, behind its module -/
def cLaw : Spec := fun ds S Φ => ∃ is : List Int, ds = [.frz (is.map D.int)] ∧ is.length ≤ 63 ∧ S = [] ∧ ∀ S', Φ (.bl true) S'
theorem ite_merge {X : Cx} {a b : Expr} {ρ : Ro} {S : Sto} {Φ : D → Sto → Prop} {c : Bool} (Ψ : D → Sto → Prop) (h1 : c = true → DE X a ρ S Ψ) (h2 : c = false → DE X b ρ S Ψ) (k : ∀ d S1, Ψ d S1 → Φ d S1) : if c = true then DE X a ρ S Φ else DE X b ρ S Φ := by
  cases c with
  | true => exact (h1 rfl).mono k
  | false => exact (h2 rfl).mono k
def idxR (c : Nat) : Nat := if c = 114 then 0 else if c = 117 then 1 else if c = 108 then 2 else 3
theorem occ_ltr {c : Nat} (h : Ltr c) : Builtin.Str.occurrences (Str.ofString "ruld") ⟨#[c]⟩ 0 (Str.ofString "ruld").length 1 = [idxR c] := by
  rcases h with rfl | rfl | rfl | rfl <;> decide +kernel
theorem spin_at {c : Nat} (h : Ltr c) (q : Int) : atI (Str.ofString "ruld").cps.toList (((idxR c : Int) + q) % 4) = some (spinN (q % 4).toNat c) := by
  have h0 := Int.emod_nonneg q (b := 4) (by decide)
  have h1 := Int.emod_lt_of_pos q (b := 4) (by decide)
  have hq : q % 4 = 0 ∨ q % 4 = 1 ∨ q % 4 = 2 ∨ q % 4 = 3 := by omega
  have e : ((idxR c : Int) + q) % 4 = ((idxR c : Int) + q % 4) % 4 := by omega
  rw [e]
  rcases h with rfl | rfl | rfl | rfl <;> rcases hq with hq | hq | hq | hq <;> rw [hq] <;> decide +kernel
theorem ltr_spinN : ∀ (n : Nat) {c : Nat}, Ltr c → Ltr (spinN n c)
  | 0, _, h => h
  | n + 1, _, h => ltr_spinN n (ltr_spin1 h)
def fD (g : Nat → Nat) (d : D) : D := match d with
  | .str z => ch (g (z.cps.getD 0 0))
  | d => d
theorem fD_map {g : Nat → Nat} {cs : List Nat} : (charsD (wd cs)).map (fD g) = ((cs.map g).map fun c => (⟨#[c]⟩ : Str)).map D.str := by
  rw [chars_wd, List.map_map, List.map_map, List.map_map]
  rfl
theorem val_ltr {c : Nat} (h : Ltr c) : valV (mergeK [] [(Sum.inr (Str.ofString "r"), V.str (Str.ofString "l")), (Sum.inr (Str.ofString "l"), V.str (Str.ofString "r")), (Sum.inr (Str.ofString "u"), V.str (Str.ofString "u")), (Sum.inr (Str.ofString "d"), V.str (Str.ofString "d"))]) (Sum.inr (⟨#[c]⟩ : Str)) = some (V.str ⟨#[flip1 c]⟩) := by
  rcases h with rfl | rfl | rfl | rfl <;> rfl
theorem bd_doW : ∀ (cs : List Nat) (t : T3) (n : Nat), LetW cs → n + cs.length ≤ 1000 → Bd (10 + n) t.1 → Bd (10 + n) t.2.1 → Bd (100 + 2 * n) t.2.2 → Bd3 3000 (doW cs t)
  | [], t, n, _, hl, h1, h2, h3 => by
    rw [List.length_nil] at hl
    exact ⟨h1.mono (by omega), h2.mono (by omega), h3.mono (by omega)⟩
  | c :: cs, t, n, hw, hl, h1, h2, h3 => by
    rw [List.length_cons] at hl
    have hc := hw.head
    have bx : Bd 10 (dx c) := by rcases hc with rfl | rfl | rfl | rfl <;> exact Bd.lit rfl
    have by_ : Bd 10 (dy c) := by rcases hc with rfl | rfl | rfl | rfl <;> exact Bd.lit rfl
    refine bd_doW cs _ (n + 1) hw.tail (by omega) (h1.add2 (bx.mono (by omega))) (h2.add2 (by_.mono (by omega))) ?_
    have hm : Bd (100 + 2 * n) (t.1 * dy c) := (h1.mul by_).mono (by omega)
    exact (h3.add2 hm).mono (by omega)
theorem cutS_wd {cs : List Nat} {lo hi : Option Int} (h : LetW cs) : ∃ es, cutS (wd cs) lo hi = wd es ∧ LetW es ∧ es.length ≤ cs.length := by
  refine ⟨_, rfl, fun c hc => h c ?_, ?_⟩
  · have := List.mem_of_mem_take hc
    have := List.mem_of_mem_drop this
    simpa using this
  · rw [List.length_take, List.length_drop]
    simp
    omega
theorem wd_len {cs : List Nat} : (wd cs).length = cs.length := by
  show cs.toArray.size = _
  simp
theorem wd_append {cs es : List Nat} : wd cs ++ wd es = wd (cs ++ es) := by
  show (⟨cs.toArray ++ es.toArray⟩ : Str) = _
  simp
theorem LetW.append {cs es : List Nat} (h : LetW cs) (k : LetW es) : LetW (cs ++ es) := fun c hc => (List.mem_append.mp hc).elim (h c) (k c)
end Ar
namespace Ar
open PySem PySem.Spec PyProof.Rows L2
/-! ### t[::-1] -/
section
variable {prog : Program} {w : World} {A : Around} {E : Value → Shared → Prop} {s : Shared}
theorem applied_rev {sl : Addr} {vl vu vs : Value} {n : Nat} {Q : Int × Int × Nat → Shared → Prop} (hs : s.heap.IsSliceOf sl vl vu vs) (pl : IsPart vl none) (pu : IsPart vu none) (ps : IsPart vs (some (-1)))
    (h : Q ((n : Int) - 1, -1, n) s) : wpAny (model prog w) A (Builtin.Slice.sliceApplied (.ref sl) (pure (n : Int))) Q E s := by
  obtain ⟨os, hos, hcs, hds⟩ := id hs
  unfold Builtin.Slice.sliceApplied Builtin.Slice.sliceFields
  refine wpAny_bind (wpAny_bind (wpAny_field hos hds (x := vl) rfl (wpAny_bind (wpAny_field hos hds (x := vu) rfl (wpAny_bind (wpAny_field hos hds (x := vs) rfl (wpAny_pure ?_)))))))
  refine wpAny_bind (HT.slicePart_ ps ?_)
  show wpAny _ _ (if ((-1 : Int) == 0) = true then _ else _) _ _ s
  rw [if_neg (by decide)]
  refine wpAny_bind (HT.slicePart_ pl (wpAny_bind (HT.slicePart_ pu (wpAny_bind (wpAny_pure ?_)))))
  have e1 : Builtin.Slice.sliceAdjust none none (-1) (n : Int) = ((n : Int) - 1, -1) := rfl
  show wpAny _ _ (match Builtin.Slice.sliceAdjust none none (-1) (n : Int) with | (lo, hi) => pure (lo, (-1 : Int), Builtin.Slice.slicePlaces lo hi (-1))) _ _ s
  rw [e1]
  have e2 : Builtin.Slice.slicePlaces ((n : Int) - 1) (-1) (-1) = n := by
    unfold Builtin.Slice.slicePlaces
    rw [if_neg (by omega)]
    split
    · show (((n : Int) - 1 - -1 - 1) / 1 + 1).toNat = n
      rw [Int.ediv_one]
      omega
    · show (0 : Int).toNat = n
      have : (0 : Int).toNat = 0 := rfl
      omega
  show wpAny _ _ (pure ((n : Int) - 1, (-1 : Int), Builtin.Slice.slicePlaces ((n : Int) - 1) (-1) (-1))) _ _ s
  rw [e2]
  exact wpAny_pure h
theorem fm_get (c : Array Value) (g : Nat → Nat) : ∀ l : List Nat, (∀ i, i ∈ l → g i < c.size) → l.filterMap (fun (m : Nat) => c[g m]?) = l.map (fun m => c.getD (g m) .none)
  | [], _ => rfl
  | i :: r, h => by
    have hi := h i List.mem_cons_self
    have e : c[g i]? = some (c.getD (g i) .none) := by simp [Array.getD, hi]
    rw [List.filterMap_cons, e, List.map_cons, fm_get c g r fun j hj => h j (List.mem_cons_of_mem _ hj)]
theorem pick_rev0 (xs : Array Value) : ((List.range xs.size).filterMap fun (m : Nat) => xs[(((xs.size : Nat) : Int) - 1 + (m : Int) * -1).toNat]?) = xs.toList.reverse := by
  rw [fm_get xs (fun m => (((xs.size : Nat) : Int) - 1 + (m : Int) * -1).toNat) _ (fun i hi => by
    have := List.mem_range.mp hi
    omega)]
  apply List.ext_getElem
  · simp
  · intro j h1 h2
    have hj : j < xs.size := by simpa using h1
    have e2 : (((xs.size : Nat) : Int) - 1 + (j : Int) * -1).toNat = xs.size - 1 - j := by omega
    simp only [List.getElem_map, List.getElem_range, List.getElem_reverse, Array.getElem_toList, Array.length_toList, e2]
    simp [Array.getD, show xs.size - 1 - j < xs.size by omega]
theorem pick_rev (xs : Array Value) : ((List.range xs.size).filterMap fun (m : Nat) => xs[(((xs.size : Nat) : Int) - 1 + (m : Int) * -1).toNat]?).toArray = xs.toList.reverse.toArray := by
  rw [pick_rev0]
theorem getItem_tuple_rev {t sl : Addr} {items : Array Value} {vl vu vs : Value} {Q : Value → Shared → Prop} (ht : IsTup s.heap t items) (hs : s.heap.IsSliceOf sl vl vu vs) (pl : IsPart vl none) (pu : IsPart vu none) (ps : IsPart vs (some (-1)))
    (h : Q (.ref s.heap.objs.size) { s with heap := s.heap.push { cls := .type "tuple", data := .seq items.toList.reverse.toArray } })
    (hsz : items.size ≤ sizeLine) : wpAny (model prog w) A (getItem (.ref t) (.ref sl)) Q E s := by
  have htake : sizeOk (.seq items.toList.reverse.toArray) := by
    show items.toList.reverse.toArray.size ≤ sizeLine
    rw [List.size_toArray, List.length_reverse, Array.length_toList]
    exact hsz
  obtain ⟨os, hos, hcs, hds⟩ := id hs
  have hTs : s.TypeIs (.ref sl) "slice" := ⟨os, hos, hcs⟩
  unfold getItem
  try with_reducible refine wpAny_holding ?_
  first | refine wpAny_bind (wpAny_pure ?_) | skip
  refine wpAny_bind (wpAny_sequenceKey ht.typeIs (by decide) ?_)
  refine wpAny_bind (wpAny_callSpecial?_slot (name := Str.ofString "__getitem__") ht.typeIs PyProof.Rows.slot_tuple_getitem
    (wpAny_call_entry PyProof.Rows.slot_tuple_getitem ht.typeIs PyProof.Rows.entry_tuple_getitem ?_ (PyProof.Rows.args_tuple_getitem _ _)))
  show wpAny _ _ (Builtin.Tuple.tupleItemsOf (.ref t) >>= _) _ _ s
  refine wpAny_bind (PyProof.Rows.tupleItemsOf_ ht ?_)
  refine wpAny_bind (wpAny_typeOf hTs ?_)
  rw [if_pos (by decide)]
  refine wpAny_bind (applied_rev hs pl pu ps ?_)
  have hno : ¬ ((((items.size : Nat) : Int) - 1 == 0 && (-1 : Int) == 1 && items.size == items.size) = true) := by
    intro q
    rw [Bool.and_eq_true, Bool.and_eq_true] at q
    exact absurd q.1.2 (by decide)
  show wpAny _ _ (if (((items.size : Nat) : Int) - 1 == 0 && (-1 : Int) == 1 && items.size == items.size) = true then _ else _) _ _ s
  rw [if_neg hno, pick_rev]
  first
    | exact wpAny_bind (m := Builtin.Tuple.tupleExact _) (wpAny_newObj_type (wpAny_pure ⟨_, rfl, wpAny_pure h⟩) htake)
    | exact wpAny_bind (m := Builtin.Tuple.tupleExact _) (wpAny_newObj_type (wpAny_bind (wpAny_pure (wpAny_pure ⟨_, rfl, wpAny_pure h⟩))) htake)
    | exact wpAny_bind (wpAny_bind (m := Builtin.Tuple.tupleExact _) (wpAny_newObj_type (wpAny_pure (wpAny_pure ⟨_, rfl, wpAny_pure h⟩)) htake))
    | exact wpAny_bind (wpAny_bind (m := Builtin.Tuple.tupleExact _) (wpAny_newObj_type (wpAny_pure ⟨_, rfl, wpAny_pure h⟩) htake))
end
theorem pe_revT {X : Cx} {e : Expr} {te : TE} {k : Nat} {p1 p2 p3 pos : Pos} (he : PE X e te) : PE X (.Subscript e (.Slice none none (some (.UnaryOp .USub (.Constant (.int 1) k p1) p2)) p3) pos) (fun σ H Q => te σ H fun x H1 => ∃ a xs, x = .ref a ∧ SqT X.K H1 a xs ∧ ∀ p, H1 p = none → Q (.ref p) (upd H1 p (.tup xs.reverse))) := by
  refine ⟨fun pins s σ H Q I h => ?_⟩
  refine Subscript_ (thn (he.run pins s σ H _ I h) fun v s1 ⟨x, H1, I1, r1, q1⟩ => ?_)
  obtain ⟨a, xs, ex, hx, q⟩ := q1
  subst ex
  cases r1
  have hst : PO X (some (.UnaryOp .USub (.Constant (.int 1) k p1) p2)) (tPart (tUn (rU fun i => .int (-i)) (tC (.int 1)))) := po_some (pe_un un_neg pe_int)
  refine wpAny_Slice (thn (po_none.run pins s1 σ H1 (fun o H2 => o = none ∧ H2 = H1) I1 ⟨rfl, rfl⟩) fun vl s2 ⟨l, H2, I2, pl, el, e2⟩ => ?_)
  subst el e2
  refine thn (po_none.run pins s2 σ H2 (fun o H3 => o = none ∧ H3 = H2) I2 ⟨rfl, rfl⟩) fun vu s3 ⟨u, H3, I3, pu, eu, e3⟩ => ?_
  subst eu e3
  refine thn (hst.run pins s3 σ H3 (fun o H4 => o = some (-1) ∧ H4 = H3) I3 ⟨1, rfl, -1, rfl, rfl, rfl⟩) fun vs s4 ⟨o, H4, I4, ps, eo, e4⟩ => ?_
  subst eo e4
  have I5 : Inv X pins σ H4 { s4 with heap := s4.heap.push { cls := .type "slice", data := .fields #[vl, vu, vs] } } := I4.kept (t' := s4.toks) fun b ob q => Heap.get?_push_of_some _ q
  obtain ⟨its, r, ht, hz⟩ := I5.tuple hx
  have hlen := r.length
  show wpAny (model X.prog X.w) X.A (subscriptTail e (.Slice none none (some (.UnaryOp .USub (.Constant (.int 1) k p1) p2)) p3) (.ref a) (.ref s4.heap.objs.size)) (EP X pins σ Q) X.xe { s4 with heap := s4.heap.push { cls := .type "slice", data := .fields #[vl, vu, vs] } }
  refine tail_any (ops := [.ref a, .ref s4.heap.objs.size]) ht.typeIs (PyProof.Rows.slot_tuple_getitem.lookup) ?_ (by with_unfolding_all rfl)
  refine getItem_tuple_rev ht (Heap.IsSliceOf.new _ vl vu vs) pl pu ps ?_ (by rw [List.size_toArray]; omega)
  refine ⟨.ref _, _, I5.laid (t' := s4.toks) (o := .tup xs.reverse) (fun b ob q => Heap.get?_push_of_some _ q) (Nat.le_refl _) ?_, rfl, q _ (I5.hok.fresh (Nat.le_refl _))⟩
  exact ⟨by rw [List.length_reverse]; exact hz, _, r.reverse, IsTup.new _ _⟩


theorem RepL.rev {K : PySem.W.Frag} {Z : List Addr} {H : Hp} : ∀ {l : List D} {vs : List V}, RepL K Z H l vs → RepL K Z H l.reverse vs.reverse
  | [], vs, h => by
    rw [h.un0]
    exact .nil
  | d :: l, vs, h => by
    obtain ⟨v, r, rfl, h1, h2⟩ := h.uncons
    rw [List.reverse_cons, List.reverse_cons]
    exact (RepL.rev h2).append (.one h1)
section
variable {X : Cx} {ρ : Ro} {S : Sto} {Φ : D → Sto → Prop} {P : Program} {w : World} {K : PySem.W.Frag} {mg : Str → Option Value} {base : Heap} {tb : List (Str × Nat)} {names : List (Str × NameKind)} {k : Nat} {pos p p1 p2 p3 : Pos} {e e2 : Expr} {kk : Nat}
theorem de_revT (h : DE X e ρ S fun d S1 => ∃ l, d = .tup l ∧ Φ (.tup l.reverse) S1) : DE X (.Subscript e (.Slice none none (some (.UnaryOp .USub (.Constant (.int 1) kk p1) p2)) p3) pos) ρ S Φ := DE.of (pe_revT pe_w) fun Zh σ H Q E P => h.bind E fun v H1 d S1 k1 g1 E1 r1 h1 => by
  obtain ⟨l, rfl, q⟩ := h1
  obtain ⟨a, vs, rfl, sq, rl⟩ := r1.tup
  exact ⟨a, vs, rfl, sq, fun z hz => (P.next k1 g1).tup E1.st (RepL.rev rl) q hz⟩
/-! ### sums, the less of two -/
theorem da_two (he : starEach (e :: [e2]) X.env = (false, eval e X.env) :: starEach [e2] X.env) (he2 : starEach [e2] X.env = [(false, eval e2 X.env)]) {Ψ : List D → Sto → Prop} (h : DE X e ρ S fun d S1 => DE X e2 ρ S1 fun d2 S2 => Ψ [d, d2] S2) : DA X [e, e2] ρ S Ψ :=
  da_cons (DE.mono h fun d S1 h => da_one he2 h) he
theorem de_min2 (A : At X P w K mg base tb names k) (G : NoB mg) (hg : glB names "min" = true) (he : starEach (e :: [e2]) X.env = (false, eval e X.env) :: starEach [e2] X.env) (he2 : starEach [e2] X.env = [(false, eval e2 X.env)]) (hpl : (backTo pos (starEach [e2] X.env)).any (·.1) = false)
    (h : DE X e ρ S fun d S1 => DE X e2 ρ S1 fun d2 S2 => ∃ i j, d = .int i ∧ d2 = .int j ∧ Φ (.int (min i j)) S2) : DE X (.Call (.Name "min" p) [e, e2] [] pos) ρ S Φ := by
  refine de_cB A G (call_min2 A.calm) rfl (by rw [hg]; rfl) he hpl (da_two he he2 (DE.mono h fun d S1 h => DE.mono h fun d2 S2 ⟨i, j, e1, e2, q⟩ Zh H vs Q s r P => ?_))
  subst e1 e2
  obtain ⟨v, r1, rfl, rv, r⟩ := r.uncons
  obtain ⟨u, r2, rfl, ru, r⟩ := r.uncons
  cases r.un0
  refine ⟨i, j, by rw [rv.int, ru.int], P.here s rep_int ?_⟩
  have : (if j < i then j else i) = min i j := by
    by_cases h : j < i
    · rw [if_pos h]; omega
    · rw [if_neg h]; omega
  rw [this]
  exact q
theorem op_mulS : OpR X (binaryOp .Mult) (fun x y H Q => ∃ z n, x = .str z ∧ y = .int n ∧ MulOk z n ∧ Q (.str (Txt.mul z n)) H) := by
  intro pins s σ H x y v u Q I rx ry h
  obtain ⟨z, n, rfl, rfl, hok, q⟩ := h
  obtain ⟨t, rfl⟩ := rx
  obtain ⟨t', rfl⟩ := ry
  exact SB.mul hok fun t2 k => ⟨.str _, H, I.tok _, ⟨_, rfl⟩, q⟩
theorem do_mulS {z : Str} {n : Int} (c : MulOk z n) (q : Φ (.str (Txt.mul z n)) S) : DO X (binaryOp .Mult) (.str z) (.int n) S Φ := DO.of op_mulS fun Zh H x y Q st ra rb P => ⟨z, n, ra.str, rb.int, c, P.here st rep_str q⟩
theorem do_catT {l m : List D} (c : l.length + m.length ≤ sizeLine) (q : Φ (.tup (l ++ m)) S) : DO X (binaryOp .Add) (.tup l) (.tup m) S Φ := DO.of op_catA fun Zh H x y Q st ra rb P => by
  obtain ⟨p, vs, rfl, h1, r1⟩ := ra.tup
  obtain ⟨p2, vs2, rfl, h2, r2⟩ := rb.tup
  refine ⟨p, p2, vs, vs2, rfl, rfl, h1, h2, by rw [r1.length, r2.length]; exact c, fun e => ?_, fun _ e => ?_, fun _ _ z hz => P.tup st (r1.append r2) q hz⟩
  · have : l = [] := List.eq_nil_of_length_eq_zero (by rw [← r1.length, e]; rfl)
    subst this
    exact P.here st rb q
  · have : m = [] := List.eq_nil_of_length_eq_zero (by rw [← r2.length, e]; rfl)
    subst this
    rw [List.append_nil] at q
    exact P.here st ra q
theorem do_eqC {p : Addr} {m : List D} (A : At X P w K mg base tb names k) (h : ∃ l, (p, l) ∈ S ∧ (eqOk (.lst l) && eqOk (.lst m)) = true ∧ Φ (.bl (PyData.eqv (toPy (.lst l)) (toPy (.lst m)))) S) : DO X (compareOp .Eq) (.cell p) (.lst m) S Φ := DO.of (op_eqD A.room.units) fun Zh H x y Q st ra rb P => by
  obtain ⟨l, hm, h, q⟩ := h
  unfold eqOk at h
  rw [Bool.and_eq_true, Bool.and_eq_true, Bool.and_eq_true] at h
  obtain ⟨vs, h1, rl⟩ := st.st p l hm
  rw [ra.cell]
  refine ⟨toPy (.lst l), toPy (.lst m), ?_, dp_of rb h.2.1, h.1.2, h.2.2, P.here st rep_bl q⟩
  unfold toPy
  exact .lst (.inl (.inl h1)) (dpL_of rl (by
    have z := h.1.1
    unfold plainD at z
    rw [Bool.and_eq_true] at z
    exact z.2))
/-! ### values and new cells, one after another -/
def PostC (K : PySem.W.Frag) (Zh : List Addr) (H : Hp) (S : Sto) (Φ : D → Sto → Prop) (Q : VK) : Prop :=
  ∀ v H' d S', Step S H S' H' → Store K Zh H' S' → (∀ σ ρ, Ev K Zh H σ ρ S → Ev K Zh H' σ ρ S') → Rep K (keys S' ++ Zh) H' d v → Φ d S' → Q v H'
def PostCL (K : PySem.W.Frag) (Zh : List Addr) (H : Hp) (S : Sto) (n : Nat) (Φ : List D → Sto → Prop) (Q : List V → Hp → Prop) : Prop :=
  ∀ vs H' ds S', Step S H S' H' → Store K Zh H' S' → (∀ σ ρ, Ev K Zh H σ ρ S → Ev K Zh H' σ ρ S') → RepL K (keys S' ++ Zh) H' ds vs → ds.length = n → Φ ds S' → Q vs H'
def DEc (X : Cx) (e : Expr) (ρ : Ro) (S : Sto) (Φ : D → Sto → Prop) : Prop :=
  ∀ (Zh : List Addr) (pins : List (Addr × Obj)) (s : Shared) (σ : L2.St) (H : Hp) (Q : VK), Inv X pins σ H s → Ev X.K Zh H σ ρ S → PostC X.K Zh H S Φ Q → wpAny (model X.prog X.w) X.A (eval e X.env) (EP X pins σ Q) X.xe s
def DAc (X : Cx) (es : List Expr) (ρ : Ro) (S : Sto) (Φ : List D → Sto → Prop) : Prop :=
  ∀ (Zh : List Addr) (pos : Pos) (pins : List (Addr × Obj)) (s : Shared) (σ : L2.St) (H : Hp) (Q : List V → Hp → Prop), Inv X pins σ H s → Ev X.K Zh H σ ρ S → PostCL X.K Zh H S es.length Φ Q → wpAny (model X.prog X.w) X.A (spliced (backTo pos (starEach es X.env))) (AP X pins σ Q) X.xe s
theorem DEc.tw {Zh : List Addr} {σ : L2.St} {H : Hp} {Q : VK} (h : DEc X e ρ S Φ) (E : Ev X.K Zh H σ ρ S) (q : PostC X.K Zh H S Φ Q) : tW X e σ H Q := fun pins s I => h Zh pins s σ H Q I E q
theorem DAc.tw {es : List Expr} {Φ : List D → Sto → Prop} {Zh : List Addr} {σ : L2.St} {H : Hp} {Q : List V → Hp → Prop} (h : DAc X es ρ S Φ) (E : Ev X.K Zh H σ ρ S) (q : PostCL X.K Zh H S es.length Φ Q) : taW X es σ H Q := fun pos pins s I => h Zh pos pins s σ H Q I E q
theorem dec_e (h : DE X e ρ S Φ) : DEc X e ρ S Φ := fun Zh pins s σ H Q I E P => h Zh pins s σ H Q I E fun v H' d S' k g s' r q => P v H' d S' (.of k g) s' (fun σ ρ E => E.next k g s') (by rw [k]; exact r) q
theorem dec_n (h : DN X e ρ S fun l S1 => ∀ c, Φ (.cell c) (S1 ++ [(c, l)])) : DEc X e ρ S Φ := fun Zh pins s σ H Q I E P => h Zh pins s σ H Q I E fun c vs H' l S' k g s' hc h' r q => by
  have z := E.cell k g s' hc h' r
  exact P (.ref c) H' (.cell c) _ z.2 z.1.st (fun σ ρ E => (E.cell k g s' hc h' r).1) (by unfold Rep; rfl) (q c)
theorem dac_nil {Φ : List D → Sto → Prop} (q : Φ [] S) : DAc X [] ρ S Φ := fun Zh pos pins s σ H Q I E P => (pa_nil (X := X)).run pos pins s σ H Q I (P [] H [] S Step.refl E.st (fun _ _ E => E) .nil rfl q)
theorem dac_cons {es : List Expr} {Φ : List D → Sto → Prop} (h : DEc X e ρ S fun d S1 => DAc X es ρ S1 fun ds S2 => Φ (d :: ds) S2) (hs : starEach (e :: es) X.env = (false, eval e X.env) :: starEach es X.env) : DAc X (e :: es) ρ S Φ :=
  fun Zh pos pins s σ H Q I E P => (pa_cons (X := X) pe_w pa_w hs).run pos pins s σ H Q I (h.tw E fun v H1 d S1 t1 s1 n1 r1 h1 => h1.tw (n1 _ _ E) fun vs H2 ds S2 t2 s2 n2 r2 l2 q2 =>
    P (v :: vs) H2 (d :: ds) S2 (t1.trans t2) s2 (fun σ ρ E => n2 _ _ (n1 _ _ E)) (.cons (Rep.step s1.zl t2 r1) r2) (by rw [List.length_cons, l2]; rfl) q2)
variable {x y z : Str} {px py pz pt : Pos} {i j l : Nat} {E : DEnds}
theorem ds_parC {a b : Expr} {kt k2 pt2} (A : At X P w K mg base tb names k) 
    (hw : swappedStores [.Tuple [.Name x px, .Name y py] kt pt] (.Tuple [a, b] k2 pt2) X.env = pure (some [x, y]))
    (hs : swapsWithSole [.Tuple [.Name x px, .Name y py] kt pt] (.Tuple [a, b] k2 pt2) pos.line X.env = pure false)
    (h : ∃ i j, tb.lookup x = some i ∧ tb.lookup y = some j ∧ Nat.beq i j = false ∧ (locB names x && locB names y) = true ∧
      DAc X [a, b] ρ S fun ds S1 => ∃ c d, ds = [c, d] ∧ Nx E ((ρ.set i (some c)).set j (some d)) S1) : DS X (.Assign [.Tuple [.Name x px, .Name y py] kt pt] (.Tuple [a, b] k2 pt2) pos) ρ S E := by
  obtain ⟨i, j, hi, hj, hij, hv, h⟩ := h
  rw [Bool.and_eq_true] at hv
  exact DS.of (ps_par A.calm A.nd (A.slot _ _ hi) (A.slot _ _ hj) (ne_of_beq hij) (A.loc _ (locB_of hv.1)) (A.loc _ (locB_of hv.2)) pa_w hw hs) fun Zh σ H Dn ev k => h.tw ev fun vs H' ds S' t s n r l q => by
    obtain ⟨c, d, rfl, q⟩ := q
    obtain ⟨v, r1, rfl, rv, r⟩ := r.uncons
    obtain ⟨u, r2, rfl, ru, r⟩ := r.uncons
    cases r.un0
    exact ⟨v, u, rfl, k.nx _ _ _ _ t (((n _ _ ev).put rv).put ru) q⟩
theorem ds_par3C {a b c : Expr} {kt k2 pt2} (A : At X P w K mg base tb names k) 
    (hw : swappedStores [.Tuple [.Name x px, .Name y py, .Name z pz] kt pt] (.Tuple [a, b, c] k2 pt2) X.env = pure (some [x, y, z]))
    (hs : swapsWithSole [.Tuple [.Name x px, .Name y py, .Name z pz] kt pt] (.Tuple [a, b, c] k2 pt2) pos.line X.env = pure false)
    (h : ∃ i j l, tb.lookup x = some i ∧ tb.lookup y = some j ∧ tb.lookup z = some l ∧ (Nat.beq i j = false ∧ Nat.beq i l = false ∧ Nat.beq j l = false) ∧ (locB names x && locB names y && locB names z) = true ∧
      DAc X [a, b, c] ρ S fun ds S1 => ∃ a b c, ds = [a, b, c] ∧ Nx E (((ρ.set i (some a)).set j (some b)).set l (some c)) S1) : DS X (.Assign [.Tuple [.Name x px, .Name y py, .Name z pz] kt pt] (.Tuple [a, b, c] k2 pt2) pos) ρ S E := by
  obtain ⟨i, j, l, hi, hj, hl, ⟨hij, hil, hjl⟩, hv, h⟩ := h
  rw [Bool.and_eq_true, Bool.and_eq_true] at hv
  exact DS.of (ps_par3 A.calm A.nd (A.slot _ _ hi) (A.slot _ _ hj) (A.slot _ _ hl) (ne_of_beq hij) (ne_of_beq hil) (ne_of_beq hjl) (A.loc _ (locB_of hv.1.1)) (A.loc _ (locB_of hv.1.2)) (A.loc _ (locB_of hv.2)) pa_w hw hs) fun Zh σ H Dn ev k => h.tw ev fun vs H' ds S' t s n r l q => by
    obtain ⟨a, b, c, rfl, q⟩ := q
    obtain ⟨v, r1, rfl, rv, r⟩ := r.uncons
    obtain ⟨u, r2, rfl, ru, r⟩ := r.uncons
    obtain ⟨u3, r3, rfl, ru3, r⟩ := r.uncons
    cases r.un0
    exact ⟨v, u, u3, rfl, k.nx _ _ _ _ t ((((n _ _ ev).put rv).put ru).put ru3) q⟩
theorem vParC {a b : Expr} {kt k2 pt2} (A : At X P w K mg base tb names k) (v : Lcv tb names x i) (u : Lcv tb names y j) (hp : par2B px py x y a b = true)
    (hs : swapsWithSole [.Tuple [.Name x px, .Name y py] kt pt] (.Tuple [a, b] k2 pt2) pos.line X.env = pure false) (hij : Nat.beq i j = false)
    (h : DAc X [a, b] ρ S fun ds S1 => ∃ c d, ds = [c, d] ∧ Nx E ((ρ.set i (some c)).set j (some d)) S1) : DS X (.Assign [.Tuple [.Name x px, .Name y py] kt pt] (.Tuple [a, b] k2 pt2) pos) ρ S E := by
  unfold par2B at hp
  simp only [Bool.and_eq_true, Bool.not_eq_true'] at hp
  obtain ⟨⟨⟨⟨h1, h2⟩, h3⟩, h4⟩, h5⟩ := hp
  exact ds_parC A (sw_some2 A.bk (A.loc _ (locB_of v.lc)) (A.loc _ (locB_of u.lc)) h1 h2 h3 h4 h5) hs ⟨i, j, v.look, u.look, hij, by rw [v.lc, u.lc]; rfl, h⟩
theorem vPar3C {a b c : Expr} {kt k2 pt2} (A : At X P w K mg base tb names k) (v : Lcv tb names x i) (u : Lcv tb names y j) (t : Lcv tb names z l) (hp : par3B px py pz x y z a b c = true)
    (hs : swapsWithSole [.Tuple [.Name x px, .Name y py, .Name z pz] kt pt] (.Tuple [a, b, c] k2 pt2) pos.line X.env = pure false) (hij : Nat.beq i j = false ∧ Nat.beq i l = false ∧ Nat.beq j l = false)
    (h : DAc X [a, b, c] ρ S fun ds S1 => ∃ a b c, ds = [a, b, c] ∧ Nx E (((ρ.set i (some a)).set j (some b)).set l (some c)) S1) : DS X (.Assign [.Tuple [.Name x px, .Name y py, .Name z pz] kt pt] (.Tuple [a, b, c] k2 pt2) pos) ρ S E := by
  unfold par3B at hp
  simp only [Bool.and_eq_true, Bool.not_eq_true'] at hp
  obtain ⟨⟨⟨⟨⟨⟨⟨h1, h2⟩, h3⟩, h4⟩, h5⟩, h6⟩, h7⟩, h8⟩ := hp
  exact ds_par3C A (sw_some3 A.bk (A.loc _ (locB_of v.lc)) (A.loc _ (locB_of u.lc)) (A.loc _ (locB_of t.lc)) h1 h2 h3 h4 h5 h6 h7 h8) hs ⟨i, j, l, v.look, u.look, t.look, hij, by rw [v.lc, u.lc, t.lc]; rfl, h⟩
/-! ### comprehensions with a test -/
theorem lcI_ind {b : Bl} {ok : Nat → Bool} {tg elt c : Expr} {Φ : D → Sto → Prop} (I : List D → Sto → List D → Prop) (step : ∀ d ds S acc, I (d :: ds) S acc → ∀ X', b X' → DG X' ok tg d ρ S fun ρ2 S2 => Box (∀ X', b X' → DT X' c ρ2 S2 fun k S3 => if k = true then Box (∀ X', b X' → DE X' elt ρ2 S3 fun y S4 => Box (I ds S4 (acc ++ [y]))) else Box (I ds S3 acc))) (fin : ∀ S acc, I [] S acc → Φ (.lst acc) S) : ∀ {ds : List D} {S : Sto} {acc : List D}, I ds S acc → LcD b ok tg [c] elt ds ρ S acc Φ
  | [], S, acc, h => fin S acc h
  | d :: ds, S, acc, h => fun X' hX Zh pins s σ H v u Q I' ev r rv k => step d ds S acc h X' hX Zh pins s σ H v u Q I' ev r rv fun σ' H' ρ' S' a b c e f q => k σ' H' ρ' S' a b c e f fun X2 hX2 => fun Zh pins s σ H Q I' ev P => (q.get X2 hX2) Zh pins s σ H Q I' ev fun bb H1 S1 k1 g1 s1 q1 => P bb H1 S1 k1 g1 s1 (by
    cases bb with
    | true =>
      have q2 : Box _ := q1
      exact fun X3 hX3 => (q2.get X3 hX3).mono fun y S4 z => lcI_ind I step fin z.get
    | false =>
      have q2 : Box _ := q1
      exact lcI_ind I step fin q2.get)
end
end Ar
namespace Ar
open PySem PySem.Spec PyProof.Rows L2
section
variable {X : Cx} {ρ : Ro} {S : Sto} {Φ : D → Sto → Prop} {P : Program} {w : World} {K : PySem.W.Frag} {mg : Str → Option Value} {base : Heap} {tb : List (Str × Nat)} {names : List (Str × NameKind)} {k : Nat} {pos p p1 p2 p3 : Pos} {e e2 : Expr} {kk : Nat}
/-! ### while -/
/-- by a word with a measure -/
theorem ds_while {c : Expr} {body : List Stmt} {E : DEnds} (A : At X P w K mg base tb names k) (I : Nat → Ro → Sto → Prop) {m0 : Nat} (h0 : I m0 ρ S)
    (step : ∀ m ρ S, I m ρ S → DT X c ρ S fun b S1 => if b = true then DSs X body ρ S1 { nx := fun r s => Box (∃ m', m' < m ∧ I m' r s), rt := E.rt, bk := E.nx, ct := fun r s => Box (∃ m', m' < m ∧ I m' r s) } else E.nx ρ S1) : DS X (.While c body [] pos) ρ S E :=
  DS.of (ps_while A.own pt_w pss_w) fun Zh σ H Dn ev kk => by
    refine ⟨fun m σ' H' => ∃ ρ' S', Step S H S' H' ∧ Ev X.K Zh H' σ' ρ' S' ∧ I m ρ' S', ⟨m0, ρ, S, Step.refl, ev, h0⟩, ?_⟩
    rintro m σ1 H1 ⟨ρ1, S1, t1, ev1, i1⟩
    refine (step m ρ1 S1 i1).tw ev1 fun b H2 S2 k2 g2 s2 q => ?_
    have ev2 := ev1.next k2 g2 s2
    have t2 := t1.trans (Step.of k2 g2)
    cases b with
    | true =>
      have q2 : DSs X body ρ1 S2 _ := q
      refine ⟨fun σ' H' => ∃ m', m' < m ∧ ∃ ρ' S', Step S H S' H' ∧ Ev X.K Zh H' σ' ρ' S' ∧ I m' ρ' S', ?_, ?_⟩
      · rintro σ' H' ⟨m', hm, ρ', S', t, e, i⟩
        exact ⟨m', hm, ρ', S', t, e, i⟩
      · refine q2.tw ev2 ⟨fun σ' H' ρ' S' t e q => ?_, fun v H' d S' t s r q => kk.rt v H' d S' (t2.trans t) s r q, fun σ' H' ρ' S' t e q => kk.nx σ' H' ρ' S' (t2.trans t) e q, fun σ' H' ρ' S' t e q => ?_⟩
        · obtain ⟨m', hm, i⟩ := q.get
          exact ⟨m', hm, ρ', S', t2.trans t, e, i⟩
        · obtain ⟨m', hm, i⟩ := q.get
          exact ⟨m', hm, ρ', S', t2.trans t, e, i⟩
    | false => exact kk.nx σ1 H2 ρ1 S2 t2 ev2 q
end
/-! ### a dict of written keys, never written again -/
mutual
def noDct : D → Bool
  | .dct _ _ => false
  | .tup l => noDctL l
  | .lst l => noDctL l
  | .frz l => noDctL l
  | _ => true
def noDctL : List D → Bool
  | [] => true
  | d :: l => noDct d && noDctL l
end
theorem ne_dK {H : Hp} {p q : Addr} {o : HO} {kvs : List (Key × V)} (h : H q = some o) (hp : H p = some (.dK kvs)) (n : o ≠ .dK kvs) : q ≠ p := fun e => by
  subst e
  rw [h] at hp
  exact n (Option.some.inj hp)
mutual
theorem Rep.keepP {K : PySem.W.Frag} {Z : List Addr} {H : Hp} {p : Addr} {kvs : List (Key × V)} {o : HO} (hp : H p = some (.dK kvs)) : ∀ {d : D} {v : V}, noDct d = true → Rep K Z H d v → Rep K Z (upd H p o) d v
  | .non, _, _, h => by unfold Rep at h ⊢; exact h
  | .bl _, _, _, h => by unfold Rep at h ⊢; exact h
  | .int _, _, _, h => by unfold Rep at h ⊢; exact h
  | .rng _ _, _, _, h => by unfold Rep at h ⊢; exact h
  | .str _, _, _, h => by unfold Rep at h ⊢; exact h
  | .cell _, _, _, h => by unfold Rep at h ⊢; exact h
  | .dct _ _, _, n, _ => by unfold noDct at n; cases n
  | .tup l, v, n, h => by
    unfold noDct at n
    unfold Rep at h ⊢
    obtain ⟨q, vs, e, s, r⟩ := h
    refine ⟨q, vs, e, ?_, RepL.keepP hp n r⟩
    rcases s with (s | ⟨o', s⟩) | s
    · exact .inl (.inl (by rw [upd_ne (ne_dK s hp (by intro z; cases z))]; exact s))
    · exact .inl (.inr ⟨o', by rw [upd_ne (ne_dK s hp (by intro z; cases z))]; exact s⟩)
    · exact .inr s
  | .lst l, v, n, h => by
    unfold noDct at n
    unfold Rep at h ⊢
    obtain ⟨q, vs, e, m, s, r⟩ := h
    exact ⟨q, vs, e, m, by rw [upd_ne (ne_dK s hp (by intro z; cases z))]; exact s, RepL.keepP hp n r⟩
  | .frz l, v, n, h => by
    unfold noDct at n
    unfold Rep at h ⊢
    obtain ⟨q, vs, e, s, r⟩ := h
    refine ⟨q, vs, e, ?_, RepL.keepP hp n r⟩
    rcases s with ⟨m, s | ⟨o', s⟩⟩ | s
    · exact .inl ⟨m, .inl (by rw [upd_ne (ne_dK s hp (by intro z; cases z))]; exact s)⟩
    · exact .inl ⟨m, .inr ⟨o', by rw [upd_ne (ne_dK s hp (by intro z; cases z))]; exact s⟩⟩
    · exact .inr s
theorem RepL.keepP {K : PySem.W.Frag} {Z : List Addr} {H : Hp} {p : Addr} {kvs : List (Key × V)} {o : HO} (hp : H p = some (.dK kvs)) : ∀ {l : List D} {vs : List V}, noDctL l = true → RepL K Z H l vs → RepL K Z (upd H p o) l vs
  | [], _, _, h => by unfold RepL at h ⊢; exact h
  | d :: l, vs, n, h => by
    unfold noDctL at n
    rw [Bool.and_eq_true] at n
    unfold RepL at h ⊢
    obtain ⟨v, r, e, h1, h2⟩ := h
    exact ⟨v, r, e, Rep.keepP hp n.1 h1, RepL.keepP hp n.2 h2⟩
end
def NoD (S : Sto) : Prop := ∀ p l, (p, l) ∈ S → noDctL l = true
theorem Store.keepP {K : PySem.W.Frag} {Zh : List Addr} {H : Hp} {S : Sto} {p : Addr} {kvs : List (Key × V)} {o : HO} (s : Store K Zh H S) (n : NoD S) (hp : H p = some (.dK kvs)) : Store K Zh (upd H p o) S := by
  refine ⟨s.nd, fun q l m => ?_, fun q hq => ?_⟩
  · obtain ⟨vs, h1, h2⟩ := s.st q l m
    exact ⟨vs, by rw [upd_ne (ne_dK h1 hp (by intro z; cases z))]; exact h1, RepL.keepP hp (n q l m) h2⟩
  · obtain ⟨h1, vs, h2⟩ := s.hid q hq
    exact ⟨h1, vs, by rw [upd_ne (ne_dK h2 hp (by intro z; cases z))]; exact h2⟩
section
variable {X : Cx} {ρ : Ro} {S : Sto} {Φ : D → Sto → Prop} {P : Program} {w : World} {K : PySem.W.Frag} {mg : Str → Option Value} {base : Heap} {tb : List (Str × Nat)} {names : List (Str × NameKind)} {k : Nat} {pos p p1 p2 p3 : Pos} {e e2 : Expr} {kk : Nat}
theorem de_dct4 {a1 a2 a3 a4 : Str} {i1 i2 i3 i4 : Nat} {s1 s2 s3 s4 dp : Pos} {e1 e2 e3 e4 : Expr} (hm : ∀ x y z w : V, mergeK [] [(Sum.inr a1, x), (Sum.inr a2, y), (Sum.inr a3, z), (Sum.inr a4, w)] = [(Sum.inr a1, x), (Sum.inr a2, y), (Sum.inr a3, z), (Sum.inr a4, w)])
    (h : DE X e1 ρ S fun d1 S1 => DE X e2 ρ S1 fun d2 S2 => DE X e3 ρ S2 fun d3 S3 => DE X e4 ρ S3 fun d4 S4 => NoD S4 ∧ (noDct d1 && noDct d2 && noDct d3 && noDct d4) = true ∧ Φ (.dct [a1, a2, a3, a4] [d1, d2, d3, d4]) S4) :
    DE X (.Dict [some (.Constant (.str a1) i1 s1), some (.Constant (.str a2) i2 s2), some (.Constant (.str a3) i3 s3), some (.Constant (.str a4) i4 s4)] [e1, e2, e3, e4] dp) ρ S Φ :=
  DE.of (pe_disp (pps_cons pe_str pe_w (pps_cons pe_str pe_w (pps_cons pe_str pe_w (pps_cons pe_str pe_w pps_nil)))) rfl rfl (List.cons_ne_nil _ _) (Nat.le_of_ble_eq_true rfl)) fun Zh σ H Q E P p hp => by
    have pS : p ∉ keys S := fun m => by
      obtain ⟨vs, e⟩ := E.st.zl p m
      rw [hp] at e
      cases e
    have pZ : p ∉ Zh := fun m => by
      obtain ⟨_, vs, e⟩ := E.st.hid p m
      rw [hp] at e
      cases e
    have g0 : Grow (keys S) H (upd H p (.dK [])) := Grow.new hp
    have E0 := E.next rfl g0 (E.st.new hp)
    have hp0 : (upd H p (.dK [])) p = some (.dK []) := upd_same
    refine h.bind E0 fun v1 H1 d1 S1 k1 g1 E1 r1 h1 => ?_
    refine h1.bind E1 fun v2 H2 d2 S2 k2 g2 E2 r2 h2 => ?_
    refine h2.bind E2 fun v3 H3 d3 S3 k3 g3 E3 r3 h3 => ?_
    refine h3.bind E3 fun v4 H4 d4 S4 k4 g4 E4 r4 h4 => ?_
    obtain ⟨nS, nd, q⟩ := h4
    rw [Bool.and_eq_true, Bool.and_eq_true, Bool.and_eq_true] at nd
    obtain ⟨⟨⟨n1, n2⟩, n3⟩, n4⟩ := nd
    have K2 : keys S2 = keys S := k2.trans k1
    have K3 : keys S3 = keys S := k3.trans K2
    have K4 : keys S4 = keys S := k4.trans K3
    have G4 : Grow (keys S) (upd H p (.dK [])) H4 := ((g1.trans (by rw [← k1]; exact g2)).trans (by rw [← K2]; exact g3)).trans (by rw [← K3]; exact g4)
    have hp4 : H4 p = some (.dK []) := G4 p _ pS hp0
    refine ⟨hp4, [(Sum.inr a1, v1), (Sum.inr a2, v2), (Sum.inr a3, v3), (Sum.inr a4, v4)], rfl, Nat.le_of_ble_eq_true rfl, ?_⟩
    rw [hm]
    have R1 : Rep X.K (keys S4 ++ Zh) H4 d1 v1 := by
      rw [K4]
      have z := E1.st.gr g2 r1
      rw [← k2] at z
      have z2 := E2.st.gr g3 z
      rw [← k3] at z2
      have z3 := E3.st.gr g4 z2
      rw [K3] at z3
      exact z3
    have R2 : Rep X.K (keys S4 ++ Zh) H4 d2 v2 := by
      rw [K4]
      have z2 := E2.st.gr g3 r2
      rw [← k3] at z2
      have z3 := E3.st.gr g4 z2
      rw [K3] at z3
      exact z3
    have R3 : Rep X.K (keys S4 ++ Zh) H4 d3 v3 := by
      rw [K4]
      have z3 := E3.st.gr g4 r3
      rw [K3] at z3
      exact z3
    refine P _ _ _ S4 K4 (fun b x nb hb => ?_) (E4.st.keepP nS hp4) ?_ q
    · have hne : b ≠ p := fun e => by rw [e, hp] at hb; cases hb
      rw [upd_ne hne]
      exact G4 b x nb (by rw [upd_ne hne]; exact hb)
    · unfold Rep
      refine ⟨p, [v1, v2, v3, v4], rfl, fun m => ?_, upd_same, ?_⟩
      · rcases List.mem_append.mp m with m | m
        · exact pS m
        · exact pZ m
      · rw [← K4]
        exact RepL.keepP hp4 (by unfold noDctL; rw [n1]; unfold noDctL; rw [n2]; unfold noDctL; rw [n3]; unfold noDctL; rw [n4]; unfold noDctL; rfl) (.cons R1 (.cons R2 (.cons R3 (.cons r4 .nil))))
theorem zip_val {K : PySem.W.Frag} {Z : List Addr} {H : Hp} {z : Str} {e : D} : ∀ {ks : List Str} {l : List D} {vs : List V}, RepL K Z H l vs → (ks.zip l).lookup z = some e → ∃ v, valV ((ks.map Sum.inr : List Key).zip vs) (Sum.inr z) = some v ∧ Rep K Z H e v
  | [], _, _, _, h => by simp at h
  | _ :: _, [], _, _, h => by simp at h
  | a :: ks, d :: l, vs, r, h => by
    obtain ⟨v, t, rfl, r1, r2⟩ := r.uncons
    rw [List.zip_cons_cons, List.lookup_cons] at h
    by_cases hz : z = a
    · subst hz
      rw [beq_self_eq_true] at h
      cases h
      exact ⟨v, valV_pos (p := ((Sum.inr z : Key), v)) rfl, r1⟩
    · have hb : (z == a) = false := by
        cases hq : z == a with
        | false => rfl
        | true => exact absurd (eq_of_beq hq) hz
      rw [hb] at h
      obtain ⟨u, h1, h2⟩ := zip_val (ks := ks) r2 h
      exact ⟨u, (valV_neg (p := ((Sum.inr a : Key), v)) (fun q => hz (Sum.inr.inj q).symm)).trans h1, h2⟩
theorem de_dctIx {o : Expr} (A : At X P w K mg base tb names k) (hs : NoSl e) (h : DE X o ρ S fun d S1 => DE X e ρ S1 fun c S2 => ∃ ks l z r, d = .dct ks l ∧ c = .str z ∧ (ks.zip l).lookup z = some r ∧ Φ r S2) : DE X (.Subscript o e pos) ρ S Φ := by
  have hu : X.A.units + 1 < cLine := Nat.lt_of_le_of_lt (Nat.add_le_add_left (Nat.le_of_ble_eq_true rfl) _) A.room.units
  exact DE.of (pe_dget hu pe_w pe_w hs) fun Zh σ H Q E P => h.bind E fun x H1 d S1 k1 g1 E1 r1 h1 => h1.bind E1 fun y H2 c S2 k2 g2 E2 r2 h2 => by
    obtain ⟨ks, l, z, r, rfl, rfl, hl, q⟩ := h2
    have r3 : Rep X.K (keys S2 ++ Zh) H2 (.dct ks l) x := by
      rw [k2]
      exact E1.st.gr g2 r1
    obtain ⟨p, vs, rfl, _, hp, rl⟩ := r3.dct
    obtain ⟨v, hv, rv⟩ := zip_val rl hl
    refine ⟨p, v, rfl, ?_, ((P.next k1 g1).next k2 g2).here E2.st rv q⟩
    rw [r2.str, ← hv]
    exact DGet.k (k := Sum.inr z) hp
def DctL (ks : List Str) (l : List D) (Φ : D → Sto → Prop) (c : D) (S : Sto) : Prop := ∃ z r, c = .str z ∧ (ks.zip l).lookup z = some r ∧ Φ r S
theorem DctL_i {ks : List Str} {l : List D} {z : Str} {r : D} (h : (ks.zip l).lookup z = some r) (q : Φ r S) : DctL ks l Φ (.str z) S := ⟨z, r, rfl, h, q⟩
theorem vDctIx {x : Str} {px : Pos} {i : Nat} (A : At X P w K mg base tb names k) (v : Var tb names x i) (hs : NoSl e) (h : ∃ ks l, ρ[i]? = some (some (.dct ks l)) ∧ DE X e ρ S fun c S2 => DctL ks l Φ c S2) : DE X (.Subscript (.Name x px) e pos) ρ S Φ := by
  obtain ⟨ks, l, hρ, h⟩ := h
  exact de_dctIx A hs (vName A v ⟨_, hρ, h.mono fun c S2 ⟨z, r, e1, e2, q⟩ => ⟨ks, l, z, r, rfl, e1, e2, q⟩⟩)
/-! ### in a row of ints; rows compared -/
theorem inV_ints {i : Int} : ∀ l : List Int, inV (.int i) (l.map V.int) = decide (i ∈ l)
  | [] => rfl
  | j :: l => by
    have h := inV_ints (i := i) l
    unfold inV at h ⊢
    rw [List.map_cons, List.any_cons, h]
    have e : eqV (V.int j) (V.int i) = decide (j = i) := rfl
    rw [e]
    by_cases hj : j = i
    · simp [hj]
    · have : i ≠ j := fun q => hj q.symm
      simp [hj, this]
theorem do_inT {i : Int} {l : List Int} (q : Φ (.bl (decide (i ∈ l))) S) : DO X (compareOp .In) (.int i) (.tup (l.map D.int)) S Φ := DO.of op_in_seq fun Zh H x y Q st ra rb P => by
  obtain ⟨p, vs, rfl, sq, rl⟩ := rb.tup
  rw [RepL.ints rl] at sq
  rw [ra.int]
  exact ⟨p, _, rfl, .inr sq, rfl, by rw [List.all_map]; exact List.all_eq_true.mpr fun _ _ => rfl, P.here st rep_bl (by rw [inV_ints]; exact q)⟩
theorem do_notInT {i : Int} {l : List Int} (q : Φ (.bl (!decide (i ∈ l))) S) : DO X (compareOp .NotIn) (.int i) (.tup (l.map D.int)) S Φ := DO.of op_notIn_seq fun Zh H x y Q st ra rb P => by
  obtain ⟨p, vs, rfl, sq, rl⟩ := rb.tup
  rw [RepL.ints rl] at sq
  rw [ra.int]
  exact ⟨p, _, rfl, .inr sq, rfl, by rw [List.all_map]; exact List.all_eq_true.mpr fun _ _ => rfl, P.here st rep_bl (by rw [inV_ints]; exact q)⟩
end
end Ar
namespace Ar
open PySem PySem.Spec PyProof.Rows L2

/-! ### what raises -/
abbrev Xi := Value → Sto → Prop
abbrev XiS := Value → Ro → Sto → Prop
def PostR (K : PySem.W.Frag) (Zh : List Addr) (σ : L2.St) (H : Hp) (S : Sto) (Ξ : Xi) (W : WX) : Prop :=
  ∀ cls H' S', keys S' = keys S → Grow (keys S) H H' → Store K Zh H' S' → Ξ cls S' → W cls none σ H'
def PostRS (K : PySem.W.Frag) (Zh : List Addr) (H : Hp) (S : Sto) (Ξ : XiS) (W : WX) : Prop :=
  ∀ cls σ' H' ρ' S', Step S H S' H' → Ev K Zh H' σ' ρ' S' → Ξ cls ρ' S' → W cls none σ' H'
theorem PostR.next {K : PySem.W.Frag} {Zh : List Addr} {σ : L2.St} {H H1 : Hp} {S S1 : Sto} {Ξ : Xi} {W : WX} (P : PostR K Zh σ H S Ξ W) (k : keys S1 = keys S) (g : Grow (keys S) H H1) : PostR K Zh σ H1 S1 Ξ W := fun c H' S' k' g' s' q =>
  P c H' S' (k'.trans k) (g.trans (by rw [← k]; exact g')) s' q
theorem PostRS.next {K : PySem.W.Frag} {Zh : List Addr} {H H1 : Hp} {S S1 : Sto} {Ξ : XiS} {W : WX} (P : PostRS K Zh H S Ξ W) (s : Step S H S1 H1) : PostRS K Zh H1 S1 Ξ W := fun c σ' H' ρ' S' t e q => P c σ' H' ρ' S' (s.trans t) e q
theorem PostRS.of {K : PySem.W.Frag} {Zh : List Addr} {σ : L2.St} {ρ : Ro} {H : Hp} {S : Sto} {Ξ : XiS} {W : WX} (P : PostRS K Zh H S Ξ W) (E : Ev K Zh H σ ρ S) : PostR K Zh σ H S (fun c S' => Ξ c ρ S') W := fun c H' S' k g s q =>
  P c σ H' ρ S' (.of k g) (E.next k g s) q
def DR (X : Cx) (W : WX) (e : Expr) (ρ : Ro) (S : Sto) (Ξ : Xi) : Prop :=
  ∀ (Zh : List Addr) (pins : List (Addr × Obj)) (s : Shared) (σ : L2.St) (H : Hp) (Q : VK), Inv X pins σ H s → Ev X.K Zh H σ ρ S → PostR X.K Zh σ H S Ξ W → wpAny (model X.prog X.w) X.A (eval e X.env) (EP X pins σ Q) X.xe s
def DRT (X : Cx) (W : WX) (e : Expr) (ρ : Ro) (S : Sto) (Ξ : Xi) : Prop :=
  ∀ (Zh : List Addr) (pins : List (Addr × Obj)) (s : Shared) (σ : L2.St) (H : Hp) (Q : Bool → Hp → Prop), Inv X pins σ H s → Ev X.K Zh H σ ρ S → PostR X.K Zh σ H S Ξ W → wpAny (model X.prog X.w) X.A (isTrue e X.env (eval e X.env)) (TP X pins σ Q) X.xe s
def DRA (X : Cx) (W : WX) (es : List Expr) (ρ : Ro) (S : Sto) (Ξ : Xi) : Prop :=
  ∀ (Zh : List Addr) (pos : Pos) (pins : List (Addr × Obj)) (s : Shared) (σ : L2.St) (H : Hp) (Q : List V → Hp → Prop), Inv X pins σ H s → Ev X.K Zh H σ ρ S → PostR X.K Zh σ H S Ξ W → wpAny (model X.prog X.w) X.A (spliced (backTo pos (starEach es X.env))) (AP X pins σ Q) X.xe s
def DRS (X : Cx) (W : WX) (st : Stmt) (ρ : Ro) (S : Sto) (Ξ : XiS) : Prop :=
  ∀ (Zh : List Addr) (pins : List (Addr × Obj)) (s : Shared) (σ : L2.St) (H : Hp) (Dn : Ends), Inv X pins σ H s → Ev X.K Zh H σ ρ S → PostRS X.K Zh H S Ξ W → wpAny (model X.prog X.w) X.A (exec st X.env) (SP X pins Dn) X.xe s
def DRSs (X : Cx) (W : WX) (st : List Stmt) (ρ : Ro) (S : Sto) (Ξ : XiS) : Prop :=
  ∀ (Zh : List Addr) (pins : List (Addr × Obj)) (s : Shared) (σ : L2.St) (H : Hp) (Dn : Ends), Inv X pins σ H s → Ev X.K Zh H σ ρ S → PostRS X.K Zh H S Ξ W → wpAny (model X.prog X.w) X.A (execs st X.env) (SP X pins Dn) X.xe s
section
variable {X : Cx} {W : WX} {ρ : Ro} {S : Sto} {Ξ : Xi} {Θ : XiS} {e a b : Expr} {es : List Expr} {st : Stmt} {sts : List Stmt} {pos p : Pos}
theorem DR.of {t : TE} (p : PE X e t) (h : ∀ Zh σ H Q, Ev X.K Zh H σ ρ S → PostR X.K Zh σ H S Ξ W → t σ H Q) : DR X W e ρ S Ξ := fun Zh pins s σ H Q I E q => p.run pins s σ H Q I (h Zh σ H Q E q)
theorem DRT.of {t : TT} (p : PT X e t) (h : ∀ Zh σ H Q, Ev X.K Zh H σ ρ S → PostR X.K Zh σ H S Ξ W → t σ H Q) : DRT X W e ρ S Ξ := fun Zh pins s σ H Q I E q => p.run pins s σ H Q I (h Zh σ H Q E q)
theorem DRA.of {t : TA} (p : PA X es t) (h : ∀ Zh σ H Q, Ev X.K Zh H σ ρ S → PostR X.K Zh σ H S Ξ W → t σ H Q) : DRA X W es ρ S Ξ := fun Zh pos pins s σ H Q I E q => p.run pos pins s σ H Q I (h Zh σ H Q E q)
theorem DRS.of {t : TS} (p : PS X st t) (h : ∀ Zh σ H Dn, Ev X.K Zh H σ ρ S → PostRS X.K Zh H S Θ W → t Dn σ H) : DRS X W st ρ S Θ := fun Zh pins s σ H Dn I e k => p.run pins s σ H Dn I (h Zh σ H Dn e k)
theorem DRSs.of {t : TS} (p : PSs X sts t) (h : ∀ Zh σ H Dn, Ev X.K Zh H σ ρ S → PostRS X.K Zh H S Θ W → t Dn σ H) : DRSs X W sts ρ S Θ := fun Zh pins s σ H Dn I e k => p.run pins s σ H Dn I (h Zh σ H Dn e k)
theorem DR.tw {Zh : List Addr} {σ : L2.St} {H : Hp} {Q : VK} (h : DR X W e ρ S Ξ) (E : Ev X.K Zh H σ ρ S) (q : PostR X.K Zh σ H S Ξ W) : tW X e σ H Q := fun pins s I => h Zh pins s σ H Q I E q
theorem DRT.tw {Zh : List Addr} {σ : L2.St} {H : Hp} {Q : Bool → Hp → Prop} (h : DRT X W e ρ S Ξ) (E : Ev X.K Zh H σ ρ S) (q : PostR X.K Zh σ H S Ξ W) : ttW X e σ H Q := fun pins s I => h Zh pins s σ H Q I E q
theorem DRA.tw {Zh : List Addr} {σ : L2.St} {H : Hp} {Q : List V → Hp → Prop} (h : DRA X W es ρ S Ξ) (E : Ev X.K Zh H σ ρ S) (q : PostR X.K Zh σ H S Ξ W) : taW X es σ H Q := fun pos pins s I => h Zh pos pins s σ H Q I E q
theorem DRS.tw {Zh : List Addr} {σ : L2.St} {H : Hp} {Dn : Ends} (h : DRS X W st ρ S Θ) (e : Ev X.K Zh H σ ρ S) (k : PostRS X.K Zh H S Θ W) : tsW X st Dn σ H := fun pins s I => h Zh pins s σ H Dn I e k
theorem DRSs.tw {Zh : List Addr} {σ : L2.St} {H : Hp} {Dn : Ends} (h : DRSs X W sts ρ S Θ) (e : Ev X.K Zh H σ ρ S) (k : PostRS X.K Zh H S Θ W) : tssW X sts Dn σ H := fun pins s I => h Zh pins s σ H Dn I e k
/-! expressions -/
theorem dra_head (hs : starEach (e :: es) X.env = (false, eval e X.env) :: starEach es X.env) (h : DR X W e ρ S Ξ) : DRA X W (e :: es) ρ S Ξ := DRA.of (pa_cons pe_w pa_w hs) fun Zh σ H Q E P => h.tw E P
theorem dra_tail (hs : starEach (e :: es) X.env = (false, eval e X.env) :: starEach es X.env) (h : DE X e ρ S fun _ S1 => DRA X W es ρ S1 Ξ) : DRA X W (e :: es) ρ S Ξ := DRA.of (pa_cons pe_w pa_w hs) fun Zh σ H Q E P => h.bind E fun v H1 d S1 k1 g1 E1 r1 h1 => h1.tw E1 (P.next k1 g1)
theorem dr_binL {op : Operator} (h : DR X W a ρ S Ξ) : DR X W (.BinOp a op b pos) ρ S Ξ := DR.of (pe_op op_w pe_w pe_w) fun Zh σ H Q E P => h.tw E P
theorem dr_binR {op : Operator} (h : DE X a ρ S fun _ S1 => DR X W b ρ S1 Ξ) : DR X W (.BinOp a op b pos) ρ S Ξ := DR.of (pe_op op_w pe_w pe_w) fun Zh σ H Q E P => h.bind E fun v H1 d S1 k1 g1 E1 r1 h1 => h1.tw E1 (P.next k1 g1)
theorem dr_cmpL {op : CmpOp} (hm : behindInMarks op b = false) (h : DR X W a ρ S Ξ) : DR X W (.Compare a [op] [b] pos) ρ S Ξ := DR.of (pe_cmpR op_w pe_w pe_w hm) fun Zh σ H Q E P => h.tw E P
theorem drt_cmpL {op : CmpOp} (hm : behindInMarks op b = false) (h : DR X W a ρ S Ξ) : DRT X W (.Compare a [op] [b] pos) ρ S Ξ := DRT.of (pt_cmpR op_w pe_w pe_w hm) fun Zh σ H Q E P => h.tw E P
theorem drt_not (h : DRT X W a ρ S Ξ) : DRT X W (.UnaryOp .Not a pos) ρ S Ξ := DRT.of (pt_not pt_w) fun Zh σ H Q E P => h.tw E P
theorem dr_tup {x1} (h : DRA X W es ρ S Ξ) : DR X W (.Tuple es x1 pos) ρ S Ξ := DR.of (pe_tup pa_w) fun Zh σ H Q E P => h.tw E P
theorem dr_slHi {hi : Expr} {p2 : Pos} (h : DR X W a ρ S Ξ) : DR X W (.Subscript a (.Slice none (some hi) none p2) pos) ρ S Ξ := DR.of (pe_slice sl_any pe_w po_none (po_some pe_w)) fun Zh σ H Q E P => h.tw E P
theorem dr_revT {k : Nat} {p1 p2 p3 : Pos} (h : DR X W e ρ S Ξ) : DR X W (.Subscript e (.Slice none none (some (.UnaryOp .USub (.Constant (.int 1) k p1) p2)) p3) pos) ρ S Ξ := DR.of (pe_revT pe_w) fun Zh σ H Q E P => h.tw E P
theorem dr_ix (hp : PlainIx b) (h : DR X W a ρ S Ξ) : DR X W (.Subscript a b pos) ρ S Ξ := DR.of (pe_ix ix_list pe_w pe_w hp) fun Zh σ H Q E P => h.tw E P
/-! statements -/
theorem drs_ret (h : DR X W e ρ S fun c S1 => Θ c ρ S1) : DRS X W (.Return (some e) pos) ρ S Θ := DRS.of (ps_ret pe_w) fun Zh σ H Dn ev k => h.tw ev (k.of ev)
theorem drs_expr (hs : swapsWith e none pos.line X.env = pure false) (h : DR X W e ρ S fun c S1 => Θ c ρ S1) : DRS X W (.Expr e pos) ρ S Θ := DRS.of (ps_expr pe_w hs) fun Zh σ H Dn ev k => h.tw ev (k.of ev)
theorem drs_if {c : Expr} {t u : List Stmt} (h : DT X c ρ S fun k S1 => if k = true then DRSs X W t ρ S1 Θ else DRSs X W u ρ S1 Θ) : DRS X W (.If c t u pos) ρ S Θ := DRS.of (ps_if pt_w pss_w pss_w) fun Zh σ H Dn ev k =>
  h.tw ev fun c H1 S1 k1 g1 s1 q => by
    have ev1 := ev.next k1 g1 s1
    have k2 := k.next (Step.of k1 g1)
    cases c with
    | true => exact q.tw ev1 k2
    | false => exact q.tw ev1 k2
theorem drs_ifT {c : Expr} {t u : List Stmt} (h : DRT X W c ρ S fun c S1 => Θ c ρ S1) : DRS X W (.If c t u pos) ρ S Θ := DRS.of (ps_if pt_w pss_w pss_w) fun Zh σ H Dn ev k => h.tw ev (k.of ev)
theorem drss_here (h : DRS X W st ρ S Θ) : DRSs X W (st :: sts) ρ S Θ := DRSs.of (pss_cons ps_w pss_w) fun Zh σ H Dn ev k => h.tw ev k
theorem drss_next (h : DS X st ρ S { nx := fun r s => DRSs X W sts r s Θ, rt := fun _ _ => False }) : DRSs X W (st :: sts) ρ S Θ := DRSs.of (pss_cons ps_w pss_w) fun Zh σ H Dn ev k =>
  h.tw ev ⟨fun σ' H' ρ' S' t e' q => q.tw e' (k.next t), fun _ _ _ _ _ _ _ q => q.elim, fun _ _ _ _ _ _ q => q.elim, fun _ _ _ _ _ _ q => q.elim⟩
variable {P : Program} {w : World} {K : PySem.W.Frag} {mg : Str → Option Value} {base : Heap} {tb : List (Str × Nat)} {names : List (Str × NameKind)} {k : Nat}
theorem drs_set {x : Str} {i : Nat} (A : At X P w K mg base tb names k) (v : Stv tb names x i) (hs : swapsWith e (some (.Name x p)) pos.line X.env = pure false) (h : DR X W e ρ S fun c S1 => Θ c ρ S1) : DRS X W (.Assign [.Name x p] e pos) ρ S Θ :=
  DRS.of (ps_set A.nd (A.slot _ _ v.look) (A.sto _ v.st).1 pe_w hs (A.sto _ v.st).2) fun Zh σ H Dn ev k => h.tw ev (k.of ev)

/-! ### raise C() of an own class -/
structure ExcK (K : PySem.W.Frag) (mg : Str → Option Value) (x : Str) (C : Addr) : Prop where
  xg : mg x = some (.ref C)
  xk : PySem.W.excIn K C [.type "ValueError", .type "Exception", .type "BaseException", .type "object"] "ValueError.__new__" = true
  kp : PySem.W.keepIn K (.ref C) = true
  sb : PySem.W.subIn K (.ref C) (.type "BaseException") = some true
  ty : PySem.W.typeIn K (.ref C) = some (.type "type")
  is : ExcC K C
theorem pmk_own0 {C : Addr} {bmB : List Value} {B newId initId : String} {x : Str} (F : ExcBaseFacts B newId initId bmB) (q : PySem.W.excIn X.K C bmB newId = true) (gC : X.mg x = some (.ref C)) (kC : PySem.W.keepIn X.K (.ref C) = true) (r : Raises X (.ref C)) (hg : Gl X x)
    (hdb : (x == ("__debug__" : Str)) = false) : PMk X (.Call (.Name x p) [] [] pos) (fun _ H Q => Q (.ref C) none H) := by
  intro pins s σ H Q I h
  refine wpAny_Call_Name_kw (ld_glob I hg gC ?_ hdb)
  refine PySem.W.callWith_K0 I.kIn kC ?_
  rw [List.append_nil]
  obtain ⟨bm, N, nm, qn, bs, hdct, sn, sub, ab, col, dd, k0, k1, k2, k3, k5, mN, hC, hN, hni, T⟩ := exc_obj I.kIn q
  obtain ⟨hp, g, d, t, os⟩ := s
  refine wpAny_call_exc_subT F T hC hN hni (fun h' e hm => ?_) (by show 0 ≤ sizeLine; omega)
  exact mk_of I hm r h (I.hok.gone hm.new)
theorem drs_raise {x : Str} {C : Addr} {p' : Pos} (A : At X P w K mg base tb names k) (tk : Takes X W) (x0 : ExcK K mg x C) (g : Glo names x) (q : Θ (.ref C) ρ S) : DRS X W (.Raise (some (.Call (.Name x p) [] [] p')) none pos) ρ S Θ := by
  have hK := A.K
  have hm := A.mg
  subst hK hm
  have gg := glB_of g.g
  exact DRS.of (ps_raise A.calm tk (pmk_own0 PySem.F.excBase_ValueError x0.xk x0.xg x0.kp (raises_own x0.sb x0.ty) (A.gl _ gg.2) (plain1 gg.1).1)) fun Zh σ H Dn ev k => k _ σ H ρ S Step.refl ev q
/-! ### a def that raises -/
abbrev SpecR := List D → Sto → Xi → Prop
def spR (K : PySem.W.Frag) (n : Nat) (B : SpecR) : Sp := fun vs H Q E => vs.length = n ∧ ∃ Zh ds S Ξ, Store K Zh H S ∧ RepL K (keys S ++ Zh) H ds vs ∧ B ds S Ξ ∧ ∀ cls H' S', keys S' = keys S → Grow (keys S) H H' → Store K Zh H' S' → Ξ cls S' → E cls none H'
structure FnR (P : Program) (w : World) (K : PySem.W.Frag) (mg : Str → Option Value) (base : Heap) (x : Str) (n k : Nat) (B : SpecR) : Prop where
  ex : ∃ f fd ps, FnOk P w K mg base (L2.CX P w) k f fd ps (spR K n B) ∧ mg x = some (.ref f) ∧ PySem.W.keepIn K (.ref f) = true ∧ Binds K fd ps [] ∧ ps.length = n ∧ FdAt K f fd
theorem dr_call {x : Str} {n j : Nat} {B : SpecR} (A : At X P w K mg base tb names k) (tk : Takes X W) (F : FnR P w K mg base x n j B) (g : Glo names x) (hc : (Nat.ble j k && Nat.beq (e :: es).length n) = true)
    (he : starEach (e :: es) X.env = (false, eval e X.env) :: starEach es X.env) (hpl : (backTo pos (starEach es X.env)).any (·.1) = false)
    (h : DA X (e :: es) ρ S fun ds S1 => B ds S1 Ξ) : DR X W (.Call (.Name x p) (e :: es) [] pos) ρ S Ξ := by
  rw [Bool.and_eq_true] at hc
  obtain ⟨hj, hn⟩ := hc
  have gg := glB_of g.g
  obtain ⟨f, fd, ps, F, m, kp, b, _⟩ := F.ex
  cases A.prog
  cases A.w
  cases A.K
  cases A.mg
  cases A.base
  exact DR.of (pe_callS F (A.room.mono (Nat.le_of_ble_eq_true hj)) (A.gl _ gg.2) m kp b (fun σ => passAt tk σ) pa_w (plain1 gg.1).1 he hpl) fun Zh σ H Q E P => h.tw E fun vs H1 ds S1 k1 g1 s1 r1 l1 q1 => by
    refine ⟨?_, Zh, ds, S1, Ξ, s1, by rw [k1]; exact r1, q1, fun c H' S' k' g' s' q => (P.next k1 g1) c H' S' k' g' s' q⟩
    rw [r1.length, l1]
    exact Nat.eq_of_beq_eq_true hn
/-- an argument raises -/
theorem dr_callA {x : Str} {n j : Nat} {B : Spec} (A : At X P w K mg base tb names k) (F : Fn P w K mg base x n j B) (g : Glo names x) (hc : (Nat.ble j k && Nat.beq (e :: es).length n) = true)
    (he : starEach (e :: es) X.env = (false, eval e X.env) :: starEach es X.env) (hpl : (backTo pos (starEach es X.env)).any (·.1) = false)
    (h : DRA X W (e :: es) ρ S Ξ) : DR X W (.Call (.Name x p) (e :: es) [] pos) ρ S Ξ := by
  rw [Bool.and_eq_true] at hc
  obtain ⟨hj, hn⟩ := hc
  have gg := glB_of g.g
  obtain ⟨f, fd, ps, F, m, kp, b, _⟩ := F.ex
  cases A.prog
  cases A.w
  cases A.K
  cases A.mg
  cases A.base
  exact DR.of (pe_call F (A.room.mono (Nat.le_of_ble_eq_true hj)) (A.gl _ gg.2) m kp b .nil pass0 pa_w (plain1 gg.1).1 he hpl) fun Zh σ H Q E P => h.tw E P
theorem dr_callAR {x : Str} {n j : Nat} {B : SpecR} (A : At X P w K mg base tb names k) (tk : Takes X W) (F : FnR P w K mg base x n j B) (g : Glo names x) (hc : (Nat.ble j k && Nat.beq (e :: es).length n) = true)
    (he : starEach (e :: es) X.env = (false, eval e X.env) :: starEach es X.env) (hpl : (backTo pos (starEach es X.env)).any (·.1) = false)
    (h : DRA X W (e :: es) ρ S Ξ) : DR X W (.Call (.Name x p) (e :: es) [] pos) ρ S Ξ := by
  rw [Bool.and_eq_true] at hc
  obtain ⟨hj, hn⟩ := hc
  have gg := glB_of g.g
  obtain ⟨f, fd, ps, F, m, kp, b, _⟩ := F.ex
  cases A.prog
  cases A.w
  cases A.K
  cases A.mg
  cases A.base
  exact DR.of (pe_callS F (A.room.mono (Nat.le_of_ble_eq_true hj)) (A.gl _ gg.2) m kp b (fun σ => passAt tk σ) pa_w (plain1 gg.1).1 he hpl) fun Zh σ H Q E P => h.tw E P
/-- a built-in's argument raises -/
theorem dr_cB {id : String} {x : Str} {r : List V → Hp → VK → Prop} (A : At X P w K mg base tb names k) (G : NoB mg) (hc : CallR X (.builtin id) r) (hv : bootBuiltins x = some (.builtin id)) (hg : (bltB x && glB names x) = true)
    (he : starEach (e :: es) X.env = (false, eval e X.env) :: starEach es X.env) (hpl : (backTo pos (starEach es X.env)).any (·.1) = false) (h : DRA X W (e :: es) ρ S Ξ) : DR X W (.Call (.Name x p) (e :: es) [] pos) ρ S Ξ := by
  rw [Bool.and_eq_true] at hg
  have z := glB_of hg.2
  exact DR.of (pe_callB hc (A.gl _ z.2) (by rw [A.mg]; exact G.no _ hg.1) hv pa_w (plain1 z.1).2.2 (plain1 z.1).1 he hpl) fun Zh σ H Q E P => h.tw E P
end
/-- the body's frame -/
def cxX (P : Program) (w : World) (K : PySem.W.Frag) (mg : Str → Option Value) (base : Heap) (N : List Str) (qual : Str) (sc : Scope) (f : Addr) (cd : Value) (A : Around) (outer : List Env) (s : Shared) (H : Hp) (E : XK) : Cx := cxOf (L2.CX P w) P w K mg base N qual sc f cd A outer s H E
section
variable {P : Program} {w : World} {K : PySem.W.Frag} {mg : Str → Option Value} {base : Heap}
theorem at_defX {N ps : List Str} {tb : List (Str × Nat)} (ht : ∀ x i, tb.lookup x = some i → N[i]? = some x) (hc : ∀ x, x ∈ N → (tb.lookup x).isSome = true) {qual : Str} {sc : Scope} {f : Addr} {cd : Value} {A : Around} {outer : List Env} {s : Shared} {H : Hp} {E : XK} {k : Nat} (F : FnScope N ps sc) (hr : Room k (A.deeper (envOfC qual sc s.heap.objs.size f cd))) :
    At (cxOf (L2.CX P w) P w K mg base N qual sc f cd A outer s H E) P w K mg base tb sc.names k :=
  let Z := at_def (P := P) (w := w) (K := K) (mg := mg) (base := base) (qual := qual) (f := f) (cd := cd) (A := A) (outer := outer) (s := s) (H := H) (E := E) ht hc F hr
  ⟨rfl, rfl, rfl, rfl, rfl, ht, hc, Z.vis, Z.gl, Z.sto, Z.loc, Z.cf, F.kind, hr, rfl, F.nd, PassesOwn.leaving⟩
theorem Has.fnR {tb : List (Str × Nat)} {x : Str} {st : Stmt} {N ps : List Str} {k n : Nat} {names : List (Str × NameKind)} {B : SpecR} (F : Has K mg x st ps) (Sc : FnScope N ps (defScope st)) (hn : ps.length = n) (hnm : (defScope st).names = names) (ht : tbOk N tb = true)
    (body : ∀ X W, At X P w K mg base tb names k → Takes X W → ∀ ds S Ξ, ds.length = n → B ds S Ξ → DRSs X W (defBody st) (ds.map some ++ List.replicate (N.length - ds.length) none) S fun c _ S' => ∃ S2 R, S' = S2 ++ R ∧ keys S2 = keys S ∧ Ξ c S2) : FnR P w K mg base x n (k + 1) B := by
  obtain ⟨f, fd, F, hm, hb⟩ := F
  refine ⟨f, fd, ps, F.okX Sc (fun vs H Q E h => by rw [h.1, hn]) (fun cdv A outer s H vs Q E hr h => ?_), hm, F.kp, hb, hn, .of F⟩
  obtain ⟨hl, Zh, ds, S, Ξ, hS, hR, hB, hP⟩ := h
  have hat := at_defX (P := P) (w := w) (K := K) (mg := mg) (base := base) (qual := x) (f := f) (cd := cdv) (A := A) (outer := outer) (s := s) (H := H) (E := E) (tbOk_of ht) (tbOk_cov ht) Sc hr
  rw [hnm] at hat
  have b := body _ (fun cls d _ H => E cls d H) hat (takes_of rfl rfl rfl rfl) ds S Ξ (by rw [← hR.length]; exact hl) hB
  refine ⟨_, pss_w, b.tw (ev_start hS hR) ?_⟩
  rintro c σ' H' ρ' S' t ev ⟨S2, R, rfl, hk, q⟩
  exact hP c H' S2 hk t.1 ev.st.drop q
end
end Ar
namespace L2
open PySem PySem.Spec PyProof.Rows
/-- what clauses 'except x as n', one after the other, wish: slot i is n's -/
def wManyAs (K : PySem.W.Frag) (i : Nat) (Wout : WX) (D : Ends) : List (Value × (Addr → Value → Option Addr → TS)) → WX
  | [] => Wout
  | (c, ts) :: r => fun cls d σ H => ∃ b, PySem.W.exmOne K cls c = some b ∧ (b = true → ∀ a, H a = none → ts a cls d { nx := fun σ' H' => D.nx (σ'.set i none) H', rt := D.rt, bk := fun σ' H' => D.bk (σ'.set i none) H', ct := fun σ' H' => D.ct (σ'.set i none) H' } (σ.set i (some (.ref a))) H) ∧
    (b = false → wManyAs K i Wout D r cls d σ H)
inductive HdsAs (X : Cx) (n : Str) : List ExceptHandler → List (Value × (Addr → Value → Option Addr → TS)) → Prop
  | nil : HdsAs X n [] []
  | cons {x : Str} {c : Value} {ts : Addr → Value → Option Addr → TS} {b₀ : Stmt} {suite : List Stmt} {np pos' : Pos} {hds : List ExceptHandler} {l : List (Value × (Addr → Value → Option Addr → TS))} (hc : Names X x c)
      (hsu : ∀ (a : Addr) (oe : Obj) (cls : Value) (d : Option Addr) (pn : List (Addr × Obj)), Zc cls d oe → (∃ vs, oe.data = .fields vs) → PSs (X.suite a ((a, oe) :: pn)) (b₀ :: suite) (ts a cls d)) (r : HdsAs X n hds l) :
      HdsAs X n (.ExceptHandler (some (.Name x np)) (some n) (b₀ :: suite) pos' :: hds) ((c, ts) :: l)
section
variable {X : Cx} {n : Str} {i : Nat} {body : List Stmt} {h₀ : ExceptHandler} {hds : List ExceptHandler} {l : List (Value × (Addr → Value → Option Addr → TS))} {pos : Pos} {tb : WX → TS} {Wout : WX}
theorem ps_try_manyAs (hs : X.stack = X.env :: X.outer) (hf : X.env.frame = some X.env.locals) (hN : X.N.Nodup) (hi : X.N[i]? = some n) (hln : X.env.kindOf n = some .local) (tk : Takes X Wout)
    (hb : ∀ (W : WX) (pn : List (Addr × Obj)) (xe : Value → Shared → Prop), Takes (X.tr pn xe) W → PassesOwn (model X.prog X.w) X.A X.env xe → PSs (X.tr pn xe) body (tb W))
    (hh : HdsAs X n (h₀ :: hds) l) : PS X (.Try body (h₀ :: hds) [] [] pos) (fun D σ H => tb (wManyAs X.K i Wout D l) D σ H) := by
  refine ⟨fun pins s σ H D I h => ?_⟩
  have ok := I.ok
  have hfr : X.A.frames = some (X.env :: X.outer) := by rw [ok.frames, hs]
  have hloc : Loc X.env.scope n := .inl hln
  refine wpAny_Try_except ?_
  refine wpAny_mono ((hb (wManyAs X.K i Wout D l) (X.pn ++ pins) (fun e s₁ => wpAny (model X.prog X.w) X.A (noteFrame e X.env) (fun _ s₂ => wpAny (model X.prog X.w) X.A (setFlight e none) (fun _ s₃ =>
    wpAny (model X.prog X.w) X.A (handleBy e X.env (h₀ :: hds)) (SP X pins D) X.xe s₃) X.xe s₂) X.xe s₁) (fun u s' xx => ?_) PassesOwn.looking).run [] s σ H D (I.toTry _) h) (fun f s1 hsp => ?_) (fun e s1 he => he)
  · obtain ⟨a, B, sI, pins', σ', H', cls, d, rfl, J', nb, up, sky, na, os, ag, w⟩ := xx
    have J : Inv X pins σ' H' sI := J'.ofTry ok
    have sky' : Sky B (X.env :: X.outer) a (Zc cls d) X.env.locals s'.heap := by rw [← hs]; exact sky
    show wpAny (model X.prog X.w) X.A (noteFrame (.ref a) X.env) _ _ _
    refine Sky.land Zc.steady hfr hf sky' fun h3 fl3 up3 => ?_
    have J3 : Inv X pins σ' H' { s' with heap := h3 } := J.landed nb fl3.1 (up.trans up3) os ag
    obtain ⟨oe3, vs3, he3, hz3, hd3⟩ := fl3.there
    have notFr : ∀ {h : Heap} {o : Obj} {vs : Array Value}, h.FunFrames B (X.env :: X.outer) → h.get? a = some o → o.data = .fields vs → a ∉ frs (X.env :: X.outer) := fun {h o vs} ff e dd hm => by
      obtain ⟨_, o', e', hnf⟩ := ff.mem hm
      rw [e] at e'; cases e'
      exact hnf _ dd
    have nfr := notFr fl3.2.2.1 he3 hd3
    have nL : a ≠ X.env.locals := fun z => nfr (List.mem_filterMap.mpr ⟨X.env, List.mem_cons_self, by rw [hf, z]⟩)
    have nF : a ∉ X.fs := fun hm => by
      obtain ⟨e, he, q⟩ := List.mem_filterMap.mp hm
      exact nfr (List.mem_filterMap.mpr ⟨e, List.mem_cons_of_mem _ he, q⟩)
    have S3 := J3.suite he3 hd3 na nL nF
    have go : ∀ {hds' : List ExceptHandler} {l' : List (Value × (Addr → Value → Option Addr → TS))}, HdsAs X n hds' l' → wManyAs X.K i Wout D l' cls d σ' H' →
        wpAny (model X.prog X.w) X.A (handleBy (.ref a) X.env hds') (SP X pins D) X.xe { s' with heap := h3 } := by
      intro hds' l' hk
      induction hk with
      | nil =>
        intro w
        refine wpAny_handleBy_nil ?_
        obtain ⟨k1, k2, k3, oe, vs, T, oT, ts', he, hz, hd, h1, hr⟩ := id fl3
        unfold PySem.passOn
        refine wpAny_bind (wpAny_field he hd h1 ?_)
        rw [if_neg (show ¬ ((Value.ref T == Value.none) = true) from by simp)]
        have fin : wpAny (model X.prog X.w) X.A (setFlight (.ref a) X.env.frame) (fun _ s4 => wpAny (model X.prog X.w) X.A (throw (.ref a) : Sem Flow) (SP X pins D) X.xe s4) X.xe { s' with heap := h3 } := by
          rw [hf]
          refine HandSPX.setFlight_upZ fl3 fun h4 hh4 up4 => wpAny_throw (tk _ _ ?_)
          exact ⟨a, B, sI, pins, σ', H', cls, d, rfl, J, nb, (up.trans up3).trans up4, .inr (.inr (by rw [hs]; exact hh4)), na, os, ag, w⟩
        first
          | exact wpAny_bind (wpAny_pure (wpAny_bind fin))
          | exact wpAny_bind fin
      | @cons x c ts b₀ suite np pos' hds2 l2 hc hsu r ih =>
        intro w
        obtain ⟨b, hb1, hyes, hno⟩ := w
        refine wpAny_handleBy_cons (codeAny_handlers_test ?_) (by intro q; cases q)
        have LT : PySem.W.Looks (model X.prog X.w) h3 (typeOf (.ref a)) cls := fun A Q E s k q => wpAny_typeOf_ref (k _ _ he3) (by rw [hz3.1]; exact q)
        have LM := PySem.W.exm_one (M := model X.prog X.w) (J3.kIn) LT hb1
        have test : ∀ {Q : Value → Shared → Prop} {E : Value → Shared → Prop}, Q c { s' with heap := h3 } → wpAny (model X.prog X.w) (X.A.mark (some (.ref a))) (eval (.Name x np) X.env) Q E { s' with heap := h3 } := fun {Q E} q => by
          obtain ⟨hg, hdbg, hm | ⟨hm, hv, hnn⟩⟩ := hc
          · exact ld_glob (X := X.suite a ((a, oe3) :: (X.pn ++ pins))) S3 hg hm q hdbg
          · exact ld_blt (X := X.suite a ((a, oe3) :: (X.pn ++ pins))) S3 hg hm hv q hnn hdbg
        refine test (LM.here ?_)
        cases b with
        | true =>
          refine codeAny_handlers_suite_as ?_
          refine HandSPX.lands_againZ fl3 fun h4 fl4 up4 => ?_
          have J4 : Inv X pins σ' H' { s' with heap := h4 } := J.landed nb fl4.1 ((up.trans up3).trans up4) os ag
          obtain ⟨oe4, vs4, he4, hz4, hd4⟩ := fl4.there
          have S4 := J4.suite he4 hd4 na nL nF
          refine store_ok (X := X.suite a ((a, oe4) :: (X.pn ++ pins))) (v := .ref a) S4 hN hi hloc rfl (fun s5 S5 => ?_) (.inr hln)
          refine wpAny_mono ((hsu a oe4 cls d (X.pn ++ pins) hz4 ⟨_, hd4⟩).run [] s5 _ H' _ S5 (hyes rfl a na)) (fun f s6 hsp => ?_) (fun _ _ z => False.elim z)
          have end_ : ∀ {σ6 : St} {H6 : Hp} {Q : Shared → Prop}, Inv (X.suite a ((a, oe4) :: (X.pn ++ pins))) [] σ6 H6 s6 → (∀ s7, Inv X pins (σ6.set i none) H6 s7 → Q s7) →
              wpAny (model X.prog X.w) X.A (do bindName X.env n .none; unbindBehindTheSuite X.env n pos') (fun _ s7 => Q s7) X.xe s6 := fun {σ6 H6 Q} S6 hq => gone_ok (S6.unsuite ok) hN hi hln hq
          cases f with
          | next =>
            obtain ⟨σ6, H6, S6, q6⟩ := hsp
            exact end_ S6 fun s7 J7 => ⟨_, _, J7, q6⟩
          | brk =>
            obtain ⟨σ6, H6, S6, q6⟩ := hsp
            exact end_ S6 fun s7 J7 => ⟨_, _, J7, q6⟩
          | cont =>
            obtain ⟨σ6, H6, S6, q6⟩ := hsp
            exact end_ S6 fun s7 J7 => ⟨_, _, J7, q6⟩
          | ret u =>
            obtain ⟨v6, σ6, H6, S6, r6, q6⟩ := hsp
            exact end_ S6 fun s7 J7 => ⟨_, _, _, J7, r6, q6⟩
        | false =>
          show wpAny _ X.A (handleBy (.ref a) X.env hds2) _ _ _
          exact ih (hno rfl)
    exact go hh w
  · cases f with
    | next =>
      obtain ⟨σ', H', J', q⟩ := hsp
      exact wpAny_execs_nil ⟨σ', H', J'.ofTry ok, q⟩
    | brk =>
      obtain ⟨σ', H', J', q⟩ := hsp
      exact ⟨σ', H', J'.ofTry ok, q⟩
    | cont =>
      obtain ⟨σ', H', J', q⟩ := hsp
      exact ⟨σ', H', J'.ofTry ok, q⟩
    | ret u =>
      obtain ⟨v, σ', H', J', r, q⟩ := hsp
      exact ⟨v, σ', H', J'.ofTry ok, r, q⟩
end
/-- isinstance(e, (c1, c2, ..)), e the exception that the suite holds -/
def rIsET (K : PySem.W.Frag) (D a : Addr) : List V → Hp → VK → Prop := fun xs H Q => ∃ (tp : Addr) (cs : List V) (us : List Value) (b : Bool), xs = [.ref a, .ref tp] ∧ H tp = some (.tup cs) ∧ Paired ClsV cs us ∧ PySem.W.kitAny K (.ref D) us = some b ∧ Q (.bl b) H
theorem call_isET {X : Cx} {a D : Addr} {oe : Obj} {pn : List (Addr × Obj)} (C : ExcC X.K D) (hz : Zc (.ref D) none oe) (hf : ∃ vs, oe.data = .fields vs) : CallR (X.suite a ((a, oe) :: pn)) (.builtin "isinstance") (rIsET X.K D a) := by
  intro pins s σ H xs us Q I r h
  obtain ⟨tp, cs, ws, b, rfl, hT, k, e, q⟩ := h
  obtain ⟨u1, u2, rfl, r1, r2⟩ := vals2 r
  cases (show u2 = Value.ref tp from r2)
  cases (show u1 = Value.ref a from r1)
  obtain ⟨hget, _⟩ := I.pin (a, oe) (List.mem_append.mpr (.inl List.mem_cons_self))
  obtain ⟨vs, hv⟩ := hf
  have J : PySem.W.InstAt s.heap a oe D none := by
    obtain ⟨oc, od, oda, osl⟩ := oe
    obtain ⟨h1, h2⟩ := hz
    dsimp only at h1 h2 hv
    subst h1 h2 hv
    exact ⟨hget, rfl, rfl, trivial⟩
  obtain ⟨_, its, rv, o, h1, h2, n, h3⟩ := (show ObjOk _ _ H s.heap tp (.tup cs) from I.hok tp _ hT)
  have e3 := ClsV.all k rv
  subst e3
  obtain ⟨oc, od, dt, sl⟩ := o
  simp only at h2 h3
  subst h2 h3
  exact PySem.W.kia_tup (PySem.W.handS_kitx_exc C.hg C.hk C.hs C.hd C.ha C.hn C.ht C.hm) I.kIn J h1 e (fun z => nomatch z) fun tk => ⟨.bl b, H, I.tok tk, rfl, q⟩
end L2
namespace Ar
open PySem PySem.Spec PyProof.Rows L2
structure Excs (K : PySem.W.Frag) (mg : Str → Option Value) (U C T : Addr) : Prop where
  u : ExcK K mg "Unfit" U
  c : ExcK K mg "CanNot" C
  t : ExcK K mg "TooMany" T
  uu : PySem.W.exmOne K (.ref U) (.ref U) = some true
  cu : PySem.W.exmOne K (.ref C) (.ref U) = some false
  tu : PySem.W.exmOne K (.ref T) (.ref U) = some false
  cc : PySem.W.exmOne K (.ref C) (.ref C) = some true
  tc : PySem.W.exmOne K (.ref T) (.ref C) = some false
  tt : PySem.W.exmOne K (.ref T) (.ref T) = some true
  u1 : PySem.W.kitOne K (.ref U) (.type "ValueError") = some true
  c1 : PySem.W.kitOne K (.ref C) (.type "ValueError") = some true
  t1 : PySem.W.kitOne K (.ref T) (.type "ValueError") = some true
  u2 : PySem.W.kitAny K (.ref U) [.ref C, .ref T, .type "LookupError"] = some false
  c2 : PySem.W.kitAny K (.ref C) [.ref T, .type "LookupError"] = some false
  t2 : PySem.W.kitOne K (.ref T) (.type "LookupError") = some false
  nv : mg "ValueError" = none
  nl : mg "LookupError" = none
theorem Ev.unset {K : PySem.W.Frag} {Zh : List Addr} {H : Hp} {σ : L2.St} {ρ : Ro} {S : Sto} {i : Nat} (E : Ev K Zh H σ ρ S) : Ev K Zh H (σ.set i none) (ρ.set i none) S :=
  ⟨E.st, by rw [List.length_set, List.length_set]; exact E.len, fun j c h => by
    by_cases hj : i = j
    · subst hj
      by_cases hl : i < ρ.length
      · rw [List.getElem?_set_self hl] at h
        cases h
      · rw [List.getElem?_eq_none (by rw [List.length_set]; omega)] at h
        cases h
    · rw [List.getElem?_set_ne hj] at h
      rw [List.getElem?_set_ne hj]
      exact E.var j c h⟩
section
variable {X : Cx} {ρ : Ro} {S : Sto} {Φ : D → Sto → Prop} {P : Program} {w : World} {K : PySem.W.Frag} {mg : Str → Option Value} {base : Heap} {tb : List (Str × Nat)} {names : List (Str × NameKind)} {k : Nat} {pos p p1 p2 p3 p4 : Pos} {e : Expr}
theorem At.tr (A : At X P w K mg base tb names k) {pn : List (Addr × Obj)} {xe : Value → Shared → Prop} (h : PassesOwn (model X.prog X.w) X.A X.env xe) : At (X.tr pn xe) P w K mg base tb names k :=
  ⟨A.prog, A.w, A.K, A.mg, A.base, A.slot, A.cov, A.vis, A.gl, A.sto, A.loc, A.cf, A.kind, A.room, A.calm, A.nd, h⟩
/-- isinstance of the caught error -/
theorem de_isE {a D1 : Addr} {oe : Obj} {pn : List (Addr × Obj)} {en cn : Str} {ie : Nat} {c : V} {cv : Value} {b : Bool} (A : At X P w K mg base tb names k) (G : NoB mg) (C : ExcC K D1) (hz : Zc (.ref D1) none oe) (hf : ∃ vs, oe.data = .fields vs) (v : Var tb names en ie) (g2 : Glo names "isinstance")
    (pc : PE (X.suite a ((a, oe) :: pn)) (.Name cn p2) (tC c)) (hcv : ∀ u, RelV c u → u = cv) (hk : PySem.W.kitOne K (.ref D1) cv = some b) (he : ρ[ie]? = some (some (.cell a))) (q : Φ (.bl b) S) :
    DE (X.suite a ((a, oe) :: pn)) (.Call (.Name "isinstance" p) [.Name en p1, .Name cn p2] [] pos) ρ S Φ := by
  have hK := A.K
  have hm := A.mg
  subst hK hm
  have z2 := glB_of g2.g
  have hv := v.vis
  rw [Bool.and_eq_true] at hv
  exact DE.of (pe_callB (X := X.suite a ((a, oe) :: pn)) (call_isE C hz hf) (A.gl _ z2.2) (G.no _ rfl) rfl (pa_cons (pe_var (X := X.suite a ((a, oe) :: pn)) (A.slot _ _ v.look) (A.vis _ hv.2) (plain1 hv.1).1 (plain1 hv.1).2.1) (pa_cons pc pa_nil rfl) rfl) (plain1 z2.1).2.2 (plain1 z2.1).1 rfl rfl) fun Zh σ H Q E P => by
    obtain ⟨u, e1, r1⟩ := E.var ie _ he
    rw [r1.cell] at e1
    exact ⟨_, e1, c, cv, b, rfl, hcv, hk, P.here E.st rep_bl q⟩
theorem de_isET {a D1 : Addr} {oe : Obj} {pn : List (Addr × Obj)} {en : Str} {es : List Expr} {kk} {ie : Nat} {cs : List V} {us : List Value} {b : Bool} (A : At X P w K mg base tb names k) (G : NoB mg) (C : ExcC K D1) (hz : Zc (.ref D1) none oe) (hf : ∃ vs, oe.data = .fields vs) (v : Var tb names en ie) (g2 : Glo names "isinstance")
    {t : TA} (pc : PA (X.suite a ((a, oe) :: pn)) es t) (ht : ∀ σ H Q, Q cs H → t σ H Q) (hn : cs.length ≤ 1000) (hp : Paired ClsV cs us) (hk : PySem.W.kitAny K (.ref D1) us = some b) (he : ρ[ie]? = some (some (.cell a))) (q : Φ (.bl b) S) :
    DE (X.suite a ((a, oe) :: pn)) (.Call (.Name "isinstance" p) [.Name en p1, .Tuple es kk p2] [] pos) ρ S Φ := by
  have hK := A.K
  have hm := A.mg
  subst hK hm
  have z2 := glB_of g2.g
  have hv := v.vis
  rw [Bool.and_eq_true] at hv
  exact DE.of (pe_callB (X := X.suite a ((a, oe) :: pn)) (call_isET C hz hf) (A.gl _ z2.2) (G.no _ rfl) rfl (pa_cons (pe_var (X := X.suite a ((a, oe) :: pn)) (A.slot _ _ v.look) (A.vis _ hv.2) (plain1 hv.1).1 (plain1 hv.1).2.1) (pa_cons (pe_tup pc) pa_nil rfl) rfl) (plain1 z2.1).2.2 (plain1 z2.1).1 rfl rfl) fun Zh σ H Q E P => by
    obtain ⟨u, e1, r1⟩ := E.var ie _ he
    rw [r1.cell] at e1
    refine ⟨_, e1, ht _ _ _ ⟨Nat.le_of_lt (small1000 hn), fun tp hp' => ⟨tp, cs, us, b, rfl, upd_same, hp, hk, ?_⟩⟩⟩
    exact (P.next rfl (Grow.new hp')).here (E.st.new hp') rep_bl q
theorem small_le {n : Nat} (h : n ≤ 1000) : n ≤ sizeLine := Nat.le_of_lt (small1000 h)
theorem pe_cls {Y : Cx} {cn : Str} {C : Addr} (hg : Gl Y cn) (hm : Y.mg cn = some (.ref C)) (hd : (cn == ("__debug__" : Str)) = false) : PE Y (.Name cn p) (tC (.ref C)) := pe_glob hg hm rfl hd
/-- the value told of an error -/
def toldL (t : Str) : List D := [.str t, .bl true, .bl false]
theorem ds_set0 {st : Expr} {x : Str} {i : Nat} {a : Addr} {qs : List (Addr × Obj)} {E : DEnds} (A : At X P w K mg base tb names k) (v : Stv tb names x i) (hs : swapsWith e (some (.Name x p)) pos.line X.env = pure false) (h : DN (X.suite a qs) e ρ S fun l S1 => ∀ c, E.nx (ρ.set i (some (.cell c))) (S1 ++ [(c, l)])) : DS (X.suite a qs) (.Assign [.Name x p] e pos) ρ S E := by
  exact DS.of (ps_set (X := X.suite a qs) A.nd (A.slot _ _ v.look) (A.sto _ v.st).1 pe_w hs (A.sto _ v.st).2) fun Zh σ H Dn ev k => h.tw ev fun c vs H' l S' k' g s' hc h' r q => by
    obtain ⟨ev1, st1⟩ := ev.cell k' g s' hc h' r
    exact k.nx _ _ _ _ st1 (ev1.put (by unfold Rep; rfl)) (q c)
/-- try: e / except Unfit as x: .. / except CanNot as x: .. / except TooMany as x: .. -/
theorem ds_try3 {U C T : Addr} {E : DEnds} {it ie kk1 kk2 : Nat} {j0 j1 j2 : Nat} {q1 q2 q3 h1 h2 h3 r1 r2 r3 u1 u2 u3 u4 u5 u6 u7 u8 u9 s1 s2 s3 s4 s5 s6 s7 s8 v1 v2 v3 v4 v5 v6 v7 l1 l2 l3 m1 m2 m3 x1 x2 x3 y1 y2 z1 z2 z3 : Pos} (A : At X P w K mg base tb names k) (G : NoB mg) (M : Excs K mg U C T)
    (hs : X.stack = X.env :: X.outer) (hf : X.env.frame = some X.env.locals) (vt : Stv tb names "told_so" it) (ve : Var tb names "error" ie) (ne : it ≠ ie) (le : Lcv tb names "error" ie)
    (gU : Glo names "Unfit") (gC : Glo names "CanNot") (gT : Glo names "TooMany") (gV : Glo names "ValueError") (gL : Glo names "LookupError") (gi : Glo names "isinstance") (hit : it < ρ.length) (hie : ie < ρ.length)
    (hsw : swapsWith e none pos.line X.env = pure false)
    (h : (∀ Y W, At Y P w K mg base tb names k → Takes Y W → DE Y e ρ S fun _ S1 => E.nx ρ S1) ∨
      ∃ c t, (c = U ∧ t = ("unfit" : Str) ∨ c = C ∧ t = ("cannot" : Str) ∨ c = T ∧ t = ("many" : Str)) ∧ ∀ Y W, At Y P w K mg base tb names k → Takes Y W → DR Y W e ρ S fun c' S1 => c' = .ref c ∧ ∀ c1, E.nx ((ρ.set it (some (.cell c1))).set ie none) (S1 ++ [(c1, toldL t)])) :
    DS X (.Try [.Expr e pos] [
      .ExceptHandler (some (.Name "Unfit" q1)) (some "error") [.Assign [.Name "told_so" h1] (.List [.Constant (.str "unfit") j0 r1, .Call (.Name "isinstance" u1) [.Name "error" u2, .Name "ValueError" u3] [] u4, .Call (.Name "isinstance" u5) [.Name "error" u6, .Tuple [.Name "CanNot" u7, .Name "TooMany" u8, .Name "LookupError" u9] kk1 y1] [] l1] m1) x1] z1,
      .ExceptHandler (some (.Name "CanNot" q2)) (some "error") [.Assign [.Name "told_so" h2] (.List [.Constant (.str "cannot") j1 r2, .Call (.Name "isinstance" s1) [.Name "error" s2, .Name "ValueError" s3] [] s4, .Call (.Name "isinstance" s5) [.Name "error" s6, .Tuple [.Name "TooMany" s7, .Name "LookupError" s8] kk2 y2] [] l2] m2) x2] z2,
      .ExceptHandler (some (.Name "TooMany" q3)) (some "error") [.Assign [.Name "told_so" h3] (.List [.Constant (.str "many") j2 r3, .Call (.Name "isinstance" v1) [.Name "error" v2, .Name "ValueError" v3] [] v4, .Call (.Name "isinstance" v5) [.Name "error" v6, .Name "LookupError" v7] [] l3] m3) x3] z3] [] [] p) ρ S E := by
  have hK := A.K
  have hm := A.mg
  subst hK hm
  have kU := glB_of gU.g
  have kC := glB_of gC.g
  have kT := glB_of gT.g
  have kV := glB_of gV.g
  have kL := glB_of gL.g
  have nv : ∀ a qs pp, PE (X.suite a qs) (.Name "ValueError" pp) (tC (.ty "ValueError")) := fun a qs pp => pe_bltn (A.gl _ kV.2) M.nv boot_ValueError rfl (plain1 kV.1).2.2 (plain1 kV.1).1
  have nl : ∀ a qs pp, PE (X.suite a qs) (.Name "LookupError" pp) (tC (.ty "LookupError")) := fun a qs pp => pe_bltn (A.gl _ kL.2) M.nl (by decide +kernel) rfl (plain1 kL.1).2.2 (plain1 kL.1).1
  have nC : ∀ a qs pp, PE (X.suite a qs) (.Name "CanNot" pp) (tC (.ref C)) := fun a qs pp => pe_glob (A.gl _ kC.2) M.c.xg rfl (plain1 kC.1).1
  have nT : ∀ a qs pp, PE (X.suite a qs) (.Name "TooMany" pp) (tC (.ref T)) := fun a qs pp => pe_glob (A.gl _ kT.2) M.t.xg rfl (plain1 kT.1).1
  have rty : ∀ (n : String) u, RelV (.ty n) u → u = .type n := fun n u h => h
  -- the suites
  have su : ∀ (a : Addr) (oe : Obj) (pn : List (Addr × Obj)) (ρ1 : Ro) (S1 : Sto), Zc (.ref U) none oe → (∃ vs, oe.data = .fields vs) → ρ1[ie]? = some (some (.cell a)) → ∀ E1 : DEnds, (∀ c1, E1.nx (ρ1.set it (some (.cell c1))) (S1 ++ [(c1, toldL "unfit")])) →
      DSs (X.suite a ((a, oe) :: pn)) [.Assign [.Name "told_so" h1] (.List [.Constant (.str "unfit") j0 r1, .Call (.Name "isinstance" u1) [.Name "error" u2, .Name "ValueError" u3] [] u4, .Call (.Name "isinstance" u5) [.Name "error" u6, .Tuple [.Name "CanNot" u7, .Name "TooMany" u8, .Name "LookupError" u9] kk1 y1] [] l1] m1) x1] ρ1 S1 E1 := fun a oe pn ρ1 S1 hz hf he E1 q => by
    refine ds_one (ds_set0 (st := .Name "error" p) A vt rfl (dn_lst rfl (da_cons (de_str ?_) rfl)))
    refine da_cons (de_isE A G M.u.is hz hf ve gi (nv _ _ _) (rty _) M.u1 he ?_) rfl
    refine da_cons (de_isET (cs := [.ref C, .ref T, .ty "LookupError"]) A G M.u.is hz hf ve gi (pa_cons (nC _ _ _) (pa_cons (nT _ _ _) (pa_cons (nl _ _ _) pa_nil rfl) rfl) rfl) (fun _ _ _ q => q) (Nat.le_of_ble_eq_true rfl) (.cons (.own _) (.cons (.own _) (.cons (.ty _) .nil))) M.u2 he ?_) rfl
    exact da_nil q
  have sc : ∀ (a : Addr) (oe : Obj) (pn : List (Addr × Obj)) (ρ1 : Ro) (S1 : Sto), Zc (.ref C) none oe → (∃ vs, oe.data = .fields vs) → ρ1[ie]? = some (some (.cell a)) → ∀ E1 : DEnds, (∀ c1, E1.nx (ρ1.set it (some (.cell c1))) (S1 ++ [(c1, toldL "cannot")])) →
      DSs (X.suite a ((a, oe) :: pn)) [.Assign [.Name "told_so" h2] (.List [.Constant (.str "cannot") j1 r2, .Call (.Name "isinstance" s1) [.Name "error" s2, .Name "ValueError" s3] [] s4, .Call (.Name "isinstance" s5) [.Name "error" s6, .Tuple [.Name "TooMany" s7, .Name "LookupError" s8] kk2 y2] [] l2] m2) x2] ρ1 S1 E1 := fun a oe pn ρ1 S1 hz hf he E1 q => by
    refine ds_one (ds_set0 (st := .Name "error" p) A vt rfl (dn_lst rfl (da_cons (de_str ?_) rfl)))
    refine da_cons (de_isE A G M.c.is hz hf ve gi (nv _ _ _) (rty _) M.c1 he ?_) rfl
    refine da_cons (de_isET (cs := [.ref T, .ty "LookupError"]) A G M.c.is hz hf ve gi (pa_cons (nT _ _ _) (pa_cons (nl _ _ _) pa_nil rfl) rfl) (fun _ _ _ q => q) (Nat.le_of_ble_eq_true rfl) (.cons (.own _) (.cons (.ty _) .nil)) M.c2 he ?_) rfl
    exact da_nil q
  have st : ∀ (a : Addr) (oe : Obj) (pn : List (Addr × Obj)) (ρ1 : Ro) (S1 : Sto), Zc (.ref T) none oe → (∃ vs, oe.data = .fields vs) → ρ1[ie]? = some (some (.cell a)) → ∀ E1 : DEnds, (∀ c1, E1.nx (ρ1.set it (some (.cell c1))) (S1 ++ [(c1, toldL "many")])) →
      DSs (X.suite a ((a, oe) :: pn)) [.Assign [.Name "told_so" h3] (.List [.Constant (.str "many") j2 r3, .Call (.Name "isinstance" v1) [.Name "error" v2, .Name "ValueError" v3] [] v4, .Call (.Name "isinstance" v5) [.Name "error" v6, .Name "LookupError" v7] [] l3] m3) x3] ρ1 S1 E1 := fun a oe pn ρ1 S1 hz hf he E1 q => by
    refine ds_one (ds_set0 (st := .Name "error" p) A vt rfl (dn_lst rfl (da_cons (de_str ?_) rfl)))
    refine da_cons (de_isE A G M.t.is hz hf ve gi (nv _ _ _) (rty _) M.t1 he ?_) rfl
    refine da_cons (de_isE A G M.t.is hz hf ve gi (nl _ _ _) (rty _) M.t2 he ?_) rfl
    exact da_nil q
  let TSu : List Stmt → Addr → Value → Option Addr → TS := fun suite a cls d => fun D σ H => ∀ oe pn, Zc cls d oe → (∃ vs, oe.data = .fields vs) → ∀ pins s, Inv (X.suite a ((a, oe) :: pn)) pins σ H s → wpAny (model X.prog X.w) (X.suite a ((a, oe) :: pn)).A (execs suite (X.suite a ((a, oe) :: pn)).env) (SP (X.suite a ((a, oe) :: pn)) pins D) (X.suite a ((a, oe) :: pn)).xe s
  have hts : ∀ suite a oe cls d pn, Zc cls d oe → (∃ vs, oe.data = .fields vs) → PSs (X.suite a ((a, oe) :: pn)) suite (TSu suite a cls d) := fun suite a oe cls d pn hz hf => ⟨fun pins s σ H D I h => h oe pn hz hf pins s I⟩
  refine DS.of (ps_try_manyAs (tb := fun W => fun D σ H => ∀ pn xe, Takes (X.tr pn xe) W → PassesOwn (model X.prog X.w) X.A X.env xe → ∀ pins s, Inv (X.tr pn xe) pins σ H s → wpAny (model X.prog X.w) X.A (execs [.Expr e pos] X.env) (SP (X.tr pn xe) pins D) xe s) hs hf A.nd (A.slot _ _ le.look) (A.loc _ (locB_of le.lc)) takes0
    (fun W pn xe tk po => ⟨fun pins s σ H D I h => h pn xe tk po pins s I⟩)
    (.cons (ts := TSu _) ⟨A.gl _ kU.2, (plain1 kU.1).1, .inl M.u.xg⟩ (fun a oe cls d pn hz hf => hts _ a oe cls d pn hz hf) (.cons (ts := TSu _) ⟨A.gl _ kC.2, (plain1 kC.1).1, .inl M.c.xg⟩ (fun a oe cls d pn hz hf => hts _ a oe cls d pn hz hf) (.cons (ts := TSu _) ⟨A.gl _ kT.2, (plain1 kT.1).1, .inl M.t.xg⟩ (fun a oe cls d pn hz hf => hts _ a oe cls d pn hz hf) .nil)))) fun Zh σ H Dn ev kk => ?_
  intro pn xe tk po pins s I
  rcases h with h | ⟨c, t, hct, h⟩
  · exact (ds_one (ds_expr (X := X.tr pn xe) (E := { nx := E.nx, rt := E.rt, bk := E.bk, ct := E.ct }) hsw ((h _ _ (A.tr po) tk).mono fun d S1 q => q))) Zh pins s σ H Dn I ev kk
  · have d := h _ _ (A.tr (pn := pn) po) tk
    refine (drss_here (sts := []) (drs_expr (X := X.tr pn xe) (Θ := fun c' ρ1 S1 => c' = .ref c ∧ ρ1 = ρ ∧ ∀ c1, E.nx ((ρ.set it (some (.cell c1))).set ie none) (S1 ++ [(c1, toldL t)])) hsw (fun Zh pins s σ H Q I e P => d Zh pins s σ H Q I e fun cls H' S' k' g' s' q => P cls H' S' k' g' s' ⟨q.1, rfl, q.2⟩))) Zh pins s σ H Dn I ev ?_
    rintro cls σ' H' ρ' S' stp ev' ⟨rfl, rfl, q⟩
    have pv : ∀ a, Ev X.K Zh H' (σ'.set ie (some (.ref a))) (ρ'.set ie (some (.cell a))) S' := fun a => ev'.put (show Rep X.K (keys S' ++ Zh) H' (.cell a) (.ref a) by unfold Rep; rfl)
    have lk : ∀ a : Addr, (ρ'.set ie (some (D.cell a)))[ie]? = some (some (.cell a)) := fun a => List.getElem?_set_self hie
    have fin : ∀ (a : Addr) (suite : List Stmt), (∀ oe pn, Zc (.ref c) none oe → (∃ vs, oe.data = .fields vs) → ∀ E1 : DEnds, (∀ c1, E1.nx ((ρ'.set ie (some (.cell a))).set it (some (.cell c1))) (S' ++ [(c1, toldL t)])) → DSs (X.suite a ((a, oe) :: pn)) suite (ρ'.set ie (some (.cell a))) S' E1) →
        TSu suite a (.ref c) none { nx := fun σ' H' => Dn.nx (σ'.set ie none) H', rt := Dn.rt, bk := fun σ' H' => Dn.bk (σ'.set ie none) H', ct := fun σ' H' => Dn.ct (σ'.set ie none) H' } (σ'.set ie (some (.ref a))) H' := fun a suite hd oe pn hz hf pins s I => by
      refine hd oe pn hz hf { nx := fun ρ6 S6 => E.nx (ρ6.set ie none) S6, rt := fun _ _ => False } ?_ Zh pins s _ _ _ I (pv a) ⟨fun σ6 H6 ρ6 S6 t6 e6 q6 => kk.nx _ _ _ _ (stp.trans t6) e6.unset q6, fun _ _ _ _ _ _ _ q => q.elim, fun _ _ _ _ _ _ q => q.elim, fun _ _ _ _ _ _ q => q.elim⟩
      intro c1
      show E.nx (((ρ'.set ie (some (.cell a))).set it (some (.cell c1))).set ie none) (S' ++ [(c1, toldL t)])
      rw [List.set_comm _ _ ne.symm, List.set_set]
      exact q c1
    rcases hct with ⟨rfl, rfl⟩ | ⟨rfl, rfl⟩ | ⟨rfl, rfl⟩
    · exact ⟨true, M.uu, ⟨fun _ a _ => fin a _ fun oe pn hz hf E1 q => su a oe pn _ _ hz hf (lk a) E1 q, fun z => by cases z⟩⟩
    · exact ⟨false, M.cu, ⟨fun z => (by cases z), fun _ => ⟨true, M.cc, ⟨fun _ a _ => fin a _ fun oe pn hz hf E1 q => sc a oe pn _ _ hz hf (lk a) E1 q, fun z => by cases z⟩⟩⟩⟩
    · exact ⟨false, M.tu, ⟨fun z => (by cases z), fun _ => ⟨false, M.tc, ⟨fun z => (by cases z), fun _ => ⟨true, M.tt, ⟨fun _ a _ => fin a _ fun oe pn hz hf E1 q => st a oe pn _ _ hz hf (lk a) E1 q, fun z => by cases z⟩⟩⟩⟩⟩⟩
end
end Ar
namespace Ar
open PySem PySem.Spec PyProof.Rows L2
/-! ### a run by data: what an expression is, worked out from its text -/
inductive Out (α : Type) where | ok (a : α) | ex (c : Str) | bad
def Out.bind {α β : Type} (x : Out α) (f : α → Out β) : Out β := match x with
  | .ok a => f a
  | .ex c => .ex c
  | .bad => .bad
theorem Out.bind_ok {α β : Type} {x : Out α} {f : α → Out β} {b : β} (h : x.bind f = .ok b) : ∃ a, x = .ok a ∧ f a = .ok b := by
  cases x with
  | ok a => exact ⟨a, rfl, h⟩
  | ex c => cases h
  | bad => cases h
theorem Out.bind_ex {α β : Type} {x : Out α} {f : α → Out β} {c : Str} (h : x.bind f = .ex c) : x = .ex c ∨ ∃ a, x = .ok a ∧ f a = .ex c := by
  cases x with
  | ok a => exact .inr ⟨a, rfl, h⟩
  | ex c' => exact .inl (by cases h; rfl)
  | bad => cases h
abbrev En := List (Option D)
def EnR (η : En) (ρ : Ro) : Prop := ∀ (i : Nat) (d : D), η[i]? = some (some d) → ρ[i]? = some (some d)
mutual
/-- no list in it -/
def flatD : D → Bool
  | .tup l => flatL l
  | .non => true
  | .bl _ => true
  | .int _ => true
  | .str _ => true
  | .rng _ _ => true
  | _ => false
def flatL : List D → Bool
  | [] => true
  | d :: l => flatD d && flatL l
end
def FlatS (S : Sto) : Prop := ∀ p l, (p, l) ∈ S → flatL l = true
mutual
theorem Rep.flat {K : PySem.W.Frag} {Z Z' : List Addr} {H : Hp} : ∀ {d : D} {v : V}, flatD d = true → Rep K Z H d v → Rep K Z' H d v
  | .non, v, _, h => by unfold Rep at h ⊢; exact h
  | .bl _, v, _, h => by unfold Rep at h ⊢; exact h
  | .int _, v, _, h => by unfold Rep at h ⊢; exact h
  | .rng _ _, v, _, h => by unfold Rep at h ⊢; exact h
  | .str _, v, _, h => by unfold Rep at h ⊢; exact h
  | .tup l, v, q, h => by
    unfold Rep at h ⊢
    unfold flatD at q
    obtain ⟨p, vs, e, s, r⟩ := h
    exact ⟨p, vs, e, s, RepL.flat q r⟩
  | .lst _, v, q, h => by unfold flatD at q; cases q
  | .frz _, v, q, h => by unfold flatD at q; cases q
  | .cell _, v, q, h => by unfold flatD at q; cases q
  | .dct _ _, v, q, h => by unfold flatD at q; cases q
theorem RepL.flat {K : PySem.W.Frag} {Z Z' : List Addr} {H : Hp} : ∀ {l : List D} {vs : List V}, flatL l = true → RepL K Z H l vs → RepL K Z' H l vs
  | [], vs, _, h => by
    rw [h.un0]
    exact .nil
  | d :: l, vs, q, h => by
    unfold flatL at q
    rw [Bool.and_eq_true] at q
    obtain ⟨v, r, e, h1, h2⟩ := h.uncons
    rw [e]
    exact .cons (Rep.flat q.1 h1) (RepL.flat q.2 h2)
end
/-! texts -/
theorem star_no {e : Expr} {es : List Expr} {env : Env} (h : isStar e = false) : starEach (e :: es) env = (false, eval e env) :: starEach es env := by
  cases e <;> first | rfl | cases h
def noStar (es : List Expr) : Bool := es.all fun e => !isStar e
theorem noStar_cons {e : Expr} {es : List Expr} (h : noStar (e :: es) = true) : isStar e = false ∧ noStar es = true := by
  unfold noStar at h ⊢
  rw [List.all_cons, Bool.and_eq_true] at h
  exact ⟨by simpa using h.1, h.2⟩
theorem star_pl {env : Env} {pos : Pos} : ∀ {es : List Expr}, noStar es = true → (backTo pos (starEach es env)).any (·.1) = false
  | [], _ => rfl
  | e :: es, h => by
    obtain ⟨h1, h2⟩ := noStar_cons h
    rw [star_no h1]
    show ((false : Bool) || (backTo pos (starEach es env)).any (·.1)) = false
    rw [star_pl h2]
    rfl
def isComp : Expr → Bool
  | .ListComp .. => true
  | .SetComp .. => true
  | .DictComp .. => true
  | _ => false
theorem swaps_no {e : Expr} {t : Option Expr} {n : Nat} {env : Env} (h : isComp e = false) : swapsWith e t n env = pure false := by
  cases e <;> first | rfl | cases h
theorem swapsSole_no {e t : Expr} {n : Nat} {env : Env} (h : isComp e = false) : swapsWithSole [t] e n env = pure false := swaps_no h
def isSet : Expr → Bool
  | .Set .. => true
  | _ => false
theorem folded_no {e : Expr} {env : Env} {x : Value} (h : isSet e = false) : foldedSetIterable e env x = pure x := by
  cases e <;> first | rfl | cases h
theorem marks_no {e : Expr} {op : CmpOp} (h : isSet e = false) : behindInMarks op e = false := by
  cases e <;> first | rfl | cases h
def isLeafT : Expr → Bool
  | .UnaryOp .Not _ _ => false
  | .BoolOp .. => false
  | .IfExp .. => false
  | .Compare .. => false
  | _ => true
theorem leafT {e : Expr} {env : Env} (h : isLeafT e = true) (whole : Sem Value) : isTrue e env whole = (do let v ← whole; standAt e.pos; holding [v] (truthy v)) := by
  cases e <;> first | rfl | (cases h; done) | skip
  case UnaryOp op a p => cases op <;> first | rfl | cases h
def isSl : Expr → Bool
  | .Slice .. => true
  | _ => false
theorem plain_ix {e : Expr} (h : isSl e = false) : PlainIx e := fun o i => by
  cases e <;> first | rfl | cases h
def isCl : Expr → Bool
  | .Call .. => true
  | _ => false
theorem base_no {o : Expr} {m : Str} {env : Env} {whole : Sem Value} (h : isCl o = false) : attributeBase o m env whole = whole := by
  cases o <;> first | rfl | cases h
/-! ### operations -/
def mulB (i : Int) : Bool := Nat.blt i.natAbs (2 ^ 4000)
def shortS (z : Str) : Bool := Nat.ble z.cps.toList.length 100000
def repL (n : Nat) (l : List Nat) : List Nat := (List.replicate n l).flatten
def opB0 : Operator → D → D → Out D
  | .Add, .int i, .int j => .ok (.int (i + j))
  | .Add, .str a, .str b => if shortS a && shortS b then .ok (.str ⟨(a.cps.toList ++ b.cps.toList).toArray⟩) else .bad
  | .Add, .lst l, .lst m => if Nat.ble (l.length + m.length) 1000 then .ok (.lst (l ++ m)) else .bad
  | .Add, .tup l, .tup m => if Nat.ble (l.length + m.length) 1000 then .ok (.tup (l ++ m)) else .bad
  | .Sub, .int i, .int j => .ok (.int (i - j))
  | .Mult, .int i, .int j => if mulB i && mulB j then .ok (.int (i * j)) else .bad
  | .Mult, .str z, .int n => if Nat.ble z.cps.toList.length 100 && Nat.ble n.natAbs 10000 then .ok (.str ⟨(repL n.toNat z.cps.toList).toArray⟩) else .bad
  | .FloorDiv, .int i, .int j => if Int.blt' 0 j && mulB j then .ok (.int (i / j)) else if Int.blt' j 0 && Int.blt' (-1073741824) j then .ok (.int (i.fdiv j)) else .bad
  | .Mod, .int i, .int j => if Int.blt' 0 j then .ok (.int (i % j)) else if Int.blt' j 0 then .ok (.int (i.fmod j)) else .bad
  | .Pow, .int i, .int j => if Int.blt' (-1) j && Int.blt' j 64 && Nat.blt i.natAbs 1000 then .ok (.int (i ^ j.toNat)) else .bad
  | .LShift, .int i, .int j => if Int.blt' (-1) j && Int.blt' j 4000 && mulB i then .ok (.int (i * 2 ^ j.toNat)) else .bad
  | .Mult, .lst l, .int n => if Nat.ble n.natAbs 1000 && Nat.ble (l.length * n.toNat) 100000 then .ok (.lst (List.replicate n.toNat l).flatten) else .bad
  | _, _, _ => .bad
where Int.blt' (a b : Int) : Bool := decide (a < b)

theorem Str.eta (z : Str) : (⟨z.cps.toList.toArray⟩ : Str) = z := by
  obtain ⟨⟨l⟩⟩ := z
  rfl
theorem short_len {z : Str} (h : shortS z = true) : z.length ≤ 100000 := Nat.le_of_ble_eq_true h
theorem line_of {n m : Nat} (h : n ≤ m) (k : m ≤ 1000000) : n ≤ sizeLine := by
  have e := sizeLine_eq
  omega
theorem RepL.reps {K : PySem.W.Frag} {Z : List Addr} {H : Hp} {l : List D} {vs : List V} (r : RepL K Z H l vs) : ∀ n : Nat, RepL K Z H (List.replicate n l).flatten (List.replicate n vs).flatten
  | 0 => .nil
  | n + 1 => by
    rw [List.replicate_succ, List.flatten_cons, List.replicate_succ, List.flatten_cons]
    exact r.append (RepL.reps r n)
theorem do_rep {X : Cx} {S : Sto} {Φ : D → Sto → Prop} {l : List D} {n : Int} (h1 : n.natAbs ≤ 1000) (h2 : l.length * n.toNat ≤ 100000) (q : Φ (.lst (List.replicate n.toNat l).flatten) S) : DO X (binaryOp .Mult) (.lst l) (.int n) S Φ := DO.of op_rep fun Zh H x y Q st ra rb P => by
  obtain ⟨p, vs, rfl, n1, h, r1⟩ := ra.lst
  have hz := line_of h2 (by decide)
  exact ⟨p, n, vs, rfl, rb.int, h, by omega, by omega, by rw [r1.length]; exact hz, fun z hz => P.lst st (r1.reps _) q hz⟩
theorem mulB_bd {i : Int} (h : mulB i = true) : Bd 4000 i := .lit h
theorem mul_wd2 {z : Str} {n : Int} (hz : z.cps.toList.length ≤ 100) (hn : n.natAbs ≤ 10000) : MulOk z n ∧ Txt.mul z n = ⟨(repL n.toNat z.cps.toList).toArray⟩ := by
  have hl : z.length = z.cps.toList.length := rfl
  have hprod : z.cps.toList.length * n.toNat ≤ 100 * 10000 := Nat.mul_le_mul hz (by omega)
  refine ⟨⟨?_, fun h2 h3 => ?_, fun h2 h3 => ?_⟩, ?_⟩
  · rw [Bool.or_eq_false_iff]
    exact ⟨decide_eq_false (by omega), decide_eq_false (by omega)⟩
  · rw [hl]
    have : (100 : Int) ≤ (2 ^ 63 - 1) / n := by
      rw [Int.le_ediv_iff_mul_le (by omega)]
      omega
    omega
  · rw [hl]
    unfold Builtin.Str.tooLong
    rw [decide_eq_false]
    have e := sizeLine_eq
    omega
  · unfold Txt.mul
    by_cases h2 : n < 1
    · rw [if_pos h2]
      have : n.toNat = 0 := by omega
      rw [this]
      rfl
    · rw [if_neg h2]
      have go : ∀ (m : Nat) (acc : Array Nat), (List.replicate m z.cps).foldl (· ++ ·) acc = acc ++ (repL m z.cps.toList).toArray := by
        intro m
        induction m with
        | zero => intro acc; simp [repL]
        | succ m ih =>
          intro acc
          rw [List.replicate_succ, List.foldl_cons, ih]
          unfold repL
          rw [List.replicate_succ, List.flatten_cons]
          apply Array.ext'
          simp
      split
      · rename_i h3
        rw [Bool.or_eq_true] at h3
        rcases h3 with h3 | h3
        · have h4 : n = 1 := eq_of_beq h3
          subst h4
          show z = _
          rw [← Str.eta z]
          simp [repL]
        · have h4 : z.cps.toList.length = 0 := eq_of_beq h3
          have h5 : z.cps.toList = [] := List.eq_nil_of_length_eq_zero h4
          rw [h5]
          rw [← Str.eta z, h5]
          simp [repL]
      · congr 1
        rw [go]
        simp
section
variable {X : Cx} {S : Sto} {Φ : D → Sto → Prop}
theorem opB0_ok {op : Operator} {x y d : D} (h : opB0 op x y = .ok d) (q : Φ d S) : DO X (binaryOp op) x y S Φ := by
  unfold opB0 at h
  split at h
  · cases h
    exact do_add q
  · split at h
    · rename_i a b hs
      rw [Bool.and_eq_true] at hs
      cases h
      refine do_addS (line_of (m := 200000) ?_ (by decide)) ?_
      · have h1 := short_len hs.1
        have h2 := short_len hs.2
        omega
      · have e : a ++ b = ⟨(a.cps.toList ++ b.cps.toList).toArray⟩ := by
          obtain ⟨⟨a⟩⟩ := a
          obtain ⟨⟨b⟩⟩ := b
          show (⟨⟨a⟩ ++ ⟨b⟩⟩ : Str) = _
          simp
        rw [e]
        exact q
    · cases h
  · split at h
    · rename_i hs
      cases h
      exact do_cat (line_of (Nat.le_of_ble_eq_true hs) (by decide)) q
    · cases h
  · split at h
    · rename_i hs
      cases h
      exact do_catT (line_of (Nat.le_of_ble_eq_true hs) (by decide)) q
    · cases h
  · cases h
    exact do_sub q
  · split at h
    · rename_i hs
      rw [Bool.and_eq_true] at hs
      cases h
      exact do_mulX (Bd.ok (mulB_bd hs.1) (mulB_bd hs.2) rfl) q
    · cases h
  · split at h
    · rename_i hs
      rw [Bool.and_eq_true] at hs
      cases h
      obtain ⟨c, e⟩ := mul_wd2 (Nat.le_of_ble_eq_true hs.1) (Nat.le_of_ble_eq_true hs.2)
      exact do_mulS c (by rw [e]; exact q)
    · cases h
  · split at h
    · rename_i hs
      rw [Bool.and_eq_true] at hs
      cases h
      exact do_fdiv (Bd.div (of_decide_eq_true hs.1) (mulB_bd hs.2) rfl) q
    · split at h
      · rename_i hs
        rw [Bool.and_eq_true] at hs
        cases h
        have h1 := of_decide_eq_true hs.1
        have h2 := of_decide_eq_true hs.2
        exact do_iC op_fdivN ⟨by omega, by omega⟩ q
      · cases h
  · split at h
    · rename_i hs
      cases h
      exact do_mod (of_decide_eq_true hs) q
    · split at h
      · rename_i hs
        cases h
        have := of_decide_eq_true hs
        exact do_modN (by omega) q
      · cases h
  · split at h
    · rename_i i j hs
      rw [Bool.and_eq_true, Bool.and_eq_true] at hs
      cases h
      obtain ⟨⟨h1, h2⟩, h3⟩ := hs
      have h1 := of_decide_eq_true h1
      have h2 := of_decide_eq_true h2
      have h3 : i.natAbs < 1000 := Nat.le_of_ble_eq_true h3
      exact do_pow ⟨by omega, by omega, Nat.lt_of_lt_of_le h3 (by decide)⟩ q
    · cases h
  · split at h
    · rename_i i j hs
      rw [Bool.and_eq_true, Bool.and_eq_true] at hs
      cases h
      obtain ⟨⟨h1, h2⟩, h3⟩ := hs
      have h1 := of_decide_eq_true h1
      have h2 := of_decide_eq_true h2
      have h3 : i.natAbs < 2 ^ 4000 := Nat.le_of_ble_eq_true h3
      obtain ⟨m, rfl⟩ : ∃ m : Nat, j = (m : Int) := ⟨j.toNat, by omega⟩
      exact do_iC op_shlW (shl_ok h3 (by omega)) q
    · cases h
  · split at h
    · rename_i hs
      rw [Bool.and_eq_true] at hs
      cases h
      exact do_rep (Nat.le_of_ble_eq_true hs.1) (Nat.le_of_ble_eq_true hs.2) q
    · cases h
  · cases h
end
def flatV1 : D → Option V
  | .non => some .non
  | .bl b => some (.bl b)
  | .int i => some (.int i)
  | .str z => some (.str z)
  | _ => none
def flatVs : List D → Option (List V)
  | [] => some []
  | d :: l => match flatV1 d, flatVs l with
    | some v, some vs => some (v :: vs)
    | _, _ => none
theorem flatV1_rep {K : PySem.W.Frag} {Z : List Addr} {H : Hp} {d : D} {v v' : V} (h : flatV1 d = some v) (r : Rep K Z H d v') : v' = v ∧ flatV v = true := by
  cases d <;> simp only [flatV1, Option.some.injEq, reduceCtorEq] at h
  · subst h; exact ⟨r.non, rfl⟩
  · subst h; exact ⟨r.bl, rfl⟩
  · subst h; exact ⟨r.int, rfl⟩
  · subst h; exact ⟨r.str, rfl⟩
theorem flatVs_rep {K : PySem.W.Frag} {Z : List Addr} {H : Hp} : ∀ {l : List D} {vs vs' : List V}, flatVs l = some vs → RepL K Z H l vs' → vs' = vs ∧ vs.all flatV = true
  | [], vs, vs', h, r => by
    simp only [flatVs, Option.some.injEq] at h
    subst h
    exact ⟨r.un0, rfl⟩
  | d :: l, vs, vs', h, r => by
    unfold flatVs at h
    split at h
    · rename_i v vs1 h1 h2
      cases h
      obtain ⟨u, r', e, ru, rl⟩ := r.uncons
      obtain ⟨e1, f1⟩ := flatV1_rep h1 ru
      obtain ⟨e2, f2⟩ := flatVs_rep h2 rl
      rw [e, e1, e2]
      exact ⟨rfl, by rw [List.all_cons, f1, f2]; rfl⟩
    · cases h
def inQ (neg : Bool) (a : D) (l : List D) : Out D := match flatV1 a, flatVs l with
  | some v, some vs => .ok (.bl (if neg then !inV v vs else inV v vs))
  | _, _ => .bad
def inC (neg : Bool) : D → D → Out D
  | a, .tup l => inQ neg a l
  | a, .lst l => inQ neg a l
  | .str z, .str y => match z.cps.toList with
    | [c] => .ok (.bl (if neg then !decide (c ∈ y.cps.toList) else decide (c ∈ y.cps.toList)))
    | _ => .bad
  | _, _ => .bad
def opC0 : CmpOp → D → D → Out D
  | .Lt, .int i, .int j => .ok (.bl (decide (i < j)))
  | .LtE, .int i, .int j => .ok (.bl (decide (i ≤ j)))
  | .Gt, .int i, .int j => .ok (.bl (decide (j < i)))
  | .GtE, .int i, .int j => .ok (.bl (decide (j ≤ i)))
  | .Eq, .int i, .int j => .ok (.bl (decide (i = j)))
  | .NotEq, .int i, .int j => .ok (.bl (!decide (i = j)))
  | .Eq, a, b => if eqOk a && eqOk b then .ok (.bl (PyData.eqv (toPy a) (toPy b))) else .bad
  | .NotEq, a, b => if eqOk a && eqOk b then .ok (.bl (!PyData.eqv (toPy a) (toPy b))) else .bad
  | .Is, a, .non => .ok (.bl (isNon a))
  | .IsNot, a, .non => .ok (.bl (!isNon a))
  | .In, a, b => inC false a b
  | .NotIn, a, b => inC true a b
  | _, _, _ => .bad
section
variable {X : Cx} {S : Sto} {Φ : D → Sto → Prop} {P : Program} {w : World} {K : PySem.W.Frag} {mg : Str → Option Value} {base : Heap} {tb : List (Str × Nat)} {names : List (Str × NameKind)} {k : Nat}
theorem inC_ok {neg : Bool} {x y d : D} (h : inC neg x y = .ok d) (q : Φ d S) : DO X (compareOp (if neg then .NotIn else .In)) x y S Φ := by
  have seq : ∀ l, inQ neg x l = .ok d → (∀ {K Z H v}, Rep K Z H y v → ∃ p vs, v = .ref p ∧ (SqL K H p vs ∨ SqT K H p vs) ∧ RepL K Z H l vs) → DO X (compareOp (if neg then .NotIn else .In)) x y S Φ := fun l h g => by
    unfold inQ at h
    split at h
    · rename_i v vs h1 h2
      cases h
      have o : OpR X (compareOp (if neg then .NotIn else .In)) (rIn X.K neg) := by
        cases neg
        · exact op_in_seq
        · exact op_notIn_seq
      refine DO.of o fun Zh H a b Q st ra rb P => ?_
      obtain ⟨p, us, rfl, sq, rl⟩ := g rb
      obtain ⟨e1, f1⟩ := flatV1_rep h1 ra
      obtain ⟨e2, f2⟩ := flatVs_rep h2 rl
      subst e1 e2
      exact ⟨p, us, rfl, sq, f1, f2, P.here st rep_bl q⟩
    · cases h
  unfold inC at h
  split at h
  · exact seq _ h fun r => by
      obtain ⟨p, vs, e, s, rl⟩ := r.tup
      exact ⟨p, vs, e, .inr s, rl⟩
  · exact seq _ h fun r => by
      obtain ⟨p, vs, e, n, s, rl⟩ := r.lst
      exact ⟨p, vs, e, .inl (.inl (.inl s)), rl⟩
  · split at h
    · rename_i z y _ c hz
      cases h
      have e : z = ⟨#[c]⟩ := by
        rw [← Str.eta z, hz]
      subst e
      cases neg
      · exact do_inS q
      · exact do_notInS q
    · cases h
  · cases h
theorem opC0_ok {op : CmpOp} {x y d : D} (A : At X P w K mg base tb names k) (h : opC0 op x y = .ok d) (q : Φ d S) : (∃ b, d = .bl b) ∧ DO X (compareOp op) x y S Φ := by
  unfold opC0 at h
  split at h
  · cases h; exact ⟨⟨_, rfl⟩, do_lt q⟩
  · cases h; exact ⟨⟨_, rfl⟩, do_le q⟩
  · cases h; exact ⟨⟨_, rfl⟩, do_gt q⟩
  · cases h; exact ⟨⟨_, rfl⟩, do_ge q⟩
  · cases h; exact ⟨⟨_, rfl⟩, do_eqI q⟩
  · cases h; exact ⟨⟨_, rfl⟩, do_neI q⟩
  · split at h
    · rename_i hs
      cases h; exact ⟨⟨_, rfl⟩, do_eqD A hs q⟩
    · cases h
  · split at h
    · rename_i hs
      cases h; exact ⟨⟨_, rfl⟩, do_neD A hs q⟩
    · cases h
  · cases h; exact ⟨⟨_, rfl⟩, do_isN q⟩
  · cases h; exact ⟨⟨_, rfl⟩, do_notN q⟩
  · refine ⟨?_, inC_ok (neg := false) h q⟩
    unfold inC inQ at h
    split at h <;> (try split at h) <;> first | (cases h; exact ⟨_, rfl⟩) | cases h
  · refine ⟨?_, inC_ok (neg := true) h q⟩
    unfold inC inQ at h
    split at h <;> (try split at h) <;> first | (cases h; exact ⟨_, rfl⟩) | cases h
  · cases h
end
/-! numbers of which only bounds are known -/
def isRng : D → Bool
  | .rng _ _ => true
  | _ => false
def asRng : D → Option (Int × Int)
  | .int i => some (i, i)
  | .rng a b => some (a, b)
  | _ => none
def rngB (op : Operator) (a b c d : Int) : Out D := match op with
  | .Add => .ok (.rng (a + c) (b + d))
  | .Sub => .ok (.rng (a - d) (b - c))
  | .Mult => if decide (0 ≤ a) && decide (0 ≤ c) && mulB b && mulB d then .ok (.rng (a * c) (b * d)) else .bad
  | .Mod => if decide (c = 1) && decide (d = 1) then .ok (.int 0) else .bad
  | _ => .bad
def rngO (op : Operator) (x y : D) : Out D := match asRng x, asRng y with
  | some (a, b), some (c, d) => rngB op a b c d
  | _, _ => .bad
def opB (op : Operator) (x y : D) : Out D := if isRng x || isRng y then rngO op x y else opB0 op x y
def yesNo (y n : Bool) : Out D := if y then .ok (.bl true) else if n then .ok (.bl false) else .bad
def rngC (op : CmpOp) (a b c d : Int) : Out D := match op with
  | .Lt => yesNo (decide (b < c)) (decide (d ≤ a))
  | .LtE => yesNo (decide (b ≤ c)) (decide (d < a))
  | .Gt => yesNo (decide (d < a)) (decide (b ≤ c))
  | .GtE => yesNo (decide (d ≤ a)) (decide (b < c))
  | .Eq => yesNo false (decide (b < c) || decide (d < a))
  | .NotEq => yesNo (decide (b < c) || decide (d < a)) false
  | _ => .bad
def rngCO (op : CmpOp) (x y : D) : Out D := match asRng x, asRng y with
  | some (a, b), some (c, d) => rngC op a b c d
  | _, _ => .bad
/-! tuples in order -/
def isTD : D → Bool
  | .tup _ => true
  | _ => false
def ordT (op : CmpOp) (a b : PyData) : Option Bool := match op with
  | .Lt => some (PySem.W.dataLt a b)
  | .Gt => some (PySem.W.dataLt b a)
  | .LtE => some (!PySem.W.dataLt b a)
  | .GtE => some (!PySem.W.dataLt a b)
  | _ => none
def isOrd : CmpOp → Bool
  | .Lt => true
  | .Gt => true
  | .LtE => true
  | .GtE => true
  | _ => false
def tupC (op : CmpOp) (x y : D) : Out D := if plainD x && plainD y && PySem.W.alike (toPy x) (toPy y) && Nat.ble (toPy x).depth 8 && Nat.ble (toPy y).depth 8 then match ordT op (toPy x) (toPy y) with
    | some k => .ok (.bl k)
    | none => .bad
  else .bad
def opC (op : CmpOp) (x y : D) : Out D := if (isRng x && !isNon y) || isRng y then rngCO op x y else if isTD x && isTD y && isOrd op then tupC op x y else opC0 op x y
theorem asRng_rep {K : PySem.W.Frag} {Z : List Addr} {H : Hp} {x : D} {v : V} {a b : Int} (h : asRng x = some (a, b)) (r : Rep K Z H x v) : ∃ i, v = .int i ∧ a ≤ i ∧ i ≤ b := by
  unfold asRng at h
  split at h
  · cases h
    exact ⟨_, r.int, Int.le_refl _, Int.le_refl _⟩
  · cases h
    exact r.rng
  · cases h
section
variable {X : Cx} {S : Sto} {Φ : D → Sto → Prop} {P : Program} {w : World} {K : PySem.W.Frag} {mg : Str → Option Value} {base : Heap} {tb : List (Str × Nat)} {names : List (Str × NameKind)} {k : Nat}
theorem rngO_ok {op : Operator} {x y d : D} (h : rngO op x y = .ok d) (q : Φ d S) : DO X (binaryOp op) x y S Φ := by
  unfold rngO at h
  split at h
  · rename_i a b c e hx hy
    unfold rngB at h
    split at h
    · cases h
      refine DO.of op_add fun Zh H u v Q st ra rb P => ?_
      obtain ⟨i, rfl, i1, i2⟩ := asRng_rep hx ra
      obtain ⟨j, rfl, j1, j2⟩ := asRng_rep hy rb
      exact ⟨i, j, rfl, rfl, P.here st (rep_rng (by omega) (by omega)) q⟩
    · cases h
      refine DO.of op_sub fun Zh H u v Q st ra rb P => ?_
      obtain ⟨i, rfl, i1, i2⟩ := asRng_rep hx ra
      obtain ⟨j, rfl, j1, j2⟩ := asRng_rep hy rb
      exact ⟨i, j, rfl, rfl, P.here st (rep_rng (by omega) (by omega)) q⟩
    · split at h
      · rename_i hh
        simp only [Bool.and_eq_true, decide_eq_true_eq] at hh
        obtain ⟨⟨⟨h1, h2⟩, h3⟩, h4⟩ := hh
        cases h
        refine DO.of op_mulX fun Zh H u v Q st ra rb P => ?_
        obtain ⟨i, rfl, i1, i2⟩ := asRng_rep hx ra
        obtain ⟨j, rfl, j1, j2⟩ := asRng_rep hy rb
        have m1 : mulB i = true := by
          have h3 : b.natAbs < 2 ^ 4000 := Nat.le_of_ble_eq_true h3
          exact Nat.ble_eq.mpr (show i.natAbs < 2 ^ 4000 by omega)
        have m2 : mulB j = true := by
          have h4 : e.natAbs < 2 ^ 4000 := Nat.le_of_ble_eq_true h4
          exact Nat.ble_eq.mpr (show j.natAbs < 2 ^ 4000 by omega)
        exact ⟨i, j, rfl, rfl, Bd.ok (mulB_bd m1) (mulB_bd m2) rfl, P.here st (rep_rng (Int.mul_le_mul i1 j1 h2 (by omega)) (Int.mul_le_mul i2 j2 (by omega) (by omega))) q⟩
      · cases h
    · split at h
      · rename_i hh
        simp only [Bool.and_eq_true, decide_eq_true_eq] at hh
        obtain ⟨h1, h2⟩ := hh
        cases h
        refine DO.of op_mod fun Zh H u v Q st ra rb P => ?_
        obtain ⟨i, rfl, i1, i2⟩ := asRng_rep hx ra
        obtain ⟨j, rfl, j1, j2⟩ := asRng_rep hy rb
        have e : j = 1 := by omega
        subst e
        have e2 : i % 1 = 0 := Int.emod_one i
        refine ⟨i, 1, rfl, rfl, Int.one_pos, P.here st ?_ q⟩
        dsimp only
        rw [e2]
        exact rep_int
      · cases h
    · cases h
  · cases h
theorem opB_ok {op : Operator} {x y d : D} (h : opB op x y = .ok d) (q : Φ d S) : DO X (binaryOp op) x y S Φ := by
  unfold opB at h
  split at h
  · exact rngO_ok h q
  · exact opB0_ok h q
theorem yesNo_ok {y n : Bool} {d : D} (h : yesNo y n = .ok d) : (y = true ∧ d = .bl true) ∨ (n = true ∧ d = .bl false) := by
  unfold yesNo at h
  split at h
  · rename_i z
    cases h
    exact .inl ⟨z, rfl⟩
  · split at h
    · rename_i z
      cases h
      exact .inr ⟨z, rfl⟩
    · cases h
theorem do_rngC {op : CmpOp} {g : Int → Int → Bool} {x y d : D} {a b c e : Int} {yy nn : Bool} (o : OpR X (compareOp op) (rI0 fun i j => .bl (g i j))) (hx : asRng x = some (a, b)) (hy : asRng y = some (c, e)) (h : yesNo yy nn = .ok d)
    (h1 : yy = true → ∀ i j, a ≤ i → i ≤ b → c ≤ j → j ≤ e → g i j = true) (h2 : nn = true → ∀ i j, a ≤ i → i ≤ b → c ≤ j → j ≤ e → g i j = false) (q : Φ d S) : (∃ b, d = .bl b) ∧ DO X (compareOp op) x y S Φ := by
  rcases yesNo_ok h with ⟨z, rfl⟩ | ⟨z, rfl⟩
  · refine ⟨⟨_, rfl⟩, DO.of o fun Zh H u v Q st ra rb P => ?_⟩
    obtain ⟨i, rfl, i1, i2⟩ := asRng_rep hx ra
    obtain ⟨j, rfl, j1, j2⟩ := asRng_rep hy rb
    refine ⟨i, j, rfl, rfl, P.here st ?_ q⟩
    dsimp only
    rw [h1 z i j i1 i2 j1 j2]
    exact rep_bl
  · refine ⟨⟨_, rfl⟩, DO.of o fun Zh H u v Q st ra rb P => ?_⟩
    obtain ⟨i, rfl, i1, i2⟩ := asRng_rep hx ra
    obtain ⟨j, rfl, j1, j2⟩ := asRng_rep hy rb
    refine ⟨i, j, rfl, rfl, P.here st ?_ q⟩
    dsimp only
    rw [h2 z i j i1 i2 j1 j2]
    exact rep_bl
theorem rngCO_ok {op : CmpOp} {x y d : D} (h : rngCO op x y = .ok d) (q : Φ d S) : (∃ b, d = .bl b) ∧ DO X (compareOp op) x y S Φ := by
  unfold rngCO at h
  split at h
  · rename_i a b c e hx hy
    unfold rngC at h
    split at h
    · exact do_rngC (g := fun i j => decide (i < j)) op_lt hx hy h (fun z i j _ _ _ _ => decide_eq_true (by have := of_decide_eq_true z; omega)) (fun z i j _ _ _ _ => decide_eq_false (by have := of_decide_eq_true z; omega)) q
    · exact do_rngC (g := fun i j => decide (i ≤ j)) op_le hx hy h (fun z i j _ _ _ _ => decide_eq_true (by have := of_decide_eq_true z; omega)) (fun z i j _ _ _ _ => decide_eq_false (by have := of_decide_eq_true z; omega)) q
    · exact do_rngC (g := fun i j => decide (j < i)) op_gt hx hy h (fun z i j _ _ _ _ => decide_eq_true (by have := of_decide_eq_true z; omega)) (fun z i j _ _ _ _ => decide_eq_false (by have := of_decide_eq_true z; omega)) q
    · exact do_rngC (g := fun i j => decide (j ≤ i)) op_ge hx hy h (fun z i j _ _ _ _ => decide_eq_true (by have := of_decide_eq_true z; omega)) (fun z i j _ _ _ _ => decide_eq_false (by have := of_decide_eq_true z; omega)) q
    · rcases yesNo_ok h with ⟨z, rfl⟩ | ⟨z, rfl⟩
      · cases z
      · refine ⟨⟨_, rfl⟩, DO.of op_eq fun Zh H u v Q st ra rb P => ?_⟩
        obtain ⟨i, rfl, i1, i2⟩ := asRng_rep hx ra
        obtain ⟨j, rfl, j1, j2⟩ := asRng_rep hy rb
        refine ⟨rfl, P.here st ?_ q⟩
        rw [Bool.or_eq_true, decide_eq_true_eq, decide_eq_true_eq] at z
        rw [decide_eq_false (fun e => by cases e; omega)]
        exact rep_bl
    · rcases yesNo_ok h with ⟨z, rfl⟩ | ⟨z, rfl⟩
      · refine ⟨⟨_, rfl⟩, DO.of op_ne fun Zh H u v Q st ra rb P => ?_⟩
        obtain ⟨i, rfl, i1, i2⟩ := asRng_rep hx ra
        obtain ⟨j, rfl, j1, j2⟩ := asRng_rep hy rb
        refine ⟨rfl, P.here st ?_ q⟩
        rw [Bool.or_eq_true, decide_eq_true_eq, decide_eq_true_eq] at z
        rw [decide_eq_false (fun e => by cases e; omega)]
        exact rep_bl
      · cases z
    · cases h
  · cases h
def rOrd (op : CmpOp) (K : PySem.W.Frag) : R2 := fun x y H Q => ∃ d e k, Dp K H x d ∧ Dp K H y e ∧ PySem.W.alike d e = true ∧ d ≠ .none ∧ d.depth ≤ 8 ∧ e.depth ≤ 8 ∧ ordT op d e = some k ∧ Q (.bl k) H
theorem op_ord {op : CmpOp} (hu : X.A.units + 64 < cLine) : OpR X (compareOp op) (rOrd op X.K) := by
  intro pins s σ H x y v u Q I rx ry h
  obtain ⟨d, e, k, hd, he, al, hn, d1, d2, ho, q⟩ := h
  obtain ⟨as, r1⟩ := Dp.reads I d x v hd rx
  obtain ⟨bs, r2⟩ := Dp.reads I e y u he ry
  have hm : X.A.units + min d.depth e.depth < cLine := by omega
  unfold ordT at ho
  split at ho
  · cases ho
    exact PySem.W.lt_data r1 r2 al hn hm ⟨.bl _, H, I, rfl, q⟩
  · cases ho
    exact PySem.W.gt_data r1 r2 al hn hm ⟨.bl _, H, I, rfl, q⟩
  · cases ho
    exact PySem.W.le_data r1 r2 al hn hm ⟨.bl _, H, I, rfl, q⟩
  · cases ho
    exact PySem.W.ge_data r1 r2 al hn hm ⟨.bl _, H, I, rfl, q⟩
  · cases ho
theorem td_none {d : D} (h : isTD d = true) : toPy d ≠ .none := by
  unfold isTD at h
  split at h
  · unfold toPy
    exact fun z => nomatch z
  · cases h
theorem tupC_ok {op : CmpOp} {x y d : D} (A : At X P w K mg base tb names k) (hx : isTD x = true) (h : tupC op x y = .ok d) (q : Φ d S) : (∃ b, d = .bl b) ∧ DO X (compareOp op) x y S Φ := by
  unfold tupC at h
  split at h
  · rename_i hh
    simp only [Bool.and_eq_true] at hh
    obtain ⟨⟨⟨⟨h1, h2⟩, h3⟩, h4⟩, h5⟩ := hh
    split at h
    · rename_i b ho
      cases h
      exact ⟨⟨_, rfl⟩, DO.of (op_ord A.room.units) fun Zh H u v Q st ra rb P => ⟨_, _, b, dp_of ra h1, dp_of rb h2, h3, td_none hx, Nat.le_of_ble_eq_true h4, Nat.le_of_ble_eq_true h5, ho, P.here st rep_bl q⟩⟩
    · cases h
  · cases h
theorem opC_ok {op : CmpOp} {x y d : D} (A : At X P w K mg base tb names k) (h : opC op x y = .ok d) (q : Φ d S) : (∃ b, d = .bl b) ∧ DO X (compareOp op) x y S Φ := by
  unfold opC at h
  split at h
  · exact rngCO_ok h q
  · split at h
    · rename_i hh
      rw [Bool.and_eq_true, Bool.and_eq_true] at hh
      exact tupC_ok A hh.1.1 h q
    · exact opC0_ok A h q
end
end Ar
namespace Ar
open PySem PySem.Spec PyProof.Rows L2
abbrev Cls := Str → Option Addr
/-- what is wanted behind an expression whose run is o -/
def PO (cls : Cls) (W : WX) (K : PySem.W.Frag) (Zh : List Addr) (σ : L2.St) (H : Hp) (S : Sto) (Q : VK) : Out D → Prop
  | .ok d => ∀ v H', Grow (keys S) H H' → Store K Zh H' S → Rep K (keys S ++ Zh) H' d v → Q v H'
  | .ex c => ∃ a, cls c = some a ∧ ∀ H', Grow (keys S) H H' → Store K Zh H' S → W (.ref a) none σ H'
  | .bad => False
def POL (cls : Cls) (W : WX) (K : PySem.W.Frag) (Zh : List Addr) (σ : L2.St) (H : Hp) (S : Sto) (Q : List V → Hp → Prop) : Out (List D) → Prop
  | .ok d => ∀ v H', Grow (keys S) H H' → Store K Zh H' S → RepL K (keys S ++ Zh) H' d v → Q v H'
  | .ex c => ∃ a, cls c = some a ∧ ∀ H', Grow (keys S) H H' → Store K Zh H' S → W (.ref a) none σ H'
  | .bad => False
def POT (cls : Cls) (W : WX) (K : PySem.W.Frag) (Zh : List Addr) (σ : L2.St) (H : Hp) (S : Sto) (Q : Bool → Hp → Prop) : Out Bool → Prop
  | .ok d => ∀ H', Grow (keys S) H H' → Store K Zh H' S → Q d H'
  | .ex c => ∃ a, cls c = some a ∧ ∀ H', Grow (keys S) H H' → Store K Zh H' S → W (.ref a) none σ H'
  | .bad => False
section
variable {cls : Cls} {W : WX} {K : PySem.W.Frag} {Zh : List Addr} {σ : L2.St} {H H1 : Hp} {S : Sto}
theorem PO.next {Q : VK} {o : Out D} (g : Grow (keys S) H H1) (h : PO cls W K Zh σ H S Q o) : PO cls W K Zh σ H1 S Q o := by
  cases o with
  | ok d => exact fun v H' g' s r => h v H' (g.trans g') s r
  | ex c =>
    obtain ⟨a, e, h⟩ := h
    exact ⟨a, e, fun H' g' s => h H' (g.trans g') s⟩
  | bad => exact h
theorem POL.next {Q : List V → Hp → Prop} {o : Out (List D)} (g : Grow (keys S) H H1) (h : POL cls W K Zh σ H S Q o) : POL cls W K Zh σ H1 S Q o := by
  cases o with
  | ok d => exact fun v H' g' s r => h v H' (g.trans g') s r
  | ex c =>
    obtain ⟨a, e, h⟩ := h
    exact ⟨a, e, fun H' g' s => h H' (g.trans g') s⟩
  | bad => exact h
theorem POT.next {Q : Bool → Hp → Prop} {o : Out Bool} (g : Grow (keys S) H H1) (h : POT cls W K Zh σ H S Q o) : POT cls W K Zh σ H1 S Q o := by
  cases o with
  | ok d => exact fun H' g' s => h H' (g.trans g') s
  | ex c =>
    obtain ⟨a, e, h⟩ := h
    exact ⟨a, e, fun H' g' s => h H' (g.trans g') s⟩
  | bad => exact h
/-- what a raising part of a whole wishes -/
def Ex (cls : Cls) (W : WX) (K : PySem.W.Frag) (Zh : List Addr) (σ : L2.St) (H : Hp) (S : Sto) (c : Str) : Prop := ∃ a, cls c = some a ∧ ∀ H', Grow (keys S) H H' → Store K Zh H' S → W (.ref a) none σ H'
theorem Post.po {Q : VK} {d : D} (h : PO cls W K Zh σ H S Q (.ok d)) : Post K Zh H S (fun d' S' => d' = d ∧ S' = S) Q := fun v H' d' S' k g s r q => by
  obtain ⟨rfl, rfl⟩ := q
  exact h v H' g s r
theorem PostR.po {Q : VK} {c : Str} (h : PO cls W K Zh σ H S Q (.ex c)) : PostR K Zh σ H S (fun v S' => (∃ a, v = .ref a ∧ cls c = some a) ∧ S' = S) W := fun v H' S' k g s q => by
  obtain ⟨⟨a, rfl, e⟩, rfl⟩ := q
  obtain ⟨b, e2, h⟩ := h
  rw [e] at e2
  cases e2
  exact h H' g s
end
def RunE (cls : Cls) (X : Cx) (W : WX) (e : Expr) (ρ : Ro) (S : Sto) (o : Out D) : Prop :=
  ∀ (Zh : List Addr) (pins : List (Addr × Obj)) (s : Shared) (σ : L2.St) (H : Hp) (Q : VK), Inv X pins σ H s → Ev X.K Zh H σ ρ S → PO cls W X.K Zh σ H S Q o → wpAny (model X.prog X.w) X.A (eval e X.env) (EP X pins σ Q) X.xe s
def RunT (cls : Cls) (X : Cx) (W : WX) (e : Expr) (ρ : Ro) (S : Sto) (o : Out Bool) : Prop :=
  ∀ (Zh : List Addr) (pins : List (Addr × Obj)) (s : Shared) (σ : L2.St) (H : Hp) (Q : Bool → Hp → Prop), Inv X pins σ H s → Ev X.K Zh H σ ρ S → POT cls W X.K Zh σ H S Q o → wpAny (model X.prog X.w) X.A (isTrue e X.env (eval e X.env)) (TP X pins σ Q) X.xe s
def RunW (cls : Cls) (X : Cx) (W : WX) (e : Expr) (ρ : Ro) (S : Sto) (o : Out Bool) : Prop :=
  ∀ (whole : Sem Value) (Zh : List Addr) (pins : List (Addr × Obj)) (s : Shared) (σ : L2.St) (H : Hp) (Q : Bool → Hp → Prop), Inv X pins σ H s → Ev X.K Zh H σ ρ S → POT cls W X.K Zh σ H S Q o → wpAny (model X.prog X.w) X.A (isTrue e X.env whole) (TP X pins σ Q) X.xe s
def RunA (cls : Cls) (X : Cx) (W : WX) (es : List Expr) (ρ : Ro) (S : Sto) (o : Out (List D)) : Prop :=
  ∀ (Zh : List Addr) (pos : Pos) (pins : List (Addr × Obj)) (s : Shared) (σ : L2.St) (H : Hp) (Q : List V → Hp → Prop), Inv X pins σ H s → Ev X.K Zh H σ ρ S → POL cls W X.K Zh σ H S Q o → wpAny (model X.prog X.w) X.A (spliced (backTo pos (starEach es X.env))) (AP X pins σ Q) X.xe s
section
variable {cls : Cls} {X : Cx} {W : WX} {ρ : Ro} {S : Sto} {e a b c : Expr} {es : List Expr} {pos p : Pos}
theorem RunE.of {t : TE} {o : Out D} (p : PE X e t) (h : ∀ Zh σ H Q, Ev X.K Zh H σ ρ S → PO cls W X.K Zh σ H S Q o → t σ H Q) : RunE cls X W e ρ S o := fun Zh pins s σ H Q I E q => p.run pins s σ H Q I (h Zh σ H Q E q)
theorem RunT.of {t : TT} {o : Out Bool} (p : PT X e t) (h : ∀ Zh σ H Q, Ev X.K Zh H σ ρ S → POT cls W X.K Zh σ H S Q o → t σ H Q) : RunT cls X W e ρ S o := fun Zh pins s σ H Q I E q => p.run pins s σ H Q I (h Zh σ H Q E q)
theorem RunW.of {t : TT} {o : Out Bool} (p : PW X e t) (h : ∀ Zh σ H Q, Ev X.K Zh H σ ρ S → POT cls W X.K Zh σ H S Q o → t σ H Q) : RunW cls X W e ρ S o := fun wh Zh pins s σ H Q I E q => p.run wh pins s σ H Q I (h Zh σ H Q E q)
theorem RunA.of {t : TA} {o : Out (List D)} (p : PA X es t) (h : ∀ Zh σ H Q, Ev X.K Zh H σ ρ S → POL cls W X.K Zh σ H S Q o → t σ H Q) : RunA cls X W es ρ S o := fun Zh pos pins s σ H Q I E q => p.run pos pins s σ H Q I (h Zh σ H Q E q)
theorem RunE.tw {o : Out D} {Zh : List Addr} {σ : L2.St} {H : Hp} {Q : VK} (h : RunE cls X W e ρ S o) (E : Ev X.K Zh H σ ρ S) (q : PO cls W X.K Zh σ H S Q o) : tW X e σ H Q := fun pins s I => h Zh pins s σ H Q I E q
theorem RunT.tw {o : Out Bool} {Zh : List Addr} {σ : L2.St} {H : Hp} {Q : Bool → Hp → Prop} (h : RunT cls X W e ρ S o) (E : Ev X.K Zh H σ ρ S) (q : POT cls W X.K Zh σ H S Q o) : ttW X e σ H Q := fun pins s I => h Zh pins s σ H Q I E q
theorem RunW.tw {o : Out Bool} {Zh : List Addr} {σ : L2.St} {H : Hp} {Q : Bool → Hp → Prop} (h : RunW cls X W e ρ S o) (E : Ev X.K Zh H σ ρ S) (q : POT cls W X.K Zh σ H S Q o) : twW X e σ H Q := fun wh pins s I => h wh Zh pins s σ H Q I E q
theorem RunA.tw {o : Out (List D)} {Zh : List Addr} {σ : L2.St} {H : Hp} {Q : List V → Hp → Prop} (h : RunA cls X W es ρ S o) (E : Ev X.K Zh H σ ρ S) (q : POL cls W X.K Zh σ H S Q o) : taW X es σ H Q := fun pos pins s I => h Zh pos pins s σ H Q I E q
/-- from a judgement of old -/
theorem RunE.de {d : D} (h : ∀ Φ : D → Sto → Prop, Φ d S → DE X e ρ S Φ) : RunE cls X W e ρ S (.ok d) := fun Zh pins s σ H Q I E q => h _ ⟨rfl, rfl⟩ Zh pins s σ H Q I E (Post.po q)
theorem RunE.deOf {d : D} {Φ : D → Sto → Prop} (h : RunE cls X W e ρ S (.ok d)) (q : Φ d S) : DE X e ρ S Φ := fun Zh pins s σ H Q I E P => h Zh pins s σ H Q I E fun v H' g s' r => P v H' d S rfl g s' r q
theorem RunE.drOf {c : Str} {a : Addr} {Ξ : Xi} (h : RunE cls X W e ρ S (.ex c)) (hc : cls c = some a) (q : Ξ (.ref a) S) : DR X W e ρ S Ξ := fun Zh pins s σ H Q I E P => h Zh pins s σ H Q I E ⟨a, hc, fun H' g s' => P _ H' S rfl g s' q⟩
theorem RunT.dtOf {d : Bool} {Φ : Bool → Sto → Prop} (h : RunT cls X W e ρ S (.ok d)) (q : Φ d S) : DT X e ρ S Φ := fun Zh pins s σ H Q I E P => h Zh pins s σ H Q I E fun H' g s' => P d H' S rfl g s' q
theorem RunE.bad : RunE cls X W e ρ S .bad := fun Zh pins s σ H Q I E q => q.elim
theorem RunT.bad : RunT cls X W e ρ S .bad := fun Zh pins s σ H Q I E q => q.elim
theorem RunW.bad : RunW cls X W e ρ S .bad := fun _ Zh pins s σ H Q I E q => q.elim
theorem RunA.bad : RunA cls X W es ρ S .bad := fun Zh _ pins s σ H Q I E q => q.elim
/-- a part, then the rest -/
theorem RunE.bind {o : Out D} {f : D → Out D} {Zh : List Addr} {σ : L2.St} {H : Hp} {Q Q1 : VK} (h : RunE cls X W a ρ S o) (E : Ev X.K Zh H σ ρ S) (P : PO cls W X.K Zh σ H S Q (o.bind f))
    (k : ∀ x v H1, o = .ok x → Grow (keys S) H H1 → Ev X.K Zh H1 σ ρ S → Rep X.K (keys S ++ Zh) H1 x v → PO cls W X.K Zh σ H1 S Q (f x) → Q1 v H1) : tW X a σ H Q1 := by
  cases o with
  | ok x => exact h.tw E fun v H1 g s r => k x v H1 rfl g (E.next rfl g s) r (PO.next g P)
  | ex c => exact h.tw E P
  | bad => exact P.elim
theorem RunE.bindT {o : Out D} {f : D → Out Bool} {Zh : List Addr} {σ : L2.St} {H : Hp} {Q : Bool → Hp → Prop} {Q1 : VK} (h : RunE cls X W a ρ S o) (E : Ev X.K Zh H σ ρ S) (P : POT cls W X.K Zh σ H S Q (o.bind f))
    (k : ∀ x v H1, o = .ok x → Grow (keys S) H H1 → Ev X.K Zh H1 σ ρ S → Rep X.K (keys S ++ Zh) H1 x v → POT cls W X.K Zh σ H1 S Q (f x) → Q1 v H1) : tW X a σ H Q1 := by
  cases o with
  | ok x => exact h.tw E fun v H1 g s r => k x v H1 rfl g (E.next rfl g s) r (POT.next g P)
  | ex c => exact h.tw E P
  | bad => exact P.elim
theorem RunE.bindL {o : Out D} {f : D → Out (List D)} {Zh : List Addr} {σ : L2.St} {H : Hp} {Q : List V → Hp → Prop} {Q1 : VK} (h : RunE cls X W a ρ S o) (E : Ev X.K Zh H σ ρ S) (P : POL cls W X.K Zh σ H S Q (o.bind f))
    (k : ∀ x v H1, o = .ok x → Grow (keys S) H H1 → Ev X.K Zh H1 σ ρ S → Rep X.K (keys S ++ Zh) H1 x v → POL cls W X.K Zh σ H1 S Q (f x) → Q1 v H1) : tW X a σ H Q1 := by
  cases o with
  | ok x => exact h.tw E fun v H1 g s r => k x v H1 rfl g (E.next rfl g s) r (POL.next g P)
  | ex c => exact h.tw E P
  | bad => exact P.elim
theorem RunT.bind {o : Out Bool} {f : Bool → Out D} {Zh : List Addr} {σ : L2.St} {H : Hp} {Q : VK} {Q1 : Bool → Hp → Prop} (h : RunT cls X W a ρ S o) (E : Ev X.K Zh H σ ρ S) (P : PO cls W X.K Zh σ H S Q (o.bind f))
    (k : ∀ x H1, o = .ok x → Grow (keys S) H H1 → Ev X.K Zh H1 σ ρ S → PO cls W X.K Zh σ H1 S Q (f x) → Q1 x H1) : ttW X a σ H Q1 := by
  cases o with
  | ok x => exact h.tw E fun H1 g s => k x H1 rfl g (E.next rfl g s) (PO.next g P)
  | ex c => exact h.tw E P
  | bad => exact P.elim
theorem RunT.bindT {o : Out Bool} {f : Bool → Out Bool} {Zh : List Addr} {σ : L2.St} {H : Hp} {Q : Bool → Hp → Prop} {Q1 : Bool → Hp → Prop} (h : RunT cls X W a ρ S o) (E : Ev X.K Zh H σ ρ S) (P : POT cls W X.K Zh σ H S Q (o.bind f))
    (k : ∀ x H1, o = .ok x → Grow (keys S) H H1 → Ev X.K Zh H1 σ ρ S → POT cls W X.K Zh σ H1 S Q (f x) → Q1 x H1) : ttW X a σ H Q1 := by
  cases o with
  | ok x => exact h.tw E fun H1 g s => k x H1 rfl g (E.next rfl g s) (POT.next g P)
  | ex c => exact h.tw E P
  | bad => exact P.elim
theorem RunA.bind {o : Out (List D)} {f : List D → Out D} {Zh : List Addr} {σ : L2.St} {H : Hp} {Q : VK} {Q1 : List V → Hp → Prop} (h : RunA cls X W es ρ S o) (E : Ev X.K Zh H σ ρ S) (P : PO cls W X.K Zh σ H S Q (o.bind f))
    (k : ∀ x v H1, o = .ok x → Grow (keys S) H H1 → Ev X.K Zh H1 σ ρ S → RepL X.K (keys S ++ Zh) H1 x v → PO cls W X.K Zh σ H1 S Q (f x) → Q1 v H1) : taW X es σ H Q1 := by
  cases o with
  | ok x => exact h.tw E fun v H1 g s r => k x v H1 rfl g (E.next rfl g s) r (PO.next g P)
  | ex c => exact h.tw E P
  | bad => exact P.elim
theorem RunA.bindL {o : Out (List D)} {f : List D → Out (List D)} {Zh : List Addr} {σ : L2.St} {H : Hp} {Q : List V → Hp → Prop} {Q1 : List V → Hp → Prop} (h : RunA cls X W es ρ S o) (E : Ev X.K Zh H σ ρ S) (P : POL cls W X.K Zh σ H S Q (o.bind f))
    (k : ∀ x v H1, o = .ok x → Grow (keys S) H H1 → Ev X.K Zh H1 σ ρ S → RepL X.K (keys S ++ Zh) H1 x v → POL cls W X.K Zh σ H1 S Q (f x) → Q1 v H1) : taW X es σ H Q1 := by
  cases o with
  | ok x => exact h.tw E fun v H1 g s r => k x v H1 rfl g (E.next rfl g s) r (POL.next g P)
  | ex c => exact h.tw E P
  | bad => exact P.elim
/-! ### the constructs -/
theorem PO.op {f : Value → Value → Sem Value} {x y : D} {o : Out D} {Zh : List Addr} {σ : L2.St} {H : Hp} {Q : VK} {v u : V} (h : ∀ d, o = .ok d → ∀ Φ : D → Sto → Prop, Φ d S → DO X f x y S Φ) (hx : ∀ c, o ≠ .ex c) (st : Store X.K Zh H S) (rx : Rep X.K (keys S ++ Zh) H x v) (ry : Rep X.K (keys S ++ Zh) H y u)
    (P : PO cls W X.K Zh σ H S Q o) : rW X f v u H Q := by
  cases o with
  | ok d => exact (h d rfl _ ⟨rfl, rfl⟩).rw st rx ry (Post.po P)
  | ex c => exact absurd rfl (hx c)
  | bad => exact P.elim
theorem opB_nx {op : Operator} {x y : D} : ∀ c, opB op x y ≠ .ex c := fun c h => by
  unfold opB at h
  split at h
  · unfold rngO at h
    split at h
    · unfold rngB at h
      split at h <;> (try split at h) <;> cases h
    · cases h
  · unfold opB0 at h
    split at h <;> (try split at h) <;> (try split at h) <;> cases h
theorem yesNo_nx {y n : Bool} : ∀ c, yesNo y n ≠ .ex c := fun c h => by
  unfold yesNo at h
  split at h <;> (try split at h) <;> cases h
theorem opC_nx {op : CmpOp} {x y : D} : ∀ c, opC op x y ≠ .ex c := fun c h => by
  unfold opC at h
  split at h
  · unfold rngCO at h
    split at h
    · unfold rngC at h
      split at h <;> first | exact yesNo_nx _ h | cases h
    · cases h
  · split at h
    · unfold tupC at h
      split at h <;> (try split at h) <;> cases h
    · unfold opC0 inC inQ at h
      split at h <;> (try split at h) <;> (try split at h) <;> cases h
theorem run_bin {op : Operator} {oa ob : Out D} (ha : RunE cls X W a ρ S oa) (hb : RunE cls X W b ρ S ob) : RunE cls X W (.BinOp a op b pos) ρ S (oa.bind fun x => ob.bind fun y => opB op x y) :=
  RunE.of (pe_op op_w pe_w pe_w) fun Zh σ H Q E P => ha.bind E P fun x v H1 _ g1 E1 r1 P1 => hb.bind E1 P1 fun y u H2 _ g2 E2 r2 P2 => PO.op (fun d h Φ q => opB_ok h q) opB_nx E2.st (E1.st.gr g2 r1) r2 P2
theorem run_neg {oa : Out D} (ha : RunE cls X W a ρ S oa) : RunE cls X W (.UnaryOp .USub a pos) ρ S (oa.bind fun x => match x with | .int i => .ok (.int (-i)) | _ => .bad) :=
  RunE.of (pe_un un_neg pe_w) fun Zh σ H Q E P => ha.bind E P fun x v H1 _ g1 E1 r1 P1 => by
    cases x <;> first | exact P1.elim | skip
    exact ⟨_, r1.int, P1 _ H1 Grow.refl E1.st rep_int⟩
/-- a value's truth -/
def truO : D → Out Bool
  | .non => .ok false
  | .bl b => .ok b
  | .int i => .ok (i != 0)
  | .str z => if shortS z then .ok ((z.length : Int) != 0) else .bad
  | .tup l => .ok (!l.isEmpty)
  | .lst l => .ok (!l.isEmpty)
  | .frz l => .ok (!l.isEmpty)
  | _ => .bad
theorem truO_ok {d : D} {c : Bool} (h : truO d = .ok c) : TruD S d c := by
  unfold truO at h
  split at h <;> (try split at h) <;> cases h <;> first | rfl | skip
  rename_i z hs
  exact ⟨line_of (short_len hs) (by decide), rfl⟩
theorem truO_nx {d : D} : ∀ c, truO d ≠ .ex c := fun c h => by
  unfold truO at h
  split at h <;> (try split at h) <;> cases h
theorem run_not {oa : Out D} (ha : RunE cls X W a ρ S oa) : RunE cls X W (.UnaryOp .Not a pos) ρ S (oa.bind fun x => (truO x).bind fun c => .ok (.bl (!c))) :=
  RunE.of (pe_notT pe_w) fun Zh σ H Q E P => ha.bind E P fun x v H1 _ g1 E1 r1 P1 => by
    cases ht : truO x with
    | ok c =>
      rw [ht] at P1
      exact ⟨c, truV_of E1.st r1 (truO_ok ht), P1 _ H1 Grow.refl E1.st rep_bl⟩
    | ex c => exact absurd ht (truO_nx c)
    | bad =>
      rw [ht] at P1
      exact P1.elim
theorem run_if {oc : Out Bool} {oa ob : Out D} (hc : RunT cls X W c ρ S oc) (ha : RunE cls X W a ρ S oa) (hb : RunE cls X W b ρ S ob) : RunE cls X W (.IfExp c a b pos) ρ S (oc.bind fun k => if k then oa else ob) :=
  RunE.of (pe_ifExp pt_w pe_w pe_w) fun Zh σ H Q E P => hc.bind E P fun k H1 _ g1 E1 P1 => by
    cases k with
    | true => exact ha.tw E1 P1
    | false => exact hb.tw E1 P1
theorem run_b1 {op : BoolOp} {oa : Out D} (ha : RunE cls X W a ρ S oa) : RunE cls X W (.BoolOp op [a] pos) ρ S oa := RunE.of (pe_one pe_w) fun Zh σ H Q E P => ha.tw E P
theorem run_and {oa ob : Out D} {rest : List Expr} (ha : RunE cls X W a ρ S oa) (hb : RunE cls X W (.BoolOp .And (b :: rest) pos) ρ S ob) : RunE cls X W (.BoolOp .And (a :: b :: rest) pos) ρ S (oa.bind fun x => (truO x).bind fun c => if c then ob else .ok x) :=
  RunE.of (pe_andT pe_w pe_w) fun Zh σ H Q E P => ha.bind E P fun x v H1 _ g1 E1 r1 P1 => by
    cases ht : truO x with
    | ok c =>
      rw [ht] at P1
      refine ⟨c, truV_of E1.st r1 (truO_ok ht), ?_⟩
      cases c with
      | true => exact hb.tw E1 P1
      | false => exact P1 v H1 Grow.refl E1.st r1
    | ex c => exact absurd ht (truO_nx c)
    | bad =>
      rw [ht] at P1
      exact P1.elim
theorem run_or {oa ob : Out D} {rest : List Expr} (ha : RunE cls X W a ρ S oa) (hb : RunE cls X W (.BoolOp .Or (b :: rest) pos) ρ S ob) : RunE cls X W (.BoolOp .Or (a :: b :: rest) pos) ρ S (oa.bind fun x => (truO x).bind fun c => if c then .ok x else ob) :=
  RunE.of (pe_orT pe_w pe_w) fun Zh σ H Q E P => ha.bind E P fun x v H1 _ g1 E1 r1 P1 => by
    cases ht : truO x with
    | ok c =>
      rw [ht] at P1
      refine ⟨c, truV_of E1.st r1 (truO_ok ht), ?_⟩
      cases c with
      | true => exact P1 v H1 Grow.refl E1.st r1
      | false => exact hb.tw E1 P1
    | ex c => exact absurd ht (truO_nx c)
    | bad =>
      rw [ht] at P1
      exact P1.elim
theorem run_tup {x1} {o : Out (List D)} (hl : Nat.ble es.length 1000 = true) (h : RunA cls X W es ρ S o) (ho : ∀ l, o = .ok l → l.length = es.length) : RunE cls X W (.Tuple es x1 pos) ρ S (o.bind fun l => .ok (.tup l)) :=
  RunE.of (pe_tup pa_w) fun Zh σ H Q E P => h.bind E P fun l vs H1 hh g1 E1 r1 P1 => ⟨by rw [r1.length, ho l hh]; exact sz hl, fun p hp => P1 (.ref p) _ (Grow.new hp) (E1.st.new hp) (by
    unfold Rep
    exact ⟨p, vs, rfl, .inl (.inl upd_same), E1.st.grL (Grow.new hp) r1⟩)⟩
theorem run_lst {o : Out (List D)} (hl : Nat.ble es.length 1000 = true) (h : RunA cls X W es ρ S o) (ho : ∀ l, o = .ok l → l.length = es.length) : RunE cls X W (.List es pos) ρ S (o.bind fun l => .ok (.lst l)) :=
  RunE.of (pe_lst pa_w) fun Zh σ H Q E P => h.bind E P fun l vs H1 hh g1 E1 r1 P1 => ⟨by rw [r1.length, ho l hh]; exact sz hl, fun p hp => P1 (.ref p) _ (Grow.new hp) (E1.st.new hp) (by
    unfold Rep
    exact ⟨p, vs, rfl, E1.st.free hp, upd_same, E1.st.grL (Grow.new hp) r1⟩)⟩
theorem runA_nil : RunA cls X W [] ρ S (.ok []) := RunA.of pa_nil fun Zh σ H Q E P => P [] H Grow.refl E.st .nil
theorem runA_cons {oa : Out D} {ob : Out (List D)} (hs : isStar e = false) (ha : RunE cls X W e ρ S oa) (hb : RunA cls X W es ρ S ob) : RunA cls X W (e :: es) ρ S (oa.bind fun x => ob.bind fun l => .ok (x :: l)) :=
  RunA.of (pa_cons pe_w pa_w (star_no hs)) fun Zh σ H Q E P => ha.bindL E P fun x v H1 _ g1 E1 r1 P1 => hb.bindL E1 P1 fun l vs H2 _ g2 E2 r2 P2 => P2 (v :: vs) H2 Grow.refl E2.st (.cons (E1.st.gr g2 r1) r2)
/-! tests -/
theorem runT_leaf {o : Out D} (hl : isLeafT e = true) (h : RunE cls X W e ρ S o) : RunT cls X W e ρ S (o.bind truO) :=
  RunT.of (pt_truth pe_w (leafT hl)) fun Zh σ H Q E P => h.bindT E P fun x v H1 _ g1 E1 r1 P1 => by
    cases ht : truO x with
    | ok c =>
      rw [ht] at P1
      exact ⟨c, truV_of E1.st r1 (truO_ok ht), P1 H1 Grow.refl E1.st⟩
    | ex c => exact absurd ht (truO_nx c)
    | bad =>
      rw [ht] at P1
      exact P1.elim
theorem runT_not {o : Out Bool} (h : RunT cls X W a ρ S o) : RunT cls X W (.UnaryOp .Not a pos) ρ S (o.bind fun c => .ok (!c)) :=
  RunT.of (pt_not pt_w) fun Zh σ H Q E P => h.bindT E P fun c H1 _ g1 E1 P1 => P1 H1 Grow.refl E1.st
theorem runT_w {op} {o : Out Bool} (h : RunW cls X W (.BoolOp op es pos) ρ S o) : RunT cls X W (.BoolOp op es pos) ρ S o := fun Zh pins s σ H Q I E q => h _ Zh pins s σ H Q I E q
theorem runW_and1 {o : Out Bool} (h : RunT cls X W a ρ S o) : RunW cls X W (.BoolOp .And [a] pos) ρ S o := RunW.of (pw_and1 pt_w) fun Zh σ H Q E P => h.tw E P
theorem runW_or1 {o : Out Bool} (h : RunT cls X W a ρ S o) : RunW cls X W (.BoolOp .Or [a] pos) ρ S o := RunW.of (pw_or1 pt_w) fun Zh σ H Q E P => h.tw E P
theorem runW_and {oa ob : Out Bool} {rest : List Expr} (ha : RunT cls X W a ρ S oa) (hb : RunW cls X W (.BoolOp .And (b :: rest) pos) ρ S ob) : RunW cls X W (.BoolOp .And (a :: b :: rest) pos) ρ S (oa.bind fun c => if c then ob else .ok false) :=
  RunW.of (pw_and pt_w pw_w) fun Zh σ H Q E P => ha.bindT E P fun c H1 _ g1 E1 P1 => by
    cases c with
    | true => exact hb.tw E1 P1
    | false => exact P1 H1 Grow.refl E1.st
theorem runW_or {oa ob : Out Bool} {rest : List Expr} (ha : RunT cls X W a ρ S oa) (hb : RunW cls X W (.BoolOp .Or (b :: rest) pos) ρ S ob) : RunW cls X W (.BoolOp .Or (a :: b :: rest) pos) ρ S (oa.bind fun c => if c then .ok true else ob) :=
  RunW.of (pw_or pt_w pw_w) fun Zh σ H Q E P => ha.bindT E P fun c H1 _ g1 E1 P1 => by
    cases c with
    | true => exact P1 H1 Grow.refl E1.st
    | false => exact hb.tw E1 P1
def asBl : D → Out Bool
  | .bl b => .ok b
  | _ => .bad
variable {P : Program} {w : World} {K : PySem.W.Frag} {mg : Str → Option Value} {base : Heap} {tb : List (Str × Nat)} {names : List (Str × NameKind)} {k : Nat}
theorem run_cmp {op : CmpOp} {oa ob : Out D} (A : At X P w K mg base tb names k) (hm : isSet b = false) (ha : RunE cls X W a ρ S oa) (hb : RunE cls X W b ρ S ob) : RunE cls X W (.Compare a [op] [b] pos) ρ S (oa.bind fun x => ob.bind fun y => opC op x y) :=
  RunE.of (pe_cmpR op_w pe_w pe_w (marks_no hm)) fun Zh σ H Q E P => ha.bind E P fun x v H1 _ g1 E1 r1 P1 => hb.bind E1 P1 fun y u H2 _ g2 E2 r2 P2 => PO.op (fun d h Φ q => (opC_ok A h q).2) opC_nx E2.st (E1.st.gr g2 r1) r2 P2
theorem runT_cmp {op : CmpOp} {oa ob : Out D} (A : At X P w K mg base tb names k) (hm : isSet b = false) (ha : RunE cls X W a ρ S oa) (hb : RunE cls X W b ρ S ob) : RunT cls X W (.Compare a [op] [b] pos) ρ S (oa.bind fun x => ob.bind fun y => (opC op x y).bind asBl) :=
  RunT.of (pt_cmpR op_w pe_w pe_w (marks_no hm)) fun Zh σ H Q E P => ha.bindT E P fun x v H1 _ g1 E1 r1 P1 => hb.bindT E1 P1 fun y u H2 _ g2 E2 r2 P2 => by
    cases hc : opC op x y with
    | ok d =>
      rw [hc] at P2
      obtain ⟨⟨c, rfl⟩, _⟩ := opC_ok (X := X) (S := S) (Φ := fun _ _ => True) A hc trivial
      refine (opC_ok (X := X) (S := S) (Φ := fun d' S' => d' = .bl c ∧ S' = S) A hc ⟨rfl, rfl⟩).2.rw E2.st (E1.st.gr g2 r1) r2 fun v' H' d' S' k' g' s' r' q' => ?_
      obtain ⟨rfl, rfl⟩ := q'
      exact ⟨c, r'.bl, P2 H' g' s'⟩
    | ex c => exact absurd hc (opC_nx c)
    | bad =>
      rw [hc] at P2
      exact P2.elim
theorem run_chain {op op2 : CmpOp} {oa ob oc : Out D} (A : At X P w K mg base tb names k) (hm : isSet c = false) (ha : RunE cls X W a ρ S oa) (hb : RunE cls X W b ρ S ob) (hc : RunE cls X W c ρ S oc) : RunE cls X W (.Compare a [op, op2] [b, c] pos) ρ S (oa.bind fun x => ob.bind fun y => (opC op x y).bind fun t => (asBl t).bind fun k => if k then oc.bind fun z => opC op2 y z else .ok (.bl false)) :=
  RunE.of (pe_chain op_w op_w pe_w pe_w pe_w (marks_no hm)) fun Zh σ H Q E P => ha.bind E P fun x v H1 _ g1 E1 r1 P1 => hb.bind E1 P1 fun y u H2 _ g2 E2 r2 P2 => by
    cases ho : opC op x y with
    | ok d =>
      rw [ho] at P2
      obtain ⟨⟨t, rfl⟩, _⟩ := opC_ok (X := X) (S := S) (Φ := fun _ _ => True) A ho trivial
      refine (opC_ok (X := X) (S := S) (Φ := fun d' S' => d' = .bl t ∧ S' = S) A ho ⟨rfl, rfl⟩).2.rw E2.st (E1.st.gr g2 r1) r2 fun v' H' d' S' k' g' s' r' q' => ?_
      obtain ⟨rfl, rfl⟩ := q'
      refine ⟨t, r'.bl, ?_⟩
      have E3 := E2.next rfl g' s'
      cases t with
      | true => exact hc.bind E3 (PO.next g' P2) fun z w' H4 _ g4 E4 r4 P4 => PO.op (fun d h Φ q => (opC_ok A h q).2) opC_nx E4.st (E3.st.gr g4 (E2.st.gr g' r2)) r4 P4
      | false => exact P2 _ H' g' s' rep_bl
    | ex cc => exact absurd ho (opC_nx cc)
    | bad =>
      rw [ho] at P2
      exact P2.elim
theorem runT_chain {op op2 : CmpOp} {oa ob oc : Out D} (A : At X P w K mg base tb names k) (hm : isSet c = false) (ha : RunE cls X W a ρ S oa) (hb : RunE cls X W b ρ S ob) (hc : RunE cls X W c ρ S oc) : RunT cls X W (.Compare a [op, op2] [b, c] pos) ρ S (oa.bind fun x => ob.bind fun y => (opC op x y).bind fun t => (asBl t).bind fun k => if k then oc.bind fun z => (opC op2 y z).bind asBl else .ok false) :=
  RunT.of (pt_chain op_w op_w pe_w pe_w pe_w (marks_no hm)) fun Zh σ H Q E P => ha.bindT E P fun x v H1 _ g1 E1 r1 P1 => hb.bindT E1 P1 fun y u H2 _ g2 E2 r2 P2 => by
    cases ho : opC op x y with
    | ok d =>
      rw [ho] at P2
      obtain ⟨⟨t, rfl⟩, _⟩ := opC_ok (X := X) (S := S) (Φ := fun _ _ => True) A ho trivial
      refine (opC_ok (X := X) (S := S) (Φ := fun d' S' => d' = .bl t ∧ S' = S) A ho ⟨rfl, rfl⟩).2.rw E2.st (E1.st.gr g2 r1) r2 fun v' H' d' S' k' g' s' r' q' => ?_
      obtain ⟨rfl, rfl⟩ := q'
      refine ⟨t, r'.bl, ?_⟩
      have E3 := E2.next rfl g' s'
      cases t with
      | true =>
        refine hc.bindT E3 (POT.next g' P2) fun z w' H4 _ g4 E4 r4 P4 => ?_
        cases ho2 : opC op2 y z with
        | ok d2 =>
          rw [ho2] at P4
          obtain ⟨⟨t2, rfl⟩, _⟩ := opC_ok (X := X) (S := S') (Φ := fun _ _ => True) A ho2 trivial
          refine (opC_ok (X := X) (S := S') (Φ := fun d' S2 => d' = .bl t2 ∧ S2 = S') A ho2 ⟨rfl, rfl⟩).2.rw E4.st (E3.st.gr g4 (E2.st.gr g' r2)) r4 fun v5 H5 d5 S5 k5 g5 s5 r5 q5 => ?_
          obtain ⟨rfl, rfl⟩ := q5
          exact ⟨t2, r5.bl, P4 H5 g5 s5⟩
        | ex cc => exact absurd ho2 (opC_nx cc)
        | bad =>
          rw [ho2] at P4
          exact P4.elim
      | false => exact ⟨false, rfl, P2 H' g' s'⟩
    | ex cc => exact absurd ho (opC_nx cc)
    | bad =>
      rw [ho] at P2
      exact P2.elim
end
end Ar
namespace Ar
open PySem PySem.Spec PyProof.Rows L2
/-! ### index, slices, built-ins, calls, comprehensions -/
def Out.nx {α : Type} : Out α → Out α
  | .ok a => .ok a
  | _ => .bad
def ixO : D → D → Out D
  | .tup l, .int i => match atI l i with | some e => .ok e | none => .bad
  | .lst l, .int i => match atI l i with | some e => .ok e | none => .bad
  | .frz l, .int i => match atI l i with | some e => .ok e | none => .bad
  | .str z, .int i => if shortS z then match atI z.cps.toList i with | some c => .ok (.str ⟨#[c]⟩) | none => .bad else .bad
  | _, _ => .bad
def slO : D → Option Int → Option Int → Out D
  | .tup l, lo, hi => .ok (.tup (cutD l lo hi))
  | .lst l, lo, hi => .ok (.lst (cutD l lo hi))
  | .frz l, lo, hi => .ok (.lst (cutD l lo hi))
  | .str z, lo, hi => if shortS z then .ok (.str (cutS z lo hi)) else .bad
  | _, _, _ => .bad
def intO : D → Out Int
  | .int i => .ok i
  | _ => .bad
def revO : D → Out D
  | .str z => if shortS z then .ok (.str ⟨z.cps.toList.reverse.toArray⟩) else .bad
  | .tup l => .ok (.tup l.reverse)
  | .lst l => .ok (.lst l.reverse)
  | _ => .bad
def asInts : List D → Option (List Int)
  | [] => some []
  | .int i :: l => (asInts l).map (i :: ·)
  | _ => none
def asBls : List D → Option (List Bool)
  | [] => some []
  | .bl i :: l => (asBls l).map (i :: ·)
  | _ => none
def asStrs : List D → Option (List Str)
  | [] => some []
  | .str i :: l => (asStrs l).map (i :: ·)
  | _ => none
theorem asInts_eq : ∀ {l : List D} {m : List Int}, asInts l = some m → l = m.map D.int
  | [], m, h => by cases h; rfl
  | .int i :: l, m, h => by
    unfold asInts at h
    cases e : asInts l with
    | none => rw [e] at h; cases h
    | some m' => rw [e] at h; cases h; rw [asInts_eq e]; rfl
  | .non :: _, _, h => by cases h
  | .bl _ :: _, _, h => by cases h
  | .str _ :: _, _, h => by cases h
  | .tup _ :: _, _, h => by cases h
  | .lst _ :: _, _, h => by cases h
  | .frz _ :: _, _, h => by cases h
  | .cell _ :: _, _, h => by cases h
  | .dct _ _ :: _, _, h => by cases h
  | .rng _ _ :: _, _, h => by cases h
theorem asBls_eq : ∀ {l : List D} {m : List Bool}, asBls l = some m → l = m.map D.bl
  | [], m, h => by cases h; rfl
  | .bl i :: l, m, h => by
    unfold asBls at h
    cases e : asBls l with
    | none => rw [e] at h; cases h
    | some m' => rw [e] at h; cases h; rw [asBls_eq e]; rfl
  | .non :: _, _, h => by cases h
  | .int _ :: _, _, h => by cases h
  | .str _ :: _, _, h => by cases h
  | .tup _ :: _, _, h => by cases h
  | .lst _ :: _, _, h => by cases h
  | .frz _ :: _, _, h => by cases h
  | .cell _ :: _, _, h => by cases h
  | .dct _ _ :: _, _, h => by cases h
  | .rng _ _ :: _, _, h => by cases h
theorem asStrs_eq : ∀ {l : List D} {m : List Str}, asStrs l = some m → l = m.map D.str
  | [], m, h => by cases h; rfl
  | .str i :: l, m, h => by
    unfold asStrs at h
    cases e : asStrs l with
    | none => rw [e] at h; cases h
    | some m' => rw [e] at h; cases h; rw [asStrs_eq e]; rfl
  | .non :: _, _, h => by cases h
  | .int _ :: _, _, h => by cases h
  | .bl _ :: _, _, h => by cases h
  | .tup _ :: _, _, h => by cases h
  | .lst _ :: _, _, h => by cases h
  | .frz _ :: _, _, h => by cases h
  | .cell _ :: _, _, h => by cases h
  | .dct _ _ :: _, _, h => by cases h
  | .rng _ _ :: _, _, h => by cases h
section
variable {cls : Cls} {X : Cx} {W : WX} {ρ : Ro} {S : Sto} {e a b c : Expr} {es : List Expr} {pos p : Pos}
theorem RunE.exOf {c : Str} (h : ∀ Ξ : Xi, (∀ a, cls c = some a → Ξ (.ref a) S) → DR X W e ρ S Ξ) : RunE cls X W e ρ S (.ex c) := fun Zh pins s σ H Q I E q => by
  obtain ⟨a, e1, h1⟩ := q
  refine h (fun v S' => v = .ref a ∧ S' = S) (fun a' e2 => ?_) Zh pins s σ H Q I E fun v H' S' k g s' q => ?_
  · rw [e1] at e2
    cases e2
    exact ⟨rfl, rfl⟩
  · obtain ⟨rfl, rfl⟩ := q
    exact h1 H' g s'
theorem RunE.drX {c : Str} {Ξ : Xi} (h : RunE cls X W e ρ S (.ex c)) (q : ∃ a, cls c = some a ∧ Ξ (.ref a) S) : DR X W e ρ S Ξ := by
  obtain ⟨a, e1, q⟩ := q
  exact h.drOf e1 q
theorem RunE.exFrom {e : Expr} {c : Str} (ha : RunE cls X W a ρ S (.ex c)) (hex : ∀ Ξ : Xi, DR X W a ρ S Ξ → DR X W e ρ S Ξ) : RunE cls X W e ρ S (.ex c) := by
  intro Zh pins s σ H Q I E q
  obtain ⟨a', e1, h1⟩ := q
  refine hex _ (ha.drOf (Ξ := fun v S' => v = .ref a' ∧ S' = S) e1 ⟨rfl, rfl⟩) Zh pins s σ H Q I E ?_
  intro v H' S' k g s' q
  obtain ⟨rfl, rfl⟩ := q
  exact h1 H' g s'
/-- one part, then a function of it, by the judgements of old -/
theorem run_one {e : Expr} {oa : Out D} {g : D → Out D} (ha : RunE cls X W a ρ S oa) (gx : ∀ x c, g x ≠ .ex c) (hok : ∀ x d, g x = .ok d → ∀ Φ : D → Sto → Prop, Φ d S → (∀ Ψ : D → Sto → Prop, Ψ x S → DE X a ρ S Ψ) → DE X e ρ S Φ)
    (hex : ∀ Ξ : Xi, DR X W a ρ S Ξ → DR X W e ρ S Ξ) : RunE cls X W e ρ S (oa.bind g) := by
  cases oa with
  | bad => exact RunE.bad
  | ex c => exact ha.exFrom hex
  | ok x =>
    show RunE cls X W e ρ S (g x)
    cases hg : g x with
    | bad => exact RunE.bad
    | ex c => exact absurd hg (gx x c)
    | ok d => exact RunE.de fun Φ q => hok x d hg Φ q fun Ψ q => ha.deOf q
theorem run_two {e : Expr} {oa ob : Out D} {g : D → D → Out D} (ha : RunE cls X W a ρ S oa) (hb : RunE cls X W b ρ S ob) (gx : ∀ x y c, g x y ≠ .ex c)
    (hok : ∀ x y d, g x y = .ok d → ∀ Φ : D → Sto → Prop, Φ d S → (∀ Ψ : D → Sto → Prop, Ψ x S → DE X a ρ S Ψ) → (∀ Ψ : D → Sto → Prop, Ψ y S → DE X b ρ S Ψ) → DE X e ρ S Φ)
    (hex : ∀ Ξ : Xi, DR X W a ρ S Ξ → DR X W e ρ S Ξ) (hexR : ∀ Ξ : Xi, (DE X a ρ S fun _ S1 => DR X W b ρ S1 Ξ) → DR X W e ρ S Ξ) : RunE cls X W e ρ S (oa.bind fun x => ob.bind fun y => g x y) := by
  cases oa with
  | bad => exact RunE.bad
  | ex c => exact ha.exFrom hex
  | ok x =>
    show RunE cls X W e ρ S (ob.bind fun y => g x y)
    cases ob with
    | bad => exact RunE.bad
    | ex c => exact hb.exFrom fun Ξ h => hexR Ξ (ha.deOf h)
    | ok y =>
      show RunE cls X W e ρ S (g x y)
      cases hg : g x y with
      | bad => exact RunE.bad
      | ex c => exact absurd hg (gx x y c)
      | ok d => exact RunE.de fun Φ q => hok x y d hg Φ q (fun Ψ q => ha.deOf q) fun Ψ q => hb.deOf q
theorem ixO_ok {x y d : D} (h : ixO x y = .ok d) : IxD S x y d := by
  unfold ixO at h
  split at h
  · split at h
    · cases h; rename_i h1; exact h1
    · cases h
  · split at h
    · cases h; rename_i h1; exact h1
    · cases h
  · split at h
    · cases h; rename_i h1; exact h1
    · cases h
  · split at h
    · rename_i hs
      split at h
      · rename_i c hc
        cases h
        exact ⟨line_of (short_len hs) (by decide), c, hc, rfl⟩
      · cases h
    · cases h
  · cases h
theorem ixO_nx {x y : D} : ∀ c, ixO x y ≠ .ex c := fun c h => by
  unfold ixO at h
  split at h <;> (try split at h) <;> (try split at h) <;> cases h
theorem dr_ixR {Ξ : Xi} (hp : PlainIx b) (h : DE X a ρ S fun _ S1 => DR X W b ρ S1 Ξ) : DR X W (.Subscript a b pos) ρ S Ξ := DR.of (pe_ix ix_seq pe_w pe_w hp) fun Zh σ H Q E P => h.bind E fun v H1 d S1 k1 g1 E1 r1 h1 => h1.tw E1 (P.next k1 g1)
theorem run_ix {oa ob : Out D} (hb0 : isSl b = false) (ha : RunE cls X W a ρ S oa) (hb : RunE cls X W b ρ S ob) : RunE cls X W (.Subscript a b pos) ρ S (oa.bind fun x => ob.bind fun y => ixO x y) :=
  run_two ha hb (fun _ _ => ixO_nx) (fun x y d h Φ q da db => de_ix (plain_ix hb0) (da _ (db _ ⟨d, ixO_ok h, q⟩))) (fun Ξ h => dr_ix (plain_ix hb0) h) fun Ξ h => dr_ixR (plain_ix hb0) h
theorem slO_ok {x d : D} {lo hi : Option Int} (h : slO x lo hi = .ok d) : SlD x lo hi d := by
  unfold slO at h
  split at h
  · cases h; exact rfl
  · cases h; exact rfl
  · cases h; exact rfl
  · split at h
    · rename_i hs
      cases h
      exact ⟨line_of (short_len hs) (by decide), rfl⟩
    · cases h
  · cases h
theorem slO_nx {x : D} {lo hi : Option Int} : ∀ c, slO x lo hi ≠ .ex c := fun c h => by
  unfold slO at h
  split at h <;> (try split at h) <;> cases h
theorem intO_ok {x : D} {i : Int} (h : intO x = .ok i) : x = .int i := by
  unfold intO at h
  split at h <;> cases h
  rfl
theorem intO_nx {x : D} : ∀ c, intO x ≠ .ex c := fun c h => by
  unfold intO at h
  split at h <;> cases h
theorem bind_nx {α β : Type} {o : Out α} {f : α → Out β} (h1 : ∀ c, o ≠ .ex c) (h2 : ∀ a c, f a ≠ .ex c) : ∀ c, o.bind f ≠ .ex c := fun c h => by
  rcases Out.bind_ex h with h | ⟨a, _, h⟩
  · exact h1 c h
  · exact h2 a c h
theorem dr_slHiR {p2 : Pos} {Ξ : Xi} (h : DE X a ρ S fun _ S1 => DR X W b ρ S1 Ξ) : DR X W (.Subscript a (.Slice none (some b) none p2) pos) ρ S Ξ := DR.of (pe_slice sl_any pe_w po_none (po_some pe_w)) fun Zh σ H Q E P => h.bind E fun v H1 d S1 k1 g1 E1 r1 h1 => h1.tw E1 (P.next k1 g1)
theorem dr_slLo {p2 : Pos} {Ξ : Xi} (h : DR X W a ρ S Ξ) : DR X W (.Subscript a (.Slice (some b) none none p2) pos) ρ S Ξ := DR.of (pe_slice sl_any pe_w (po_some pe_w) po_none) fun Zh σ H Q E P => h.tw E P
theorem dr_slLoR {p2 : Pos} {Ξ : Xi} (h : DE X a ρ S fun _ S1 => DR X W b ρ S1 Ξ) : DR X W (.Subscript a (.Slice (some b) none none p2) pos) ρ S Ξ := DR.of (pe_slice sl_any pe_w (po_some pe_w) po_none) fun Zh σ H Q E P => h.bind E fun v H1 d S1 k1 g1 E1 r1 h1 => h1.tw E1 (P.next k1 g1)
theorem run_slHi {p2 : Pos} {oa ob : Out D} (ha : RunE cls X W a ρ S oa) (hb : RunE cls X W b ρ S ob) : RunE cls X W (.Subscript a (.Slice none (some b) none p2) pos) ρ S (oa.bind fun x => ob.bind fun y => (intO y).bind fun i => slO x none (some i)) :=
  run_two ha hb (fun _ _ => bind_nx intO_nx fun _ => slO_nx) (fun x y d h Φ q da db => by
    obtain ⟨i, h1, h2⟩ := Out.bind_ok h
    exact de_slHi (da _ (db _ ⟨i, d, intO_ok h1, slO_ok h2, q⟩))) (fun Ξ h => dr_slHi h) fun Ξ h => dr_slHiR h
theorem run_slLo {p2 : Pos} {oa ob : Out D} (ha : RunE cls X W a ρ S oa) (hb : RunE cls X W b ρ S ob) : RunE cls X W (.Subscript a (.Slice (some b) none none p2) pos) ρ S (oa.bind fun x => ob.bind fun y => (intO y).bind fun i => slO x (some i) none) :=
  run_two ha hb (fun _ _ => bind_nx intO_nx fun _ => slO_nx) (fun x y d h Φ q da db => by
    obtain ⟨i, h1, h2⟩ := Out.bind_ok h
    exact de_slLo (da _ (db _ ⟨i, d, intO_ok h1, slO_ok h2, q⟩))) (fun Ξ h => dr_slLo h) fun Ξ h => dr_slLoR h
/-- both ends: nothing in it raises -/
theorem run_slLH {p2 : Pos} {oa ob oc : Out D} (ha : RunE cls X W a ρ S oa) (hb : RunE cls X W b ρ S ob) (hc : RunE cls X W c ρ S oc) : RunE cls X W (.Subscript a (.Slice (some b) (some c) none p2) pos) ρ S (oa.nx.bind fun x => ob.nx.bind fun y => oc.nx.bind fun z => (intO y).bind fun i => (intO z).bind fun j => slO x (some i) (some j)) := by
  cases oa with
  | bad => exact RunE.bad
  | ex _ => exact RunE.bad
  | ok x =>
    cases ob with
    | bad => exact RunE.bad
    | ex _ => exact RunE.bad
    | ok y =>
      cases oc with
      | bad => exact RunE.bad
      | ex _ => exact RunE.bad
      | ok z =>
        show RunE cls X W _ ρ S ((intO y).bind fun i => (intO z).bind fun j => slO x (some i) (some j))
        cases hg : (intO y).bind fun i => (intO z).bind fun j => slO x (some i) (some j) with
        | bad => exact RunE.bad
        | ex c => exact absurd hg (bind_nx intO_nx (fun _ => bind_nx intO_nx fun _ => slO_nx) c)
        | ok d =>
          obtain ⟨i, h1, h2⟩ := Out.bind_ok hg
          obtain ⟨j, h2, h3⟩ := Out.bind_ok h2
          exact RunE.de fun Φ q => de_slLH (ha.deOf (hb.deOf ⟨i, intO_ok h1, hc.deOf ⟨j, d, intO_ok h2, slO_ok h3, q⟩⟩))
theorem de_revL {k : Nat} {p1 p2 p3 : Pos} {Φ : D → Sto → Prop} (h : DE X e ρ S fun d S1 => ∃ l, d = .lst l ∧ Φ (.lst l.reverse) S1) : DE X (.Subscript e (.Slice none none (some (.UnaryOp .USub (.Constant (.int 1) k p1) p2)) p3) pos) ρ S Φ := DE.of (pe_revL pe_w) fun Zh σ H Q E P => h.bind E fun v H1 d S1 k1 g1 E1 r1 h1 => by
  obtain ⟨l, rfl, q⟩ := h1
  obtain ⟨a, vs, rfl, n1, sq, rl⟩ := r1.lst
  exact ⟨a, vs, rfl, .inl (.inl sq), fun z hz => (P.next k1 g1).lst E1.st (RepL.rev rl) q hz⟩
def bitsO : D → Out D
  | .int i => .ok (.int (Builtin.Int.intBits i : Nat))
  | _ => .bad
theorem bitsO_nx {x : D} : ∀ c, bitsO x ≠ .ex c := fun c h => by
  unfold bitsO at h
  split at h <;> cases h
theorem run_bits {apos : Pos} {oa : Out D} (hb0 : isCl a = false) (hline : (apos.endLine == pos.line) = true) (ha : RunE cls X W a ρ S oa) : RunE cls X W (.Call (.Attribute a "bit_length" apos) [] [] pos) ρ S (oa.bind bitsO) :=
  run_one ha (fun _ => bitsO_nx) (fun x d h Φ q da => by
    unfold bitsO at h
    split at h
    · cases h
      exact DE.of (pe_bits pe_w (base_no hb0) hline) fun Zh σ H Q E P => (da (fun d S1 => d = .int _ ∧ Φ (.int (Builtin.Int.intBits _ : Nat)) S1) ⟨rfl, q⟩).bind E fun v H1 d S1 k1 g1 E1 r1 h1 => by
        obtain ⟨rfl, q⟩ := h1
        exact ⟨_, r1.int, (P.next k1 g1).here E1.st rep_int q⟩
    · cases h) fun Ξ h => DR.of (pe_bits pe_w (base_no hb0) hline) fun Zh σ H Q E P => h.tw E P
theorem revO_nx {x : D} : ∀ c, revO x ≠ .ex c := fun c h => by
  unfold revO at h
  split at h <;> (try split at h) <;> cases h
theorem dr_revS {k : Nat} {p1 p2 p3 : Pos} {Ξ : Xi} (h : DR X W e ρ S Ξ) : DR X W (.Subscript e (.Slice none none (some (.UnaryOp .USub (.Constant (.int 1) k p1) p2)) p3) pos) ρ S Ξ := dr_revT h
theorem run_rev {k : Nat} {p1 p2 p3 : Pos} {oa : Out D} (ha : RunE cls X W a ρ S oa) : RunE cls X W (.Subscript a (.Slice none none (some (.UnaryOp .USub (.Constant (.int 1) k p1) p2)) p3) pos) ρ S (oa.bind revO) :=
  run_one ha (fun _ => revO_nx) (fun x d h Φ q da => by
    unfold revO at h
    split at h
    · split at h
      · rename_i z hs
        cases h
        exact de_revS (da _ ⟨_, rfl, line_of (short_len hs) (by decide), q⟩)
      · cases h
    · cases h
      exact de_revT (da _ ⟨_, rfl, q⟩)
    · cases h
      exact de_revL (da _ ⟨_, rfl, q⟩)
    · cases h) fun Ξ h => dr_revT h
end
end Ar
namespace Ar
open PySem PySem.Spec PyProof.Rows L2
/-! ### min of a list of tuples of numbers -/
def rMinT (K : PySem.W.Frag) : List V → Hp → VK → Prop := fun vs H Q => ∃ (p : Addr) (xs : List V) (x : PyData) (ps : List PyData), vs = [.ref p] ∧ SqL K H p xs ∧ DpAll K H xs (x :: ps) ∧ PyData.plainAll (x :: ps) = true ∧ PySem.W.AlikeAll (x :: ps) ∧ PyData.depthAll (x :: ps) ≤ 8 ∧
  ∀ (i : Nat) (v : V), xs[i]? = some v → (x :: ps)[i]? = some (PySem.W.minD x ps) → Q v H
theorem plain_at : ∀ {ps : List PyData} {i : Nat} {d : PyData}, PyData.plainAll ps = true → ps[i]? = some d → d.plain = true
  | [], _, _, _, e => by simp at e
  | p :: ps, 0, d, h, e => by
    simp at e
    subst e
    rw [PyData.plainAll, Bool.and_eq_true] at h
    exact h.1
  | p :: ps, i + 1, d, h, e => by
    simp at e
    rw [PyData.plainAll, Bool.and_eq_true] at h
    exact plain_at h.2 e
theorem call_minT {X : Cx} (hc : X.calm = true) (hu : X.A.units + 64 < cLine) : CallR X (.builtin "min") (rMinT X.K) := by
  intro pins s σ H vs us Q I r h
  obtain ⟨p, xs, x, ps, rfl, hs, dp, pl, al, hd, q⟩ := h
  obtain ⟨its, rv, hl, _⟩ := I.list hs
  rw [Vals.ref1 r]
  obtain ⟨as, ra⟩ := Dp.readsAll I (x :: ps) xs its dp rv
  refine PySem.W.min_list_data (I.ok.hd hc) hl.isList ra al (by omega) fun i v h' tk bs hv hr hk => ?_
  have hv2 : its[i]? = some v := by simpa using hv
  obtain ⟨bs2, r2, hi, _⟩ := PySem.W.readsAll_at ra i v hv2
  have hix : i < xs.length := by
    rw [rv.length]
    exact (List.getElem?_eq_some_iff.mp hv2).1
  obtain ⟨u, hu2, ru⟩ := rv.get (List.getElem?_eq_getElem hix)
  rw [hv2] at hu2
  cases hu2
  have hd2 : (x :: ps)[i]? = some ((x :: ps).getD i .none) := by
    rw [List.getD_eq_getElem?_getD, List.getElem?_eq_getElem hi]
    rfl
  have e := PySem.SeqAt.plain_unique _ _ v _ _ (plain_at pl hd2) (PySem.W.reads_keeps hk r2) hr
  rw [e] at hd2
  exact ⟨_, H, I.kept hk, ru, q i _ (List.getElem?_eq_getElem hix) hd2⟩
def ofInts : List PyData → Option (List D)
  | [] => some []
  | .int i :: l => (ofInts l).map (.int i :: ·)
  | _ => none
def ofPyT : PyData → Option D
  | .tuple l => (ofInts l).map .tup
  | _ => none
def isTI : D → Bool
  | .tup l => (asInts l).isSome
  | _ => false
theorem ofInts_map : ∀ l : List Int, ofInts (toPyL (l.map D.int)) = some (l.map D.int)
  | [] => rfl
  | i :: l => by
    show ofInts (toPyL (D.int i :: l.map D.int)) = _
    unfold toPyL
    unfold toPy
    unfold ofInts
    rw [ofInts_map l]
    rfl
theorem ofPyT_of {d : D} (h : isTI d = true) : ofPyT (toPy d) = some d := by
  unfold isTI at h
  split at h
  · rename_i l
    cases e : asInts l with
    | none => rw [e] at h; cases h
    | some m =>
      rw [asInts_eq e]
      unfold toPy
      show (ofInts (toPyL (m.map D.int))).map D.tup = _
      rw [ofInts_map]
      rfl
  · cases h
def minO : D → Out D
  | .lst (d0 :: l) => if (d0 :: l).all isTI && (toPyL (d0 :: l)).all (fun a => (toPyL (d0 :: l)).all fun b => PySem.W.alike a b) && PyData.plainAll (toPyL (d0 :: l)) && Nat.ble (PyData.depthAll (toPyL (d0 :: l))) 8 && (plainL (d0 :: l)) then match ofPyT (PySem.W.minD (toPy d0) (toPyL l)) with
      | some d => .ok d
      | none => .bad
    else .bad
  | _ => .bad
theorem minO_nx {x : D} : ∀ c, minO x ≠ .ex c := fun c h => by
  unfold minO at h
  split at h <;> (try split at h) <;> (try split at h) <;> cases h
theorem toPyL_at {l : List D} : ∀ {i : Nat} {p : PyData}, (toPyL l)[i]? = some p → ∃ d, l[i]? = some d ∧ toPy d = p := by
  induction l with
  | nil => exact fun {i p} h => by unfold toPyL at h; simp at h
  | cons d l ih =>
    intro i p h
    unfold toPyL at h
    cases i with
    | zero =>
      simp at h
      exact ⟨d, rfl, h⟩
    | succ i =>
      simp at h
      exact ih h
theorem ti_none {d : D} (h : isTI d = true) : toPy d ≠ .none := by
  unfold isTI at h
  split at h
  · unfold toPy
    exact fun z => nomatch z
  · cases h
theorem toPyL_mem {l : List D} {p : PyData} (h : p ∈ toPyL l) : ∃ d, d ∈ l ∧ toPy d = p := by
  obtain ⟨i, h⟩ := List.getElem?_of_mem h
  obtain ⟨d, h1, h2⟩ := toPyL_at h
  exact ⟨d, List.mem_of_getElem? h1, h2⟩
section
variable {cls : Cls} {X : Cx} {W : WX} {ρ : Ro} {S : Sto} {e a b c : Expr} {es : List Expr} {pos p : Pos} {P : Program} {w : World} {K : PySem.W.Frag} {mg : Str → Option Value} {base : Heap} {tb : List (Str × Nat)} {names : List (Str × NameKind)} {k : Nat}
theorem de_minT {x d : D} {Φ : D → Sto → Prop} (A : At X P w K mg base tb names k) (G : NoB mg) (hg : glB names "min" = true) (he : starEach [e] X.env = [(false, eval e X.env)]) (hm : minO x = .ok d) (h : ∀ Ψ : D → Sto → Prop, Ψ x S → DE X e ρ S Ψ) (q : Φ d S) : DE X (.Call (.Name "min" p) [e] [] pos) ρ S Φ := by
  unfold minO at hm
  split at hm
  · rename_i d0 l
    split at hm
    · rename_i hh
      simp only [Bool.and_eq_true] at hh
      obtain ⟨⟨⟨⟨h1, h2⟩, h3⟩, h4⟩, h5⟩ := hh
      split at hm
      · rename_i d' hd
        cases hm
        refine de_cB A G (call_minT A.calm A.room.units) rfl (by rw [hg]; rfl) he rfl (da_one he (h _ ?_))
        intro Zh H vs Q s r P
        obtain ⟨v, r1, rfl, rv, r⟩ := r.uncons
        cases r.un0
        obtain ⟨pp, ws, rfl, n1, h6, rl⟩ := rv.lst
        have e0 : toPyL (d0 :: l) = toPy d0 :: toPyL l := by rw [toPyL]
        refine ⟨pp, ws, toPy d0, toPyL l, rfl, .inl (.inl h6), by rw [← e0]; exact dpL_of rl h5, by rw [← e0]; exact h3, ⟨fun x hx y hy => ?_, fun x hx => ?_⟩, by rw [← e0]; exact Nat.le_of_ble_eq_true h4, fun i v hi hp => ?_⟩
        · rw [← e0] at hx hy
          exact List.all_eq_true.mp (List.all_eq_true.mp h2 x hx) y hy
        · rw [← e0] at hx
          obtain ⟨z, hz, rfl⟩ := toPyL_mem hx
          exact ti_none (List.all_eq_true.mp h1 z hz)
        · rw [← e0] at hp
          obtain ⟨z, hz, e3⟩ := toPyL_at hp
          have hzm := List.all_eq_true.mp h1 z (List.mem_of_getElem? hz)
          have e4 := ofPyT_of hzm
          rw [e3, hd] at e4
          cases e4
          obtain ⟨v2, e5, rz⟩ := rl.get hz
          rw [hi] at e5
          cases e5
          exact P.here s rz q
      · cases hm
    · cases hm
  · cases hm
theorem run_min1 {oa : Out D} (A : At X P w K mg base tb names k) (G : NoB mg) (hg : glB names "min" = true) (hs : isStar a = false) (ha : RunE cls X W a ρ S oa) : RunE cls X W (.Call (.Name "min" p) [a] [] pos) ρ S (oa.bind minO) :=
  run_one ha (fun _ => minO_nx) (fun x d h Φ q da => de_minT A G hg (star_no hs) h da q) fun Ξ h => dr_cB A G (id := "min") (r := fun _ _ _ => False) (fun _ _ _ _ _ _ _ _ _ h => h.elim) rfl (by rw [hg]; rfl) (star_no hs) rfl (dra_head (star_no hs) h)
end
end Ar
namespace Ar
open PySem PySem.Spec PyProof.Rows L2
/-! ### sorted of a list of data -/
section
variable {α : Type} {le : α → α → Bool}
def insD (le : α → α → Bool) (x : α) : List α → List α
  | [] => [x]
  | y :: m => if le x y then x :: y :: m else y :: insD le x m
def isortD (le : α → α → Bool) : List α → List α
  | [] => []
  | x :: l => insD le x (isortD le l)
theorem insD_mem {x z : α} : ∀ {m : List α}, z ∈ insD le x m → z = x ∨ z ∈ m
  | [], h => .inl (List.mem_singleton.mp h)
  | y :: m, h => by
    unfold insD at h
    split at h
    · rcases List.mem_cons.mp h with h | h
      · exact .inl h
      · exact .inr h
    · rcases List.mem_cons.mp h with h | h
      · exact .inr (by rw [h]; exact List.mem_cons_self ..)
      · rcases insD_mem h with h | h
        · exact .inl h
        · exact .inr (List.mem_cons_of_mem _ h)
theorem insD_pair (T : PySem.W.TotalLe le) {x : α} : ∀ {m : List α}, m.Pairwise (fun a b => le a b = true) → (insD le x m).Pairwise (fun a b => le a b = true)
  | [], _ => List.pairwise_singleton ..
  | y :: m, h => by
    unfold insD
    have h1 := List.pairwise_cons.mp h
    split
    · rename_i hle
      refine List.pairwise_cons.mpr ⟨fun z hz => ?_, h⟩
      rcases List.mem_cons.mp hz with e | hz
      · rw [e]; exact hle
      · exact T.trans _ _ _ hle (h1.1 z hz)
    · rename_i hle
      have hyx : le y x = true := (T.total x y).resolve_left hle
      refine List.pairwise_cons.mpr ⟨fun z hz => ?_, insD_pair T h1.2⟩
      rcases insD_mem hz with e | hz
      · rw [e]; exact hyx
      · exact h1.1 z hz
theorem insD_filter (T : PySem.W.TotalLe le) {x c : α} : ∀ {m : List α}, (insD le x m).filter (PySem.W.sameRank le c) = (x :: m).filter (PySem.W.sameRank le c)
  | [] => rfl
  | y :: m => by
    unfold insD
    split
    · rfl
    · rename_i hle
      rw [List.filter_cons, insD_filter T, List.filter_cons, List.filter_cons, List.filter_cons]
      by_cases h1 : PySem.W.sameRank le c x = true
      · by_cases h2 : PySem.W.sameRank le c y = true
        · unfold PySem.W.sameRank at h1 h2
          rw [Bool.and_eq_true] at h1 h2
          exact absurd (T.trans _ _ _ h1.2 h2.1) hle
        · simp only [if_pos h1, if_neg h2]
      · simp only [if_neg h1]
theorem isortD_eq (T : PySem.W.TotalLe le) : ∀ l : List α, isortD le l = l.mergeSort le := by
  have hp : ∀ l : List α, (isortD le l).Pairwise (fun a b => le a b = true) := fun l => by
    induction l with
    | nil => exact List.Pairwise.nil
    | cons x l ih => exact insD_pair T ih
  have hf : ∀ (c : α) (l : List α), (isortD le l).filter (PySem.W.sameRank le c) = l.filter (PySem.W.sameRank le c) := fun c l => by
    induction l with
    | nil => rfl
    | cons x l ih =>
      show (insD le x (isortD le l)).filter _ = _
      rw [insD_filter T, List.filter_cons, List.filter_cons, ih]
  exact fun l => PySem.W.sort_unique T (hp l) fun c => hf c l
end
def leD (a b : D) : Bool := !PySem.W.dataLt (toPy b) (toPy a)
theorem leD_eq : leD = PySem.W.dataLe false toPy := rfl
theorem leD_total : PySem.W.TotalLe leD := by
  rw [leD_eq]
  exact PySem.W.sortLe_total _ _ _
theorem isortD_perm {α : Type} {le : α → α → Bool} : ∀ l : List α, (isortD le l).Perm l
  | [] => List.Perm.refl _
  | x :: l => by
    have hi : ∀ m : List α, (insD le x m).Perm (x :: m) := fun m => by
      induction m with
      | nil => exact List.Perm.refl _
      | cons y m ih =>
        unfold insD
        split
        · exact List.Perm.refl _
        · exact (ih.cons y).trans (List.Perm.swap ..)
    exact (hi _).trans ((isortD_perm l).cons x)
def tupNe : PyData → Bool
  | .tuple (_ :: _) => true
  | _ => false
def intPy : PyData → Bool
  | .int _ => true
  | _ => false
def sortO : D → Out D
  | .lst l => if plainL l && (toPyL l).all (fun a => (toPyL l).all fun b => PySem.W.alike a b) && ((toPyL l).all tupNe || (toPyL l).all intPy) && Nat.ble (PyData.depthAll (toPyL l)) 8 && Nat.ble l.length 1000 then .ok (.lst (isortD leD l)) else .bad
  | _ => .bad
theorem sortO_nx {x : D} : ∀ c, sortO x ≠ .ex c := fun c h => by
  unfold sortO at h
  split at h <;> (try split at h) <;> cases h
theorem toPyL_map : ∀ l : List D, toPyL l = l.map toPy
  | [] => rfl
  | d :: l => by
    rw [toPyL, toPyL_map l]
    rfl
theorem depth_in : ∀ {ps : List PyData} {p : PyData}, p ∈ ps → p.depth ≤ PyData.depthAll ps
  | q :: ps, p, h => by
    unfold PyData.depthAll
    rcases List.mem_cons.mp h with h | h
    · rw [h]; omega
    · have := depth_in h
      omega
def SrtOk (l : List D) : Prop := plainL l = true ∧ PySem.W.AllAlike (l.map toPy) ∧ PySem.W.Sortable (l.map toPy) ∧ (∀ d, d ∈ l → (toPy d).depth ≤ 8) ∧ l.length ≤ 1000
theorem sortO_ok {x d : D} (h : sortO x = .ok d) : ∃ l, x = .lst l ∧ SrtOk l ∧ d = .lst (isortD leD l) := by
  unfold sortO at h
  split at h
  · rename_i l
    split at h
    · rename_i hh
      simp only [Bool.and_eq_true] at hh
      obtain ⟨⟨⟨⟨h1, h2⟩, h3⟩, h4⟩, h5⟩ := hh
      cases h
      refine ⟨l, rfl, ⟨h1, fun a ha b hb => ?_, ?_, fun d hd => ?_, Nat.le_of_ble_eq_true h5⟩, rfl⟩
      · rw [← toPyL_map] at ha hb
        exact List.all_eq_true.mp (List.all_eq_true.mp h2 a ha) b hb
      · rw [Bool.or_eq_true] at h3
        rw [← toPyL_map]
        rcases h3 with h3 | h3
        · refine .inl fun d hd => ?_
          have := List.all_eq_true.mp h3 d hd
          unfold tupNe at this
          split at this
          · exact ⟨_, _, rfl⟩
          · cases this
        · refine .inr fun d hd => ?_
          have := List.all_eq_true.mp h3 d hd
          unfold intPy at this
          split at this
          · exact And.intro (fun z => nomatch z) (fun xs z => nomatch z)
          · cases this
      · refine Nat.le_trans (depth_in (ps := toPyL l) ?_) (Nat.le_of_ble_eq_true h4)
        rw [toPyL_map]
        exact List.mem_map.mpr ⟨d, hd, rfl⟩
    · cases h
  · cases h
def rSortD (K : PySem.W.Frag) : List V → Hp → VK → Prop := fun vs H Q => ∃ (a : Addr) (xs : List V) (Z : List Addr) (l : List D), vs = [V.ref a] ∧ SqL K H a xs ∧ RepL K Z H l xs ∧ SrtOk l ∧
  ∀ (ys : List V) (p : Addr), RepL K Z H (isortD leD l) ys → H p = none → Q (.ref p) (upd H p (.lst ys))
theorem each_of {K : PySem.W.Frag} {Z : List Addr} {H : Hp} : ∀ {l : List D} {xs : List V} {us : List Value}, RepL K Z H l xs → Vals xs us → PySem.W.EachIs (fun (u : Value) (d : D) => ∃ v, RelV v u ∧ Rep K Z H d v) us l
  | [], xs, us, r, h => by
    have e := r.un0
    subst e
    cases h
    exact .nil
  | d :: l, xs, us, r, h => by
    obtain ⟨v, r', rfl, r1, r2⟩ := r.uncons
    cases h with
    | cons h1 h2 => exact .cons ⟨v, h1, r1⟩ (each_of r2 h2)
theorem each_to {K : PySem.W.Frag} {Z : List Addr} {H : Hp} : ∀ {l : List D} {us : List Value}, PySem.W.EachIs (fun (u : Value) (d : D) => ∃ v, RelV v u ∧ Rep K Z H d v) us l → ∃ ys, Vals ys us ∧ RepL K Z H l ys
  | _, _, .nil => ⟨[], .nil, .nil⟩
  | _, _, .cons ⟨v, h1, r1⟩ h => by
    obtain ⟨ys, h2, r2⟩ := each_to h
    exact ⟨v :: ys, .cons h1 h2, .cons r1 r2⟩
theorem cr_sortedD {X : Cx} (hu : X.A.units + 64 < cLine) : CallR X (.builtin "sorted") (rSortD X.K) := by
  intro pins s σ H vs us Q I r h
  obtain ⟨a, xs, Z, l, rfl, hs, rl, ⟨h1, h2, h3, h4, h5⟩, q⟩ := h
  obtain ⟨its, rv, hl, hz⟩ := I.list hs
  rw [Vals.ref1 r]
  have e1 := each_of rl rv
  refine PySem.W.sorted_data (vs := its) (bs := l) (enc := toPy) hl.isList e1 ?_ h2 h3 (line_of h5 (by decide)) (fun d hd => by have := h4 d hd; omega) fun out hlen ho => ?_
  · have go : ∀ {l : List D} {xs : List V} {us : List Value}, plainL l = true → RepL X.K Z H l xs → Vals xs us → PySem.W.EachIs (fun (u : Value) (d : D) => ∃ as, Reads s.heap u (toPy d) as) us l := by
      intro l
      induction l with
      | nil =>
        intro xs us _ r h
        have e := r.un0
        subst e
        cases h
        exact .nil
      | cons d l ih =>
        intro xs us hp r h
        obtain ⟨v, r', rfl, r1, r2⟩ := r.uncons
        unfold plainL at hp
        rw [Bool.and_eq_true] at hp
        cases h with
        | cons g1 g2 => exact .cons (Dp.reads I _ _ _ (dp_of r1 hp.1) g1) (ih hp.2 r2 g2)
    exact go h1 rl rv
  · rw [← leD_eq, ← isortD_eq leD_total] at ho
    obtain ⟨ys, hv, hr⟩ := each_to ho
    obtain ⟨ep, he'⟩ := PyProof.Rows.sortedAll_at s.heap its out.toArray
    refine ⟨.ref _, upd H (s.heap.objs.size + 1) (.lst ys), I.laid (t' := s.toks) (fun _ _ => PyProof.Rows.sortedAll_old) (Nat.le_succ _) ⟨?_, out, ep, hv, he'⟩, rfl, q _ _ hr (I.hok.fresh (Nat.le_succ _))⟩
    rw [hv.length, hlen]
    exact line_of h5 (by decide)
section
variable {cls : Cls} {X : Cx} {W : WX} {ρ : Ro} {S : Sto} {e a b c : Expr} {es : List Expr} {pos p : Pos} {P : Program} {w : World} {K : PySem.W.Frag} {mg : Str → Option Value} {base : Heap} {tb : List (Str × Nat)} {names : List (Str × NameKind)} {k : Nat}
theorem de_sortD {x d : D} {Φ : D → Sto → Prop} (A : At X P w K mg base tb names k) (G : NoB mg) (hg : glB names "sorted" = true) (he : starEach [e] X.env = [(false, eval e X.env)]) (hm : sortO x = .ok d) (h : ∀ Ψ : D → Sto → Prop, Ψ x S → DE X e ρ S Ψ) (q : Φ d S) : DE X (.Call (.Name "sorted" p) [e] [] pos) ρ S Φ := by
  obtain ⟨l, rfl, ok, rfl⟩ := sortO_ok hm
  refine de_cB A G (cr_sortedD A.room.units) rfl (by rw [hg]; rfl) he rfl (da_one he (h _ ?_))
  intro Zh H vs Q s r P
  obtain ⟨v, r1, rfl, rv, r⟩ := r.uncons
  cases r.un0
  obtain ⟨pp, ws, rfl, n1, h6, rl⟩ := rv.lst
  exact ⟨pp, ws, _, l, rfl, .inl (.inl h6), rl, ok, fun ys z hr hz => P.lst s hr q hz⟩
theorem dn_sortD {x : D} {l : List D} {Φ : List D → Sto → Prop} (A : At X P w K mg base tb names k) (G : NoB mg) (hg : glB names "sorted" = true) (he : starEach [e] X.env = [(false, eval e X.env)]) (hm : sortO x = .ok (.lst l)) (h : ∀ Ψ : D → Sto → Prop, Ψ x S → DE X e ρ S Ψ) (q : Φ l S) : DN X (.Call (.Name "sorted" p) [e] [] pos) ρ S Φ := by
  obtain ⟨m, rfl, ok, e1⟩ := sortO_ok hm
  cases e1
  have z := glB_of hg
  exact DN.of (pe_callB (cr_sortedD A.room.units) (A.gl _ z.2) (by rw [A.mg]; exact G.no _ rfl) rfl pa_w (plain1 z.1).2.2 (plain1 z.1).1 he rfl) fun Zh σ H Q E P => (da_one (Ψ := fun ds S1 => ds = [.lst m] ∧ S1 = S) he (h _ ⟨rfl, rfl⟩)).tw E fun vs H1 ds S1 k1 g1 s1 r1 l1 q1 => by
    obtain ⟨rfl, rfl⟩ := q1
    obtain ⟨v, t, rfl, rv, t0⟩ := r1.uncons
    cases t0.un0
    obtain ⟨pp, ws, rfl, n1, h6, rl⟩ := rv.lst
    exact ⟨pp, ws, _, m, rfl, .inl (.inl h6), rl, ok, fun ys c hr hc => (P.next E.st k1 g1 s1).lst s1 hr q hc⟩
theorem run_sort1 {oa : Out D} (A : At X P w K mg base tb names k) (G : NoB mg) (hg : glB names "sorted" = true) (hs : isStar a = false) (ha : RunE cls X W a ρ S oa) : RunE cls X W (.Call (.Name "sorted" p) [a] [] pos) ρ S (oa.bind sortO) :=
  run_one ha (fun _ => sortO_nx) (fun x d h Φ q da => de_sortD A G hg (star_no hs) h da q) fun Ξ h => dr_cB A G (id := "sorted") (r := fun _ _ _ => False) (fun _ _ _ _ _ _ _ _ _ h => h.elim) rfl (by rw [hg]; rfl) (star_no hs) rfl (dra_head (star_no hs) h)
end
end Ar
namespace Ar
open PySem PySem.Spec PyProof.Rows L2
/-! ### zip of a tuple and a list -/
def ItzM (K : PySem.W.Frag) (a b : Addr) : It where
  go := fun i H => ∃ (xs ys : List V) (x y : V), (SqT K H a xs ∧ xs[i]? = some x) ∧ SqL K H b ys ∧ ys[i]? = some y
  yld := fun i H v H' => ∃ (T : Addr) (x y : V), (v = .ref T ∧ H T = none ∧ H' = upd H T (.tup [x, y])) ∧ (∀ xs, SqT K H a xs → xs[i]? = some x) ∧ ∀ ys, SqL K H b ys → ys[i]? = some y
  stop := fun i H => ∃ xs ys : List V, (SqT K H a xs ∧ SqL K H b ys) ∧ i ≤ xs.length ∧ i ≤ ys.length ∧ (i = xs.length ∨ i = ys.length)
theorem sepM {a b z TI TO i1 i2 : Addr} (D : ZipApart z TI TO i1 i2 a b) : ZipSep2 z TI TO i1 i2 [i1, a] [i2, b] where
  TIz := D.TIz
  TOz := D.TOz
  TITO := D.TITO
  TIi1 := D.TIi1
  mem1 := List.mem_cons_self ..
  zf1 := fun h => by
    rcases List.mem_cons.mp h with e | e
    · exact D.i1z e.symm
    · exact D.l1z (List.mem_singleton.mp e).symm
  Tf1 := fun h => by
    rcases List.mem_cons.mp h with e | e
    · exact D.TOi1 e
    · exact D.l1TO (List.mem_singleton.mp e).symm
  TIi2 := D.TIi2
  mem2 := List.mem_cons_self ..
  zf2 := fun h => by
    rcases List.mem_cons.mp h with e | e
    · exact D.i2z e.symm
    · exact D.l2z (List.mem_singleton.mp e).symm
  Tf2 := fun h => by
    rcases List.mem_cons.mp h with e | e
    · exact D.TOi2 e
    · exact D.l2TO (List.mem_singleton.mp e).symm
  sep1_2 := fun h => by
    rcases List.mem_cons.mp h with e | e
    · exact D.i12 e
    · exact D.l2i1 (List.mem_singleton.mp e).symm
  sep2_1 := fun h => by
    rcases List.mem_cons.mp h with e | e
    · exact D.i12 e.symm
    · exact D.l1i2 (List.mem_singleton.mp e).symm
theorem mem5 {a b c d e x : Addr} (h : x ∈ [a, b, c, d, e]) : x = a ∨ x = b ∨ x = c ∨ x = d ∨ x = e := by simpa using h
def tnM (a b z TI TO i1 i2 : Addr) (i : Nat) (h : Heap) : Prop := IsZip h z TI TO .none ∧ IsPair h TI (.ref i1) (.ref i2) ∧ (∃ x y, IsPair h TO x y) ∧ h.IsTupleIter i1 a i ∧ h.IsListIter i2 b i
theorem turnM {P : Program} {w : World} {K : PySem.W.Frag} {elts : List Expr} {kk : Nat} {tpos : Pos} {a b z TI TO i1 i2 : Addr} (D : ZipApart z TI TO i1 i2 a b) : Turn P w K (.Tuple elts kk tpos) (ItzM K a b) [z, TI, TO, i1, i2] z (tnM a b z TI TO i1 i2) where
  mem := List.mem_cons_self ..
  obj := fun i h t c hc => by
    obtain ⟨t1, t2, ⟨x, y, t3⟩, ⟨o1, e1, _, d1⟩, o2, e2, _, d2⟩ := t
    rcases mem5 hc with q | q | q | q | q <;> rw [q]
    · exact ⟨_, t1, fun v q => nomatch q⟩
    · exact ⟨_, t2, fun v q => nomatch q⟩
    · exact ⟨_, t3, fun v q => nomatch q⟩
    · exact ⟨o1, e1, fun v q => by rw [d1] at q; cases q⟩
    · exact ⟨o2, e2, fun v q => by rw [d2] at q; cases q⟩
  keep := fun i h h' t k => by
    obtain ⟨t1, t2, ⟨x, y, t3⟩, t4, t5⟩ := t
    exact ⟨k z (by simp) _ t1, k TI (by simp) _ t2, ⟨x, y, k TO (by simp) _ t3⟩, t4.at fun o e => k i1 (by simp) o e, t5.at fun o e => k i2 (by simp) o e⟩
  item := by
    intro X eP ew eK hc i pins s σ H E I hf t hg
    subst eP ew eK
    obtain ⟨t1, t2, ⟨x0, y0, t3⟩, t4, t5⟩ := t
    obtain ⟨xs, ys, x, y, ⟨qx, hx⟩, qy, hy⟩ := hg
    obtain ⟨as, ra, pa, _⟩ := I.tuple qx
    obtain ⟨bs, rb, pb, _⟩ := I.list qy
    obtain ⟨u, hu, ru⟩ := ra.get hx
    obtain ⟨u2, hu2, ru2⟩ := rb.get hy
    have hd : X.A.in1.handled = none := I.ok.hd hc
    have zl : z < s.heap.objs.size := Heap.lt_size t1
    have la : i < as.toArray.size := by
      rw [List.size_toArray]
      exact (List.getElem?_eq_some_iff.mp hu).1
    have lb : i < bs.toArray.size := by
      rw [List.size_toArray]
      exact (List.getElem?_eq_some_iff.mp hu2).1
    refine wpAny_pyNext_zipD2_item (sepM D) (Draws.tuple hd i1 a D.l1i1 as.toArray) (Draws.list hd i2 b D.l2i2 bs.toArray) t1 t2 t3 ⟨t4, pa⟩ ⟨t5, pb.isList⟩ la lb fun v1 v2 h1 tk e1 e2 z1 T1 g1 g2 nT hn hk => ?_
    have e3 : as[i]? = some v1 := by simpa using e1
    have e4 : bs[i]? = some v2 := by simpa using e2
    rw [hu] at e3
    rw [hu2] at e4
    cases e3
    cases e4
    refine ⟨_, rfl, wpAny_letOwnedTupleGo_zip (s := { s with heap := h1, toks := tk }) z1 fun h2 z2 sb => ?_⟩
    have nT2 : h2.get? s.heap.objs.size = some { cls := .type "tuple", data := .seq #[u, u2] } := (sb.2 _ (Nat.ne_of_gt zl)).trans nT
    have new : ObjOk X.prog X.w (upd H s.heap.objs.size (.tup [x, y])) h2 s.heap.objs.size (.tup [x, y]) := ⟨show 2 ≤ sizeLine by decide, [u, u2], .cons ru (.cons ru2 .nil), ⟨_, nT2, rfl, _, rfl⟩⟩
    have hk2 : ∀ c o, c ∉ [z, TI, TO, i1, i2] → s.heap.get? c = some o → h2.get? c = some o := fun c o hb q => by
      have n1 : c ≠ z := fun e => hb (by simp [e])
      have n2 : c ≠ TO := fun e => hb (by simp [e])
      have n3 : c ≠ i1 := fun e => hb (by simp [e])
      have n4 : c ≠ i2 := fun e => hb (by simp [e])
      exact (sb.2 c n1).trans (hk c o n1 n2 n3 n4 q)
    have I2 : Inv X pins σ (upd H s.heap.objs.size (.tup [x, y])) { s with heap := h2, toks := tk } := I.turnedNew (ch := [z, TI, TO, i1, i2]) hk2 hf (Nat.le_refl _) new
    refine ⟨.ref s.heap.objs.size, _, I2, rfl, ⟨_, x, y, ⟨rfl, I.hok.fresh (Nat.le_refl _), rfl⟩, fun l hl => by rw [I.tuple_inj hl qx]; exact hx, fun l hl => by rw [I.list_inj hl qy]; exact hy⟩, ⟨z2, (sb.2 _ D.TIz).trans (hk _ _ D.TIz D.TITO D.TIi1 D.TIi2 t2), ⟨u, u2, (sb.2 _ D.TOz).trans T1⟩, g1.1.at fun o q => (sb.2 _ D.i1z).trans q, g2.1.at fun o q => (sb.2 _ D.i2z).trans q⟩, fun c hcm => ?_⟩
    have lt : c < s.heap.objs.size := by
      rcases mem5 hcm with q | q | q | q | q <;> rw [q]
      · exact zl
      · exact Heap.lt_size t2
      · exact Heap.lt_size t3
      · obtain ⟨_, e, _⟩ := t4
        exact Heap.lt_size e
      · obtain ⟨_, e, _⟩ := t5
        exact Heap.lt_size e
    rw [upd_ne (Nat.ne_of_lt lt)]
    exact (hf c hcm).1
  done := by
    intro X eP ew eK hc i pins s σ H E I hf t hg
    subst eP ew eK
    obtain ⟨t1, t2, ⟨x0, y0, t3⟩, t4, t5⟩ := t
    obtain ⟨xs, ys, ⟨qx, qy⟩, l1, l2, l3⟩ := hg
    obtain ⟨as, ra, pa, _⟩ := I.tuple qx
    obtain ⟨bs, rb, pb, _⟩ := I.list qy
    have hd : X.A.in1.handled = none := I.ok.hd hc
    have ea := ra.length
    have eb := rb.length
    refine wpAny_pyNext_zipD2_end (i := i) (sepM D) (Draws.tuple hd i1 a D.l1i1 as.toArray) (Draws.list hd i2 b D.l2i2 bs.toArray) t1 t2 t3 ⟨t4, pa⟩ ⟨t5, pb.isList⟩ (by rw [List.size_toArray]; omega) (by rw [List.size_toArray]; omega) (by rw [List.size_toArray, List.size_toArray]; omega) fun h1 tk hk => ⟨rfl, I.turnedL (ch := [z, TI, TO, i1, i2]) (fun c o hb q => ?_) hf⟩
    exact hk c o (fun e => hb (by simp [e])) (fun e => hb (by simp [e])) (fun e => hb (by simp [e])) (fun e => hb (by simp [e])) q
  self := fun A i s Q E t h => wpAny_pyIter_zip t.1 h
def iZipM (K : PySem.W.Frag) (ta : TA) : TI := fun σ H R => ta σ H fun vs H1 => ∃ a b xs ys, vs = [.ref a, .ref b] ∧ SqT K H1 a xs ∧ SqL K H1 b ys ∧ R (ItzM K a b) H1
theorem pi_zipM {X : Cx} {e e2 : Expr} {ta : TA} {p pos tpos : Pos} {elts : List Expr} {kk : Nat} (hg : Gl X "zip") (hm : X.mg "zip" = none) (ha : PA X [e, e2] ta)
    (hs : starEach [e, e2] X.env = (false, eval e X.env) :: starEach [e2] X.env) (hpl : (backTo pos (starEach [e2] X.env)).any (·.1) = false) : PI X (.Tuple elts kk tpos) (.Call (.Name "zip" p) [e, e2] [] pos) (iZipM X.K ta) := by
  refine ⟨fun pins s σ H R I h => Call_ (ld_blt I hg hm PyProof.Rows.boot_zip (PyProof.Rows.callWith_type1 (thn (ha.run pos pins s σ H _ I h) fun us t ⟨vs, H1, J, r1, q1⟩ => ?_) hs hpl))⟩
  obtain ⟨a, b, xs, ys, rfl, qx, qy, q⟩ := q1
  cases r1 with
  | cons r rr =>
    cases rr with
    | cons r' rr =>
      cases rr
      cases r
      cases r'
      obtain ⟨as, ra, pa, _⟩ := J.tuple qx
      obtain ⟨bs, rb, pb, _⟩ := J.list qy
      obtain ⟨oa, ea, _⟩ := id pa
      refine zip_begins2 (begins_tuple a as.toArray) (begins_list b bs.toArray) pa pb.isList fun h1 z1 t1 t2 g1 g2 hn hk => wpAny_pyIter_zip z1 ?_
      have J2 : Inv X pins σ H1 { t with heap := h1 } := J.kept (t' := t.toks) hk
      refine ⟨t.heap.objs.size + 4, [t.heap.objs.size + 4, t.heap.objs.size + 2, t.heap.objs.size + 3, t.heap.objs.size, t.heap.objs.size + 1], _, _, H1, rfl, J2, turnM (PySem.W.ktu_apart t.heap.objs.size a b (Heap.lt_size ea) pb.lt), ⟨z1, t1, ⟨_, _, t2⟩, ⟨_, g1, rfl, rfl⟩, ⟨_, g2, rfl, rfl⟩⟩, fun c hcm => ?_, q⟩
      have le : t.heap.objs.size ≤ c := by
        rcases mem5 hcm with e | e | e | e | e <;> rw [e] <;> first | exact Nat.le_add_right _ _ | exact Nat.le_refl _
      exact J.fpOk le (J.hok.fresh le)
section
variable {X : Cx} {ρ : Ro} {S : Sto} {e e2 : Expr} {P : Program} {w : World} {K : PySem.W.Frag} {mg : Str → Option Value} {base : Heap} {tb : List (Str × Nat)} {names : List (Str × NameKind)} {k : Nat} {pos p tpos : Pos} {elts : List Expr} {kk : Nat}
theorem it_zipM {K : PySem.W.Frag} {Zh : List Addr} {H : Hp} {l m : List D} {p q : Addr} {vs us : List V} (st : Store K Zh H S) (sq : SqT K H p vs) (sq2 : (q ∉ keys S ∧ Rd H q (.lst us)) ∨ KL K q us) (rl : RepL K (keys S ++ Zh) H l vs) (rm : RepL K (keys S ++ Zh) H m us) : ItOk K Zh S H (zipD l m) (ItzM K p q) where
  go := fun i S' H' t hi => by
    rw [zipD_len] at hi
    have h1 : i < vs.length := by rw [rl.length]; omega
    have h2 : i < us.length := by rw [rm.length]; omega
    exact ⟨vs, us, vs[i], us[i], ⟨SqT.grow st.zl t.1 sq, List.getElem?_eq_getElem h1⟩, lst_step t sq2, List.getElem?_eq_getElem h2⟩
  stop := fun S' H' t => ⟨vs, us, ⟨SqT.grow st.zl t.1 sq, lst_step t sq2⟩, by rw [zipD_len, rl.length, rm.length]; omega⟩
  yld := fun i S' H' x H2 Zx zx t st' hi y => by
    obtain ⟨T, x, y, ⟨rfl, hT, rfl⟩, f1, f2⟩ := y
    obtain ⟨d, hd, r⟩ := rl.get2 (f1 vs (SqT.grow st.zl t.1 sq))
    obtain ⟨d2, hd2, r2⟩ := rm.get2 (f2 us (lst_step t sq2))
    exact ⟨_, zipD_get hd hd2, same_new hT, tup_new st' hT (.cons (Rep.step st.zl t (Rep.fresh zx r)) (.cons (Rep.step st.zl t (Rep.fresh zx r2)) .nil))⟩
theorem di_zipM {Φ : List D → Sto → Prop} (A : At X P w K mg base tb names k) (hm : mg "zip" = none) (hg : glB names "zip" = true) (hs : starEach [e, e2] X.env = (false, eval e X.env) :: starEach [e2] X.env) (hpl : (backTo pos (starEach [e2] X.env)).any (·.1) = false)
    (hs4 : starEach (e2 :: []) X.env = (false, eval e2 X.env) :: starEach [] X.env)
    (h : DE X e ρ S fun d S1 => DE X e2 ρ S1 fun c S2 => ∃ l m, d = .tup l ∧ c = .lst m ∧ Φ (zipD l m) S2) : DI X (.Tuple elts kk tpos) (.Call (.Name "zip" p) [e, e2] [] pos) ρ S Φ :=
  DI.of (pi_zipM (A.gl _ (glB_of hg).2) (by rw [A.mg]; exact hm) (pa_cons pe_w (pa_cons pe_w pa_nil hs4) hs) hs hpl) fun Zh σ H R E k => h.bind E fun v H1 d S1 k1 g1 E1 r1 h1 => h1.bind E1 fun v2 H2 d2 S2 k2 g2 E2 r2 h2 => by
    have r3 : Rep X.K (keys S2 ++ Zh) H2 d v := by
      rw [k2]
      exact E1.st.gr g2 r1
    obtain ⟨l, m, rfl, rfl, q⟩ := h2
    obtain ⟨a, vs, rfl, sq, rl⟩ := r3.tup
    obtain ⟨b, us, rfl, n2, sq2, rm⟩ := r2.lst
    exact ⟨a, b, vs, us, rfl, sq, .inl (.inl sq2), k _ H2 _ S2 (k2.trans k1) (g1.trans (by rw [← k1]; exact g2)) E2.st (it_zipM E2.st sq (frz_l (.inl ⟨n2, .inl sq2⟩)) rl rm) q⟩
end
end Ar
namespace Ar
open PySem PySem.Spec PyProof.Rows L2
/-! ### list.extend(tuple) -/
theorem wpAny_extend_seq2 {prog : Program} {w : World} {A : Around} {s : Shared} {R : Result → Shared → Prop} (S it : Addr) (res : Value) (c₀ : Nat) {o : Obj} {items0 items : Array Value} {n : Nat}
    (hS : s.heap.get? S = some { cls := .type "list", data := .seq items0 c₀ }) (ho : s.heap.get? it = some o) (hc : o.cls = .type "tuple") (hd : o.data = .seq items n) (hlong : (!items0.isEmpty && Builtin.List.listTooLong (items0.size + items.size)) = false)
    (hR : R (.ok (.ret res)) { s with heap := s.heap.update S (Obj.mapSeq (· ++ items)) }) (h1 : items0.size ≤ sizeLine) (h2 : (items0 ++ items).size ≤ sizeLine + 1) :
    wpAny (model prog w) A (Builtin.List.listExtendWith (.ref S) (.ref it) res) (fun fin s' => fin = .done (.ret res) ∧ R (.ok (.ret res)) s') (fun _ _ => False) s := by
  unfold Builtin.List.listExtendWith
  refine wpAny_bind (wpAny_typeOf ⟨o, ho, hc⟩ ?_)
  have h3 : (Builtin.List.listSameRef (.ref S) (.ref it) || Value.type "tuple" == Value.type "list" || Value.type "tuple" == Value.type "tuple") = true := by simp
  simp only [h3, if_true]
  refine wpAny_bind ?_
  unfold Builtin.List.listItems
  refine wpAny_bind (wpAny_seqItems ho hd (wpAny_pure ?_))
  refine wpAny_bind ?_
  refine wpAny_bind (wpAny_seqItems hS rfl (wpAny_pure ?_))
  simp only [hlong]
  show wpAny _ A (updateSeq S (· ++ items) >>= fun _ => ret res) _ _ s
  refine wpAny_bind (wpAny_updateSeq hS rfl ?_)
  exact wpAny_pure ⟨rfl, hR⟩
theorem list_extend_tupG (l b : Addr) (items0 : Array Value) (n : Nat) (items : Array Value) (m : Nat) (hlong : (!items0.isEmpty && Builtin.List.listTooLong (items0.size + items.size)) = false) (h1 : items0.size ≤ sizeLine) (h2 : items0.size + items.size ≤ sizeLine + 1) :
    Meets (Builtin.«list.extend» ⟨[.ref l, .ref b], []⟩) (fun _ R s => s.heap.get? l = some { cls := .type "list", dict := none, data := .seq items0 n, slots := #[] } ∧ (∃ o, s.heap.get? b = some o ∧ o.cls = .type "tuple" ∧ o.data = .seq items m) ∧ R (.ok (.ret Value.none)) { s with heap := s.heap.update l (Obj.mapSeq fun x => x ++ items) }) :=
  .of_wp fun prog w A R s h => by
    obtain ⟨hl, ⟨o, ho, hc, hd⟩, h⟩ := h
    show wpAny _ _ (Builtin.List.listExtendWith (.ref l) (.ref b) .none) _ _ s
    refine wpAny_mono (wpAny_extend_seq2 (R := R) l b .none n hl ho hc hd hlong h h1 (by rw [Array.size_append]; exact h2)) (fun fin s' q => ?_) fun _ _ q => q.elim
    obtain ⟨rfl, q⟩ := q
    exact ⟨_, rfl, q⟩
def rExtendT (K : PySem.W.Frag) : V → List V → Hp → VK → Prop := fun x vs H Q => ∃ l b xs zs, x = .ref l ∧ vs = [.ref b] ∧ H l = some (.lst xs) ∧ SqT K H b zs ∧ xs.length + zs.length ≤ sizeLine ∧ Q .non (upd H l (.lst (xs ++ zs)))
theorem mt_extendT {X : Cx} : MtM X "list.extend" (rExtendT X.K) := by
  intro pins s σ H x vs v us Q I rx rv h
  obtain ⟨l, b, xs, zs, rfl, rfl, hH, hB, hz, q⟩ := h
  cases rx
  obtain ⟨u, rfl, ru⟩ := rv.one
  cases ru
  obtain ⟨z, its, n, r, hl, e⟩ := I.lstM hH
  obtain ⟨its2, r2, ⟨o2, e2, hc2, n2, hd2⟩, hs2⟩ := I.tuple hB
  have hl2 := r2.length
  have hsz : its.toArray.size + its2.toArray.size ≤ sizeLine := by rw [List.size_toArray, List.size_toArray]; omega
  have hlong : (!its.toArray.isEmpty && Builtin.List.listTooLong (its.toArray.size + its2.toArray.size)) = false := by
    rw [notLongL hsz, Bool.and_false]
  refine call_meets F.slot_list_extend ⟨_, e, rfl⟩ F.entry_list_extend (F.args_list_extend_2 _ _)
    (list_extend_tupG l b its.toArray n its2.toArray n2 hlong (by rw [List.size_toArray]; omega) (by omega)) ⟨e, ⟨o2, e2, hc2, hd2⟩, ?_⟩
  refine ⟨.non, _, I.lset (its' := its ++ its2) hH e (by simp) (r.append r2) ?_, rfl, q⟩
  rw [List.length_append]
  omega
section
variable {X : Cx} {ρ : Ro} {S : Sto} {Φ : D → Sto → Prop} {P : Program} {w : World} {K : PySem.W.Frag} {mg : Str → Option Value} {base : Heap} {tb : List (Str × Nat)} {names : List (Str × NameKind)} {k : Nat} {pos p cpos apos tpos : Pos} {e o i : Expr} {es : List Expr} {E : DEnds}
theorem de_extendT (hbase : attributeBase o "extend" X.env (eval o X.env) = eval o X.env)
    (hfew : ((backTo cpos (starEach [e] X.env)).all (fun x => !x.1) && (backToKw cpos (keywordEach [] X.env)).all (fun x => x.1.isSome)
      && decide (([e] : List Expr).length + ([] : List Keyword).length + (if ([] : List Keyword).isEmpty then 0 else 1) < 30)) = true)
    (hline : (apos.endLine == cpos.line) = true) (he : starEach [e] X.env = [(false, eval e X.env)])
    (h : DE X o ρ S fun c S1 => ∃ p A l B, c = .cell p ∧ S1 = A ++ (p, l) :: B ∧ DE X e ρ S1 fun d S2 => ∃ A' l' B' m, d = .tup m ∧ S2 = A' ++ (p, l') :: B' ∧ l'.length + m.length ≤ sizeLine ∧ Φ .non (A' ++ (p, l' ++ m) :: B')) : DE X (.Call (.Attribute o "extend" apos) [e] [] cpos) ρ S Φ :=
  DE.of (pe_bm PySem.F.plainAttrs_list PySem.F.slot_list_extend PySem.F.type_list_extend mt_extendT pe_w pa_w hbase hfew hline he rfl) fun Zh σ H Q ev P => h.bind ev fun v H1 c S1 k1 g1 E1 r1 h2 => by
    obtain ⟨p, A, l, B, rfl, rfl, h2⟩ := h2
    have hv := r1.cell
    subst hv
    refine ⟨tyV_cell E1.st, (da_one (Ψ := fun ds S2 => ∃ d, ds = [d] ∧ ∃ A' l' B' m, d = .tup m ∧ S2 = A' ++ (p, l') :: B' ∧ l'.length + m.length ≤ sizeLine ∧ Φ .non (A' ++ (p, l' ++ m) :: B')) he (DE.mono h2 fun d S2 q => ⟨d, rfl, q⟩)).tw E1 fun vs H2 ds S2 k2 g2 s2 r2 l2 q2 => ?_⟩
    obtain ⟨d, rfl, A', l', B', m, rfl, rfl, hz, q⟩ := q2
    obtain ⟨v, t, rfl, rv, t0⟩ := r2.uncons
    cases t0.un0
    obtain ⟨b, zs, rfl, hb, rz⟩ := rv.tup
    obtain ⟨ws, hp, rl⟩ := s2.st p l' (List.mem_append_right _ List.mem_cons_self)
    refine ⟨p, b, ws, zs, rfl, rfl, hp, hb, by rw [rl.length, rz.length]; exact hz, ?_⟩
    exact ((P.next k1 g1).next k2 g2).wr s2 (rl.append (by rw [k2]; exact rz)) q
end
end Ar
namespace Ar
open PySem PySem.Spec PyProof.Rows L2
/-! ### built-ins of one part -/
def lenO : D → Out D
  | .tup l => .ok (.int (l.length : Int))
  | .lst l => .ok (.int (l.length : Int))
  | .frz l => .ok (.int (l.length : Int))
  | .str z => if shortS z then .ok (.int (z.length : Int)) else .bad
  | _ => .bad
def seqO : D → Option (List D)
  | .tup l => some l
  | .lst l => some l
  | .frz l => some l
  | _ => none
inductive Bi1 where | len | abs | int | tuple | list | all | any | sum
def bi1Of (f : Str) : Option Bi1 :=
  if f == "len" then some .len else if f == "tuple" then some .tuple else if f == "all" then some .all else if f == "abs" then some .abs else if f == "sum" then some .sum
  else if f == "int" then some .int else if f == "list" then some .list else if f == "any" then some .any else none
def sumR : List D → Option (Int × Int)
  | [] => some (0, 0)
  | d :: l => match asRng d, sumR l with
    | some (a, b), some (lo, hi) => some (a + lo, b + hi)
    | _, _ => none
theorem sumR_rep {K : PySem.W.Frag} {Z : List Addr} {H : Hp} : ∀ {l : List D} {vs : List V} {lo hi : Int}, sumR l = some (lo, hi) → RepL K Z H l vs → ∃ is : List Int, vs = is.map V.int ∧ lo ≤ is.sum ∧ is.sum ≤ hi
  | [], vs, lo, hi, h, r => by
    cases h
    rw [r.un0]
    exact ⟨[], rfl, Int.le_refl _, Int.le_refl _⟩
  | d :: l, vs, lo, hi, h, r => by
    unfold sumR at h
    split at h
    · rename_i a b lo2 hi2 h1 h2
      cases h
      obtain ⟨v, ws, rfl, r1, r2⟩ := r.uncons
      obtain ⟨i, rfl, i1, i2⟩ := asRng_rep h1 r1
      obtain ⟨is, rfl, s1, s2⟩ := sumR_rep h2 r2
      refine ⟨i :: is, rfl, ?_, ?_⟩ <;> rw [List.sum_cons] <;> omega
    · cases h
def bi1O : Bi1 → D → Out D
  | .len, x => lenO x
  | .abs, .int i => .ok (.int (if i < 0 then -i else i))
  | .int, .int i => .ok (.int i)
  | .int, .bl c => .ok (.int (if c then 1 else 0))
  | .tuple, x => match seqO x with | some l => .ok (.tup l) | none => .bad
  | .list, x => match seqO x with | some l => .ok (.lst l) | none => .bad
  | .all, .lst l => match asBls l with | some bs => .ok (.bl (bs.all id)) | none => .bad
  | .any, .lst l => match asBls l with | some bs => .ok (.bl (bs.any id)) | none => .bad
  | .sum, .lst l => match asInts l with | some bs => .ok (.int bs.sum) | none => match sumR l with | some (lo, hi) => .ok (.rng lo hi) | none => .bad
  | _, _ => .bad
inductive Bi2 where | min | max
def bi2Of (f : Str) : Option Bi2 := if f == "min" then some .min else if f == "max" then some .max else none
def minR (x y : D) : Out D := match asRng x, asRng y with
  | some (a, b), some (c, d) => if decide (b ≤ c) then .ok x else if decide (d ≤ a) then .ok y else .bad
  | _, _ => .bad
def bi2O : Bi2 → D → D → Out D
  | .min, x, y => minR x y
  | .max, .int i, .int j => .ok (.int (if j > i then j else i))
  | _, _, _ => .bad
theorem lenO_ok {x d : D} {S : Sto} (h : lenO x = .ok d) : ∃ n : Nat, d = .int (n : Int) ∧ LenD S x n := by
  unfold lenO at h
  split at h
  · cases h; exact ⟨_, rfl, rfl⟩
  · cases h; exact ⟨_, rfl, rfl⟩
  · cases h; exact ⟨_, rfl, rfl⟩
  · split at h
    · rename_i hs
      cases h
      exact ⟨_, rfl, line_of (short_len hs) (by decide), rfl⟩
    · cases h
  · cases h
theorem seqO_ok {x : D} {l : List D} {S : Sto} (h : seqO x = some l) : SeqD S x l := by
  unfold seqO at h
  split at h <;> cases h <;> rfl
theorem bi1O_nx {f : Bi1} {x : D} : ∀ c, bi1O f x ≠ .ex c := fun c h => by
  unfold bi1O lenO at h
  split at h <;> (try split at h) <;> (try split at h) <;> (try split at h) <;> cases h
theorem bi2O_nx {f : Bi2} {x y : D} : ∀ c, bi2O f x y ≠ .ex c := fun c h => by
  unfold bi2O at h
  split at h <;> first | (cases h; done) | skip
  unfold minR at h
  split at h <;> (try split at h) <;> (try split at h) <;> cases h
section
variable {cls : Cls} {X : Cx} {W : WX} {ρ : Ro} {S : Sto} {e a b c : Expr} {es : List Expr} {pos p : Pos} {P : Program} {w : World} {K : PySem.W.Frag} {mg : Str → Option Value} {base : Heap} {tb : List (Str × Nat)} {names : List (Str × NameKind)} {k : Nat}
theorem dr_cT {T : String} {x : Str} {r : List V → Hp → VK → Prop} {Ξ : Xi} (A : At X P w K mg base tb names k) (G : NoB mg) (hc : CallR X (.type T) r) (hv : bootBuiltins x = some (.type T)) (hg : (bltB x && glB names x) = true)
    (he : starEach (e :: es) X.env = (false, eval e X.env) :: starEach es X.env) (hpl : (backTo pos (starEach es X.env)).any (·.1) = false) (h : DRA X W (e :: es) ρ S Ξ) : DR X W (.Call (.Name x p) (e :: es) [] pos) ρ S Ξ := by
  rw [Bool.and_eq_true] at hg
  have z := glB_of hg.2
  exact DR.of (pe_callTy hc (A.gl _ z.2) (by rw [A.mg]; exact G.no _ hg.1) hv pa_w (plain1 z.1).2.2 (plain1 z.1).1 he hpl) fun Zh σ H Q E P => h.tw E P
theorem de_sumR {Φ : D → Sto → Prop} (A : At X P w K mg base tb names k) (G : NoB mg) (hg : glB names "sum" = true) (he : starEach [e] X.env = [(false, eval e X.env)]) (h : DE X e ρ S fun d S1 => ∃ l lo hi, d = .lst l ∧ sumR l = some (lo, hi) ∧ Φ (.rng lo hi) S1) : DE X (.Call (.Name "sum" p) [e] [] pos) ρ S Φ :=
  de_cB1 A G (cr_sum A.calm) rfl (by rw [hg]; rfl) he (DE.mono h fun d S1 ⟨l, lo, hi, e1, hs, q⟩ Zh H v Q s r P => by
    subst e1
    obtain ⟨pp, vs, rfl, _, sq, rl⟩ := r.lst
    obtain ⟨is, rfl, s1, s2⟩ := sumR_rep hs rl
    exact ⟨pp, is, rfl, .inl (.inl sq), P.here s (rep_rng s1 s2) q⟩)
theorem star1 (h : isStar a = false) : starEach [a] X.env = [(false, eval a X.env)] := star_no h
theorem run_bi1 {f : Str} {g : Bi1} {oa : Out D} (A : At X P w K mg base tb names k) (G : NoB mg) (hf : bi1Of f = some g) (hg : glB names f = true) (hs : isStar a = false) (ha : RunE cls X W a ρ S oa) : RunE cls X W (.Call (.Name f p) [a] [] pos) ρ S (oa.bind (bi1O g)) := by
  have hs1 := star1 (X := X) hs
  have cB : ∀ {id : String} {r : List V → Hp → VK → Prop} {x : Str}, CallR X (.builtin id) r → bootBuiltins x = some (.builtin id) → (bltB x && glB names x) = true → ∀ Ξ : Xi, DR X W a ρ S Ξ → DR X W (.Call (.Name x p) [a] [] pos) ρ S Ξ := fun hc hv hg Ξ h => dr_cB A G hc hv hg hs1 rfl (dra_head hs1 h)
  have cT : ∀ {id : String} {r : List V → Hp → VK → Prop} {x : Str}, CallR X (.type id) r → bootBuiltins x = some (.type id) → (bltB x && glB names x) = true → ∀ Ξ : Xi, DR X W a ρ S Ξ → DR X W (.Call (.Name x p) [a] [] pos) ρ S Ξ := fun hc hv hg Ξ h => dr_cT A G hc hv hg hs1 rfl (dra_head hs1 h)
  have av : ∀ {T : Value}, CallR X T (fun _ _ _ => False) := fun _ _ _ _ _ _ _ _ _ h => h.elim
  unfold bi1Of at hf
  repeat' split at hf
  all_goals first | (cases hf; done) | (cases hf; rename_i hq; have e1 := eq_of_beq hq; subst e1)
  · refine run_one ha (fun _ => bi1O_nx) (fun x d h Φ q da => ?_) (cB av rfl (by rw [hg]; rfl))
    obtain ⟨n, rfl, hl⟩ := lenO_ok (S := S) h
    exact de_len A G hg hs1 (da _ ⟨n, hl, q⟩)
  · refine run_one ha (fun _ => bi1O_nx) (fun x d h Φ q da => ?_) (cT av rfl (by rw [hg]; rfl))
    unfold bi1O at h
    dsimp only at h
    split at h
    · rename_i l hl
      cases h
      exact de_tupleOf A G hg hs1 (da _ ⟨l, seqO_ok hl, q⟩)
    · cases h
  · refine run_one ha (fun _ => bi1O_nx) (fun x d h Φ q da => ?_) (cB av rfl (by rw [hg]; rfl))
    cases x <;> first | cases h; done | skip
    case lst l =>
      unfold bi1O at h
      dsimp only at h
      split at h
      · rename_i bs hb
        cases h
        exact de_all A G hg hs1 (da _ ⟨bs, by rw [asBls_eq hb], q⟩)
      · cases h
  · refine run_one ha (fun _ => bi1O_nx) (fun x d h Φ q da => ?_) (cB av rfl (by rw [hg]; rfl))
    cases x <;> first | (cases h; done) | skip
    cases h
    exact de_abs A G hg hs1 (da _ ⟨_, rfl, q⟩)
  · refine run_one ha (fun _ => bi1O_nx) (fun x d h Φ q da => ?_) (cB av rfl (by rw [hg]; rfl))
    cases x <;> first | cases h; done | skip
    case lst l =>
      unfold bi1O at h
      dsimp only at h
      split at h
      · rename_i bs hb
        cases h
        exact de_sum A G hg hs1 (da _ ⟨bs, by rw [asInts_eq hb], q⟩)
      · split at h
        · rename_i lo hi hb
          cases h
          exact de_sumR A G hg hs1 (da _ ⟨l, lo, hi, rfl, hb, q⟩)
        · cases h
  · refine run_one ha (fun _ => bi1O_nx) (fun x d h Φ q da => ?_) (cT av rfl (by rw [hg]; rfl))
    cases x <;> first | (cases h; done) | skip
    case bl c =>
      cases h
      exact de_intI A G hg hs1 (da _ (.inr ⟨c, rfl, q⟩))
    case int c =>
      cases h
      exact de_intI A G hg hs1 (da _ (.inl ⟨c, rfl, q⟩))
  · refine run_one ha (fun _ => bi1O_nx) (fun x d h Φ q da => ?_) (cT av rfl (by rw [hg]; rfl))
    unfold bi1O at h
    dsimp only at h
    split at h
    · rename_i l hl
      cases h
      exact de_listOf A G hg hs1 (da _ ⟨l, seqO_ok hl, q⟩)
    · cases h
  · refine run_one ha (fun _ => bi1O_nx) (fun x d h Φ q da => ?_) (cB av rfl (by rw [hg]; rfl))
    cases x <;> first | cases h; done | skip
    case lst l =>
      unfold bi1O at h
      dsimp only at h
      split at h
      · rename_i bs hb
        cases h
        exact de_any A G hg hs1 (da _ ⟨bs, by rw [asBls_eq hb], q⟩)
      · cases h
theorem run_bi2 {f : Str} {g : Bi2} {oa ob : Out D} (A : At X P w K mg base tb names k) (G : NoB mg) (hf : bi2Of f = some g) (hg : glB names f = true) (hs : isStar a = false) (hs2 : isStar b = false) (ha : RunE cls X W a ρ S oa) (hb : RunE cls X W b ρ S ob) :
    RunE cls X W (.Call (.Name f p) [a, b] [] pos) ρ S (oa.bind fun x => ob.bind fun y => bi2O g x y) := by
  have h2 : starEach [b] X.env = [(false, eval b X.env)] := star_no hs2
  have h1 : starEach (a :: [b]) X.env = (false, eval a X.env) :: starEach [b] X.env := star_no hs
  have hpl : (backTo pos (starEach [b] X.env)).any (·.1) = false := by rw [h2]; rfl
  have av : ∀ {T : Value}, CallR X T (fun _ _ _ => False) := fun _ _ _ _ _ _ _ _ _ h => h.elim
  have cB : ∀ {id : String} {r : List V → Hp → VK → Prop} {x : Str}, CallR X (.builtin id) r → bootBuiltins x = some (.builtin id) → (bltB x && glB names x) = true → ∀ Ξ : Xi, DRA X W [a, b] ρ S Ξ → DR X W (.Call (.Name x p) [a, b] [] pos) ρ S Ξ := fun hc hv hg Ξ h => dr_cB A G hc hv hg h1 hpl h
  unfold bi2Of at hf
  repeat' split at hf
  all_goals first | (cases hf; done) | (cases hf; rename_i hq; have e1 := eq_of_beq hq; subst e1)
  · refine run_two ha hb (fun _ _ => bi2O_nx) (fun x y d h Φ q da db => ?_) (fun Ξ h => cB av rfl (by rw [hg]; rfl) Ξ (dra_head h1 h)) fun Ξ h => cB av rfl (by rw [hg]; rfl) Ξ (dra_tail h1 (h.mono fun d S1 h => dra_head h2 h))
    unfold bi2O at h
    dsimp only at h
    unfold minR at h
    split at h
    · rename_i a1 b1 c1 d1 hx hy
      refine de_cB A G (call_min2 A.calm) rfl (by rw [hg]; rfl) h1 hpl (da_two h1 h2 (da _ (db _ ?_)))
      intro Zh H vs Q s r P
      obtain ⟨v, r1, rfl, rv, r⟩ := r.uncons
      obtain ⟨u, r2, rfl, ru, r⟩ := r.uncons
      cases r.un0
      obtain ⟨i, rfl, i1, i2⟩ := asRng_rep hx rv
      obtain ⟨j, rfl, j1, j2⟩ := asRng_rep hy ru
      refine ⟨i, j, rfl, ?_⟩
      split at h
      · rename_i hh
        have hh := of_decide_eq_true hh
        cases h
        rw [if_neg (by omega)]
        exact P.here s rv q
      · split at h
        · rename_i hh
          have hh := of_decide_eq_true hh
          cases h
          have e : (if j < i then j else i) = j := by
            split
            · rfl
            · omega
          rw [e]
          exact P.here s ru q
        · cases h
    · cases h
  · refine run_two ha hb (fun _ _ => bi2O_nx) (fun x y d h Φ q da db => ?_) (fun Ξ h => cB av rfl (by rw [hg]; rfl) Ξ (dra_head h1 h)) fun Ξ h => cB av rfl (by rw [hg]; rfl) Ξ (dra_tail h1 (h.mono fun d S1 h => dra_head h2 h))
    cases x <;> first | (cases h; done) | skip
    cases y <;> first | (cases h; done) | skip
    cases h
    refine de_cB A G (call_max2 A.calm) rfl (by rw [hg]; rfl) h1 hpl (da_two h1 h2 (da _ (db _ ?_)))
    intro Zh H vs Q s r P
    obtain ⟨v, r1, rfl, rv, r⟩ := r.uncons
    obtain ⟨u, r2, rfl, ru, r⟩ := r.uncons
    cases r.un0
    exact ⟨_, _, by rw [rv.int, ru.int], P.here s rep_int q⟩
/-! isinstance -/
def noCell : D → Bool
  | .cell _ => false
  | _ => true
inductive Ty where | int | bool | str | tuple | list
def tyOf (t : Str) : Option Ty := if t == "int" then some .int else if t == "bool" then some .bool else if t == "str" then some .str else if t == "tuple" then some .tuple else if t == "list" then some .list else none
def tyB : Ty → D → Bool
  | .int => isIntB
  | .bool => isBoolB
  | .str => isStrB
  | .tuple => isTupleB
  | .list => isListB
theorem tyOf_ok {t : Str} {g : Ty} (h : tyOf t = some g) : ∃ T, TyG t T (tyB g) := by
  unfold tyOf at h
  repeat' split at h
  all_goals first | (cases h; done) | (cases h; rename_i hq; have e1 := eq_of_beq hq; subst e1)
  · exact ⟨_, tyInt⟩
  · exact ⟨_, tyBool⟩
  · exact ⟨_, tyStr⟩
  · exact ⟨_, tyTuple⟩
  · exact ⟨_, tyList⟩
theorem okc_no {x : D} (h : noCell x = true) : OkC S x := by
  cases x <;> first | trivial | cases h
def isiO (f : D → Bool) (x : D) : Out D := if noCell x then .ok (.bl (f x)) else .bad
theorem isiO_nx {f : D → Bool} {x : D} : ∀ c, isiO f x ≠ .ex c := fun c h => by
  unfold isiO at h
  split at h <;> cases h
theorem run_isi {t : Str} {g : Ty} {px : Pos} {oa : Out D} (A : At X P w K mg base tb names k) (G : NoB mg) (ht : tyOf t = some g) (hg : (glB names t && glB names "isinstance") = true) (hs : isStar a = false) (ha : RunE cls X W a ρ S oa) :
    RunE cls X W (.Call (.Name "isinstance" p) [a, .Name t px] [] pos) ρ S (oa.bind (isiO (tyB g))) := by
  obtain ⟨T, hT⟩ := tyOf_ok ht
  have h1 : starEach [a, .Name t px] X.env = (false, eval a X.env) :: starEach [.Name t px] X.env := star_no hs
  have av : ∀ {T : Value}, CallR X T (fun _ _ _ => False) := fun _ _ _ _ _ _ _ _ _ h => h.elim
  refine run_one ha (fun _ => isiO_nx) (fun x d h Φ q da => ?_) (fun Ξ h => dr_cB A G (id := "isinstance") av rfl (by rw [Bool.and_eq_true] at hg; rw [hg.2]; rfl) h1 rfl (dra_head h1 h))
  unfold isiO at h
  split at h
  · rename_i hc
    cases h
    exact de_isi A G hT hg h1 (da _ ⟨okc_no hc, q⟩)
  · cases h
theorem run_isi2 {t t2 : Str} {g g2 : Ty} {px px2 pt : Pos} {kk : Nat} {oa : Out D} (A : At X P w K mg base tb names k) (G : NoB mg) (ht : tyOf t = some g) (ht2 : tyOf t2 = some g2) (hg : (glB names t && glB names "isinstance" && glB names t2) = true) (hs : isStar a = false) (ha : RunE cls X W a ρ S oa) :
    RunE cls X W (.Call (.Name "isinstance" p) [a, .Tuple [.Name t px, .Name t2 px2] kk pt] [] pos) ρ S (oa.bind (isiO fun x => tyB g x || tyB g2 x)) := by
  obtain ⟨T, hT⟩ := tyOf_ok ht
  obtain ⟨T2, hT2⟩ := tyOf_ok ht2
  have h1 : starEach [a, .Tuple [.Name t px, .Name t2 px2] kk pt] X.env = (false, eval a X.env) :: starEach [.Tuple [.Name t px, .Name t2 px2] kk pt] X.env := star_no hs
  have av : ∀ {T : Value}, CallR X T (fun _ _ _ => False) := fun _ _ _ _ _ _ _ _ _ h => h.elim
  refine run_one ha (fun _ => isiO_nx) (fun x d h Φ q da => ?_) (fun Ξ h => dr_cB A G (id := "isinstance") av rfl (by rw [Bool.and_eq_true, Bool.and_eq_true] at hg; rw [hg.1.2]; rfl) h1 rfl (dra_head h1 h))
  unfold isiO at h
  split at h
  · rename_i hc
    cases h
    exact de_isi2 A G hT hT2 hg h1 (da _ ⟨okc_no hc, q⟩)
  · cases h
/-! methods of texts -/
def joinO (a : Str) : D → Out D
  | .lst l => match asStrs l with
    | some ys => if Nat.ble ((ys.map (·.length)).sum + ys.length * a.length) 1000000 then .ok (.str (Txt.join a ys)) else .bad
    | none => .bad
  | _ => .bad
theorem joinO_nx {z : Str} {y : D} : ∀ c, joinO z y ≠ .ex c := fun c h => by
  unfold joinO at h
  split at h <;> (try split at h) <;> (try split at h) <;> cases h
def sindexO : D → D → Out D
  | .str a, .str b => match Builtin.Str.occurrences a b 0 a.length 1 with
    | i :: _ => .ok (.int ((i : Nat) : Int))
    | [] => .bad
  | _, _ => .bad
theorem sindexO_nx {x y : D} : ∀ c, sindexO x y ≠ .ex c := fun c h => by
  unfold sindexO at h
  split at h <;> (try split at h) <;> cases h
theorem dr_joinR {o : Expr} {apos : Pos} {Ξ : Xi} (hs : starEach [e] X.env = [(false, eval e X.env)]) (hbase : attributeBase o "join" X.env (eval o X.env) = eval o X.env) (hline : (apos.endLine == pos.line) = true)
    (h : DE X o ρ S fun c S1 => (∃ z, c = .str z) ∧ DR X W e ρ S1 Ξ) : DR X W (.Call (.Attribute o "join" apos) [e] [] pos) ρ S Ξ :=
  DR.of (pe_join pe_w pe_w hs hbase hline) fun Zh σ H Q ev P => h.bind ev fun v H1 c S1 k1 g1 E1 r1 h2 => by
    obtain ⟨⟨z, rfl⟩, h2⟩ := h2
    exact ⟨⟨z, r1.str⟩, h2.tw E1 (P.next k1 g1)⟩
def isStrO : D → Out Str
  | .str z => .ok z
  | _ => .bad
theorem run_join {o : Expr} {apos : Pos} {oa ob : Out D} (hs : isStar b = false) (hb0 : isCl o = false) (hline : (apos.endLine == pos.line) = true) (ha : RunE cls X W o ρ S oa) (hb : RunE cls X W b ρ S ob) :
    RunE cls X W (.Call (.Attribute o "join" apos) [b] [] pos) ρ S (oa.nx.bind fun x => (isStrO x).bind fun z => ob.bind fun y => joinO z y) := by
  cases oa with
  | bad => exact RunE.bad
  | ex _ => exact RunE.bad
  | ok x =>
    cases x <;> first | exact RunE.bad | skip
    case str z =>
      show RunE cls X W _ ρ S (ob.bind fun y => joinO z y)
      refine run_one hb (fun _ => joinO_nx) (fun y d h Φ q db => ?_) fun Ξ h => dr_joinR (star1 hs) (base_no hb0) hline (ha.deOf ⟨⟨z, rfl⟩, h⟩)
      unfold joinO at h
      split at h
      · split at h
        · rename_i ys hy
          split at h
          · rename_i hz
            cases h
            refine de_join (star1 hs) (base_no hb0) hline (ha.deOf ⟨z, rfl, db _ ⟨ys, by rw [asStrs_eq hy], ?_, q⟩⟩)
            exact Nat.le_trans (Nat.le_of_ble_eq_true hz) (by decide)
          · cases h
        · cases h
      · cases h
theorem run_sindex {o : Expr} {apos : Pos} {oa ob : Out D} (hs : isStar b = false) (hb0 : isCl o = false) (hline : (apos.endLine == pos.line) = true) (ha : RunE cls X W o ρ S oa) (hb : RunE cls X W b ρ S ob) :
    RunE cls X W (.Call (.Attribute o "index" apos) [b] [] pos) ρ S (oa.nx.bind fun x => ob.nx.bind fun y => sindexO x y) := by
  cases oa with
  | bad => exact RunE.bad
  | ex _ => exact RunE.bad
  | ok x =>
    cases ob with
    | bad => exact RunE.bad
    | ex _ => exact RunE.bad
    | ok y =>
      show RunE cls X W _ ρ S (sindexO x y)
      cases hg : sindexO x y with
      | bad => exact RunE.bad
      | ex c => exact absurd hg (sindexO_nx c)
      | ok d =>
        refine RunE.de fun Φ q => ?_
        unfold sindexO at hg
        split at hg
        · split at hg
          · rename_i i rest hi
            cases hg
            exact de_sindex (star1 hs) (base_no hb0) hline (ha.deOf ⟨_, rfl, hb.deOf ⟨_, _, _, rfl, hi, q⟩⟩)
          · cases hg
        · cases hg
end
end Ar
namespace Ar
open PySem PySem.Spec PyProof.Rows L2
/-! ### the tables, names, calls -/
structure IT where
  call : Str → List D → Out D
  ar : List (Str × Nat)
  gv : List (Str × D)
  gd : List (Str × List (Str × D))
  kw : List (Str × List Str × List Nat)
def kwFind : List (Str × List Str × List Nat) → Str → List Str → Option (List Nat)
  | [], _, _ => none
  | (y, l, pm) :: r, x, ks => if x == y && ks == l then some pm else kwFind r x ks
def permL {α : Type} (pm : List Nat) (l : List α) : List α := pm.filterMap fun i => l[i]?
/-- a call by keywords binds as one by place -/
def KwOk (K : PySem.W.Frag) (mg : Str → Option Value) (x : Str) (ks : List Str) (pm : List Nat) : Prop := ∃ f fd, mg x = some (.ref f) ∧ FdAt K f fd ∧ ∀ ws : List Value, ws.length = ks.length → bindArgs fd ⟨[], ks.zip ws⟩ = bindArgs fd ⟨permL pm ws, []⟩
def isLstD : D → Bool
  | .lst _ => true
  | _ => false
def cRun (call : Str → List D → Out D) (x : Str) : Spec := fun ds S Φ => ∃ d, call x ds = .ok d ∧ isLstD d = false ∧ FlatS S ∧ Φ d S
def cRunN (call : Str → List D → Out D) (x : Str) : SpecN := fun ds S Φ => ∃ l, call x ds = .ok (.lst l) ∧ FlatS S ∧ Φ l S
def cRunR (cls : Cls) (call : Str → List D → Out D) (x : Str) : SpecR := fun ds S Ξ => ∃ c a, call x ds = .ex c ∧ cls c = some a ∧ FlatS S ∧ Ξ (.ref a) S
structure CallOk (cls : Cls) (T : IT) (P : Program) (w : World) (K : PySem.W.Frag) (mg : Str → Option Value) (base : Heap) (j : Nat) : Prop where
  v : ∀ x n, T.ar.lookup x = some n → Fn P w K mg base x n j (cRun T.call x)
  n : ∀ x n, T.ar.lookup x = some n → FnN P w K mg base x n j (cRunN T.call x)
  r : ∀ x n, T.ar.lookup x = some n → FnR P w K mg base x n j (cRunR cls T.call x)
structure GlobOk (T : IT) (w : World) (K : PySem.W.Frag) (mg : Str → Option Value) : Prop where
  nob : NoB mg
  gv : ∀ x d, T.gv.lookup x = some d → GlobD K mg x d
  gd : ∀ x f, T.gd.lookup x = some f → DictG K w mg x fun z => f.lookup z
  kw : ∀ x ks pm, kwFind T.kw x ks = some pm → KwOk K mg x ks pm
section
variable {cls : Cls} {X : Cx} {W : WX} {ρ : Ro} {S : Sto} {e a b c : Expr} {es : List Expr} {pos p : Pos} {P : Program} {w : World} {K : PySem.W.Frag} {mg : Str → Option Value} {base : Heap} {tb : List (Str × Nat)} {names : List (Str × NameKind)} {k j : Nat} {T : IT}
theorem RunA.daOf {ds : List D} {Φ : List D → Sto → Prop} (h : RunA cls X W es ρ S (.ok ds)) (hl : ds.length = es.length) (q : Φ ds S) : DA X es ρ S Φ := fun Zh pos pins s σ H Q I E P => h Zh pos pins s σ H Q I E fun v H' g s' r => P v H' ds S rfl g s' r hl q
theorem RunA.draOf {c : Str} {a : Addr} {Ξ : Xi} (h : RunA cls X W es ρ S (.ex c)) (hc : cls c = some a) (q : Ξ (.ref a) S) : DRA X W es ρ S Ξ := fun Zh pos pins s σ H Q I E P => h Zh pos pins s σ H Q I E ⟨a, hc, fun H' g s' => P _ H' S rfl g s' q⟩
theorem Store.unhide {K : PySem.W.Frag} {Zh : List Addr} {H : Hp} {S : Sto} {c : Addr} (s : Store K ([c] ++ Zh) H S) : Store K Zh H S := ⟨s.nd, fun p l m => by
  obtain ⟨vs, h1, h2⟩ := s.st p l m
  refine ⟨vs, h1, h2.shrink fun q hq => ?_⟩
  rcases List.mem_append.mp hq with z | z
  · exact List.mem_append_left _ z
  · exact List.mem_append_right _ (List.mem_append_right _ z), fun p m => s.hid p (List.mem_append_right _ m)⟩
theorem DE.ofN {Φ : D → Sto → Prop} (h : DN X e ρ S fun l S1 => Φ (.lst l) S1) : DE X e ρ S Φ := fun Zh pins s σ H Q I E P => h Zh pins s σ H Q I E fun c vs H' l S' k g s' hc h1 r q => by
  refine P (.ref c) H' (.lst l) S' k g s'.unhide ?_ q
  unfold Rep
  refine ⟨c, vs, rfl, E.st.free hc, h1, r.shrink fun q hq => ?_⟩
  rcases List.mem_append.mp hq with z | z
  · exact List.mem_append_left _ z
  · exact List.mem_append_right _ (List.mem_append_right _ z)
def nameO (T : IT) (tb : List (Str × Nat)) (names : List (Str × NameKind)) (x : Str) (η : En) : Out D := match tb.lookup x with
  | some i => if plainName x && visB (names.lookup x) then match η[i]? with
      | some (some d) => .ok d
      | _ => .bad
    else .bad
  | none => if glB names x then match T.gv.lookup x with
      | some d => .ok d
      | none => .bad
    else .bad
theorem run_name {x : Str} {η : En} (A : At X P w K mg base tb names k) (G : GlobOk T w K mg) (hη : EnR η ρ) : RunE cls X W (.Name x pos) ρ S (nameO T tb names x η) := by
  unfold nameO
  split
  · rename_i i hi
    split
    · rename_i hv
      split
      · rename_i d hd
        exact RunE.de fun Φ q => vName A ⟨hi, hv⟩ ⟨d, hη i d hd, q⟩
      · exact RunE.bad
    · exact RunE.bad
  · split
    · rename_i hg
      split
      · rename_i d hd
        exact RunE.de fun Φ q => de_glob A (G.gv _ _ hd) hg q
      · exact RunE.bad
    · exact RunE.bad
theorem run_call {x : Str} {n : Nat} {oa : Out (List D)} (A : At X P w K mg base tb names k) (tk : Takes X W) (F : CallOk cls T P w K mg base j) (hj : j ≤ k) (hS : FlatS S) (hx : T.ar.lookup x = some n) (hn : Nat.beq (e :: es).length n = true) (hg : glB names x = true) (hs : noStar (e :: es) = true)
    (ha : RunA cls X W (e :: es) ρ S oa) (hl : ∀ l, oa = .ok l → l.length = (e :: es).length) : RunE cls X W (.Call (.Name x p) (e :: es) [] pos) ρ S (oa.bind fun ds => T.call x ds) := by
  obtain ⟨h1, h2⟩ := noStar_cons hs
  have he := star_no (es := es) (env := X.env) h1
  have hpl := star_pl (env := X.env) (pos := pos) h2
  have hjk := Nat.ble_eq.mpr hj
  cases oa with
  | bad => exact RunE.bad
  | ex c =>
    intro Zh pins s σ H Q I E q
    obtain ⟨a', e1, h3⟩ := q
    refine dr_callA A (F.v x n hx) ⟨hg⟩ (by rw [hjk, hn]; rfl) he hpl (ha.draOf (Ξ := fun v S' => v = .ref a' ∧ S' = S) e1 ⟨rfl, rfl⟩) Zh pins s σ H Q I E ?_
    intro v H' S' k g s' q
    obtain ⟨rfl, rfl⟩ := q
    exact h3 H' g s'
  | ok ds =>
    have hl := hl ds rfl
    show RunE cls X W _ ρ S (T.call x ds)
    cases hc : T.call x ds with
    | bad => exact RunE.bad
    | ex c =>
      intro Zh pins s σ H Q I E q
      obtain ⟨a, ha', h1⟩ := q
      refine dr_call A tk (F.r x n hx) ⟨hg⟩ (by rw [hjk, hn]; rfl) he hpl (ha.daOf (Φ := fun ds S1 => cRunR cls T.call x ds S1 fun v S' => v = .ref a ∧ S' = S) hl ⟨c, a, hc, ha', hS, rfl, rfl⟩) Zh pins s σ H Q I E ?_
      intro v H' S' k g s' q
      obtain ⟨rfl, rfl⟩ := q
      exact h1 H' g s'
    | ok d =>
      cases hd : isLstD d with
      | false => exact RunE.de fun Φ q => de_call A (F.v x n hx) (by rw [hjk, hn, hg]; rfl) he hpl (ha.daOf hl ⟨d, hc, hd, hS, q⟩)
      | true =>
        cases d <;> first | (cases hd; done) | skip
        case lst l => exact RunE.de fun Φ q => .ofN (dn_call A (F.n x n hx) (by rw [hjk, hn, hg]; rfl) he hpl (ha.daOf hl ⟨l, hc, hS, q⟩))
/-! calls by keywords -/
def RunK (cls : Cls) (X : Cx) (W : WX) (kws : List Keyword) (ρ : Ro) (S : Sto) (o : Out (List D)) : Prop :=
  ∀ (Zh : List Addr) (pos : Pos) (pins : List (Addr × Obj)) (s : Shared) (σ : L2.St) (H : Hp) (Q : List V → Hp → Prop), Inv X pins σ H s → Ev X.K Zh H σ ρ S → POL cls W X.K Zh σ H S Q o → wpAny (model X.prog X.w) X.A (evalAll ((backToKw pos (keywordEach kws X.env)).map (·.2))) (AP X pins σ Q) X.xe s
def tkW (X : Cx) (kws : List Keyword) : TA := fun σ H Q => ∀ pos pins s, Inv X pins σ H s → wpAny (model X.prog X.w) X.A (evalAll ((backToKw pos (keywordEach kws X.env)).map (·.2))) (AP X pins σ Q) X.xe s
theorem pk_w {kws : List Keyword} : PK X kws (tkW X kws) := ⟨fun pos pins s σ H Q I h => h pos pins s I⟩
theorem RunK.tw {kws : List Keyword} {o : Out (List D)} {Zh : List Addr} {σ : L2.St} {H : Hp} {Q : List V → Hp → Prop} (h : RunK cls X W kws ρ S o) (E : Ev X.K Zh H σ ρ S) (q : POL cls W X.K Zh σ H S Q o) : tkW X kws σ H Q := fun pos pins s I => h Zh pos pins s σ H Q I E q
theorem RunK.of {kws : List Keyword} {t : TA} {o : Out (List D)} (p : PK X kws t) (h : ∀ Zh σ H Q, Ev X.K Zh H σ ρ S → POL cls W X.K Zh σ H S Q o → t σ H Q) : RunK cls X W kws ρ S o := fun Zh pos pins s σ H Q I E q => p.run pos pins s σ H Q I (h Zh σ H Q E q)
theorem runK_nil : RunK cls X W [] ρ S (.ok []) := RunK.of pk_nil fun Zh σ H Q E P => P [] H Grow.refl E.st .nil
theorem runK_cons {nm : Option Str} {kp : Pos} {kws : List Keyword} {oa : Out D} {ob : Out (List D)} (ha : RunE cls X W e ρ S oa) (hb : RunK cls X W kws ρ S ob) : RunK cls X W (⟨nm, e, kp⟩ :: kws) ρ S (oa.bind fun x => ob.bind fun l => .ok (x :: l)) :=
  RunK.of (pk_cons pe_w pk_w) fun Zh σ H Q E P => ha.bindL E P fun x v H1 _ g1 E1 r1 P1 => by
    cases ob with
    | ok l => exact hb.tw E1 fun vs H2 g2 s2 r2 => P1 (v :: vs) H2 g2 s2 (.cons (E1.st.gr g2 r1) r2)
    | ex c => exact hb.tw E1 P1
    | bad => exact P1.elim
theorem kw_all {kws : List Keyword} {env : Env} {pos : Pos} : (backToKw pos (keywordEach kws env)).all (·.1.isSome) = kws.all (·.arg.isSome) := by
  induction kws with
  | nil => rfl
  | cons k kws ih =>
    obtain ⟨a, b, c⟩ := k
    show (a.isSome && (backToKw pos (keywordEach kws env)).all (·.1.isSome)) = _
    rw [ih]
    rfl
theorem kw_any {kws : List Keyword} {env : Env} {pos : Pos} (h : kws.all (·.arg.isSome) = true) : (backToKw pos (keywordEach kws env)).any (·.1.isNone) = false := by
  induction kws with
  | nil => rfl
  | cons k kws ih =>
    obtain ⟨a, b, c⟩ := k
    rw [List.all_cons, Bool.and_eq_true] at h
    show (a.isNone || (backToKw pos (keywordEach kws env)).any (·.1.isNone)) = false
    rw [ih h.2]
    cases a with
    | none => cases h.1
    | some _ => rfl
theorem kw_names {kws : List Keyword} {env : Env} {pos : Pos} : (backToKw pos (keywordEach kws env)).filterMap (·.1) = kws.filterMap (·.arg) := by
  induction kws with
  | nil => rfl
  | cons k kws ih =>
    obtain ⟨a, b, c⟩ := k
    show List.filterMap (·.1) ((a, _) :: backToKw pos (keywordEach kws env)) = List.filterMap (·.arg) ((⟨a, b, c⟩ : Keyword) :: kws)
    rw [List.filterMap_cons, List.filterMap_cons, ih]
theorem Vals.perm {vs : List V} {us : List Value} (h : Vals vs us) : ∀ pm : List Nat, Vals (permL pm vs) (permL pm us) := by
  have at' : ∀ i : Nat, (vs[i]? = none ∧ us[i]? = none) ∨ ∃ v u, vs[i]? = some v ∧ us[i]? = some u ∧ RelV v u := by
    induction h with
    | nil => exact fun i => .inl ⟨rfl, rfl⟩
    | cons a b ih =>
      intro i
      cases i with
      | zero => exact .inr ⟨_, _, rfl, rfl, a⟩
      | succ i => exact ih i
  intro pm
  induction pm with
  | nil => exact .nil
  | cons i pm ih =>
    unfold permL at ih ⊢
    rw [List.filterMap_cons, List.filterMap_cons]
    rcases at' i with ⟨e1, e2⟩ | ⟨v, u, e1, e2, r⟩
    · rw [e1, e2]
      exact ih
    · rw [e1, e2]
      exact .cons r ih
theorem RepL.perm {Z : List Addr} {H : Hp} {ds : List D} {vs : List V} (h : RepL K Z H ds vs) (pm : List Nat) : RepL K Z H (permL pm ds) (permL pm vs) := by
  induction pm with
  | nil => exact .nil
  | cons i pm ih =>
    unfold permL at ih ⊢
    rw [List.filterMap_cons, List.filterMap_cons]
    cases e : ds[i]? with
    | none =>
      have : vs[i]? = none := by
        cases e2 : vs[i]? with
        | none => rfl
        | some v =>
          obtain ⟨d, e3, _⟩ := h.get2 e2
          rw [e] at e3
          cases e3
      rw [this]
      exact ih
    | some d =>
      obtain ⟨v, e2, r⟩ := h.get e
      rw [e2]
      exact .cons r ih
theorem pe_callKW {CX : CXT} {kws : List Keyword} {ks ps : List Str} {pm : List Nat} {f : Addr} {fd : FuncData} {sp : Sp} {x : Str} {tk : TA} {E : L2.St → XK} (F : FnOk X.prog X.w X.K X.mg X.base CX k f fd ps sp) (hr : Room k X.A) (hg : Gl X x) (hm : X.mg x = some (.ref f)) (hk : PySem.W.keepIn X.K (.ref f) = true) (hb : Binds X.K fd ps [])
    (kb : ∀ ws : List Value, ws.length = ks.length → bindArgs fd ⟨[], ks.zip ws⟩ = bindArgs fd ⟨permL pm ws, []⟩) (hx : ∀ σ, PassesAt CX X σ (E σ)) (hkw : PK X kws tk) (hall : kws.all (·.arg.isSome) = true) (hks : kws.filterMap (·.arg) = ks) (hdb : (x == ("__debug__" : Str)) = false) :
    PE X (.Call (.Name x p) [] kws pos) (fun σ H Q => tk σ H fun zs H1 => zs.length = ks.length ∧ sp (permL pm zs) H1 Q (E σ)) := by
  refine ⟨fun pins s σ H Q I h => ?_⟩
  refine wpAny_Call_Name_kw (ld_glob I hg hm ?_ hdb)
  refine PySem.W.callWith_KW0 (h₀ := X.base) I.ok.mod.kin hk (by rw [kw_all]; exact hall) (thn (hkw.run pos pins s σ H _ I h) fun ws s2 ⟨zs, H2, I2, rz, q2⟩ => ⟨I2.kIn, ?_⟩) (by rw [kw_any hall]; rfl)
  rw [kw_names, hks]
  obtain ⟨hlz, q2⟩ := q2
  have rp := Vals.perm rz pm
  have hl : (permL pm ws).length = ps.length := by rw [← rp.length]; exact F.len _ _ _ _ q2
  have b := hb s2 (permL pm ws) I2.kIn (by rw [List.append_nil]; exact hl)
  rw [List.append_nil] at b
  have b2 : BindsTo s2 fd ⟨[], ks.zip ws⟩ (ps.zip (permL pm ws)) := by
    unfold BindsTo at b ⊢
    rw [kb ws (by rw [← rz.length]; exact hlz)]
    exact b
  refine wpAny_call (codeAny_mono (F.run X.A X.stack s2 H2 ⟨[], ks.zip ws⟩ (permL pm ws) (permL pm zs) Q (E σ) hr I2.env0 b2 rp q2) fun r s' hq => ?_)
  cases r with
  | error e => exact hx σ pins H2 s2 e s' I2 hq
  | ok fl =>
    cases fl with
    | ret u => exact I2.after hq
    | next => exact False.elim hq
    | brk => exact False.elim hq
    | cont => exact False.elim hq
theorem run_callK {x : Str} {n : Nat} {kws : List Keyword} {ks : List Str} {pm : List Nat} {oa : Out (List D)} (A : At X P w K mg base tb names k) (tk : Takes X W) (F : CallOk cls T P w K mg base j) (hj : j ≤ k) (hS : FlatS S) (hx : T.ar.lookup x = some n) (kw : KwOk K mg x ks pm) (hks : kws.filterMap (·.arg) = ks) (hall : kws.all (·.arg.isSome) = true) (hg : glB names x = true)
    (ha : RunK cls X W kws ρ S oa) : RunE cls X W (.Call (.Name x p) [] kws pos) ρ S (oa.bind fun ds => if Nat.beq ds.length ks.length && Nat.beq (permL pm ds).length n then T.call x (permL pm ds) else .bad) := by
  have gg := glB_of hg
  obtain ⟨f0, fd0, m0, a0, kb0⟩ := kw
  have FV := F.v x n hx
  have FN := F.n x n hx
  have FR := F.r x n hx
  cases A.prog
  cases A.w
  cases A.K
  cases A.mg
  cases A.base
  obtain ⟨f, fd, ps, F1, m, kp, b, _, fa⟩ := FV.ex
  rw [m0] at m
  cases m
  cases a0.one fa
  cases oa with
  | bad => exact RunE.bad
  | ex c => exact RunE.of (pe_callKW (E := fun _ => E0) F1 (A.room.mono hj) (A.gl _ gg.2) m0 kp b kb0 (fun σ _ _ _ _ _ _ h => h.elim) pk_w hall hks (plain1 gg.1).1) fun Zh σ H Q E P => ha.tw E P
  | ok ds =>
    show RunE cls X W _ ρ S (if Nat.beq ds.length ks.length && Nat.beq (permL pm ds).length n then T.call x (permL pm ds) else .bad)
    split
    · rename_i hh
      rw [Bool.and_eq_true] at hh
      have h1 := Nat.eq_of_beq_eq_true hh.1
      have h2 := Nat.eq_of_beq_eq_true hh.2
      cases hc : T.call x (permL pm ds) with
      | bad => exact RunE.bad
      | ex c =>
        obtain ⟨f', fd', ps', F2, m', kp', b', _, fa'⟩ := FR.ex
        rw [m0] at m'
        cases m'
        cases fa.one fa'
        exact RunE.of (pe_callKW F2 (A.room.mono hj) (A.gl _ gg.2) m0 kp' b' kb0 (fun σ => passAt tk σ) pk_w hall hks (plain1 gg.1).1) fun Zh σ H Q E P => ha.tw E fun vs H1 g1 s1 r1 => by
          obtain ⟨a, e, P⟩ := P
          refine ⟨by rw [r1.length]; exact h1, by rw [(r1.perm pm).length]; exact h2, Zh, permL pm ds, S, fun v S' => v = .ref a ∧ S' = S, s1, r1.perm pm, ⟨c, a, hc, e, hS, rfl, rfl⟩, fun c' H' S' k' g' s' q => ?_⟩
          obtain ⟨rfl, rfl⟩ := q
          exact P H' (g1.trans g') s'
      | ok d =>
        cases hd : isLstD d with
        | false =>
          exact RunE.of (pe_callKW (E := fun _ => E0) F1 (A.room.mono hj) (A.gl _ gg.2) m0 kp b kb0 (fun σ _ _ _ _ _ _ h => h.elim) pk_w hall hks (plain1 gg.1).1) fun Zh σ H Q E P => ha.tw E fun vs H1 g1 s1 r1 => by
            refine ⟨by rw [r1.length]; exact h1, by rw [(r1.perm pm).length]; exact h2, Zh, permL pm ds, S, fun d' S' => d' = d ∧ S' = S, s1, r1.perm pm, ⟨d, hc, hd, hS, rfl, rfl⟩, ?_⟩
            intro v H' d' S' k' g' s' r' q
            obtain ⟨rfl, rfl⟩ := q
            exact P v H' (g1.trans g') s' r'
        | true =>
          cases d <;> first | (cases hd; done) | skip
          case lst l =>
            obtain ⟨f', fd', ps', F2, m', kp', b', _, fa'⟩ := FN.ex
            rw [m0] at m'
            cases m'
            cases fa.one fa'
            exact RunE.of (pe_callKW (E := fun _ => E0) F2 (A.room.mono hj) (A.gl _ gg.2) m0 kp' b' kb0 (fun σ _ _ _ _ _ _ h => h.elim) pk_w hall hks (plain1 gg.1).1) fun Zh σ H Q E P => ha.tw E fun vs H1 g1 s1 r1 => by
              refine ⟨by rw [r1.length]; exact h1, by rw [(r1.perm pm).length]; exact h2, Zh, permL pm ds, S, fun l' S' => l' = l ∧ S' = S, s1, r1.perm pm, ⟨l, hc, hS, rfl, rfl⟩, ?_⟩
              intro c vs' H' l' S' k' g' s' hc0 h1' r' q
              obtain ⟨rfl, rfl⟩ := q
              refine P (.ref c) H' (g1.trans g') s'.unhide ?_
              unfold Rep
              refine ⟨c, vs', rfl, s1.free hc0, h1', r'.shrink fun q hq => ?_⟩
              rcases List.mem_append.mp hq with z | z
              · exact List.mem_append_left _ z
              · exact List.mem_append_right _ (List.mem_append_right _ z)
    · exact RunE.bad
end
end Ar
namespace Ar
open PySem PySem.Spec PyProof.Rows L2
/-! ### targets -/
def bindTs (f : Expr → D → En → Option En) : List Expr → List D → En → Option En
  | [], [], η => some η
  | t :: ts, d :: ds, η => match f t d η with
    | some η1 => bindTs f ts ds η1
    | none => none
  | _, _, _ => none
def bindT (tb : List (Str × Nat)) (names : List (Str × NameKind)) (ok : Nat → Bool) : Nat → Expr → D → En → Option En
  | 0, _, _, _ => none
  | n + 1, t, d, η => match t with
    | .Name x _ => match tb.lookup x with
      | some i => if stB (names.lookup x) && ok i then some (η.set i (some d)) else none
      | none => none
    | .Tuple ts _ _ => match d with
      | .tup l => if Nat.beq l.length ts.length && noStar ts then bindTs (bindT tb names ok n) ts l η else none
      | _ => none
    | _ => none
theorem EnR.set {η : En} {ρ : Ro} {i : Nat} {d : D} (hl : η.length ≤ ρ.length) (h : EnR η ρ) : EnR (η.set i (some d)) (ρ.set i (some d)) := fun j c hc => by
  by_cases e : i = j
  · subst e
    by_cases hi : i < η.length
    · rw [List.getElem?_set_self hi] at hc
      rw [List.getElem?_set_self (by omega)]
      exact hc
    · rw [List.getElem?_eq_none (by rw [List.length_set]; omega)] at hc
      cases hc
  · rw [List.getElem?_set_ne e] at hc
    rw [List.getElem?_set_ne e]
    exact h j c hc
structure EnL (η : En) (ρ : Ro) : Prop where
  r : EnR η ρ
  l : η.length ≤ ρ.length
theorem EnL.set {η : En} {ρ : Ro} {i : Nat} {d : D} (h : EnL η ρ) : EnL (η.set i (some d)) (ρ.set i (some d)) := ⟨h.r.set h.l, by rw [List.length_set, List.length_set]; exact h.l⟩
theorem asg_len {env : Env} : ∀ {ts : List Expr}, (assignEach ts env).length = ts.length
  | [] => rfl
  | t :: ts => by
    cases t <;> (show (assignEach ts env).length + 1 = ts.length + 1; rw [asg_len])
theorem asg_find {env : Env} : ∀ {ts : List Expr}, noStar ts = true → (assignEach ts env).findIdx? (·.1) = none
  | [], _ => rfl
  | t :: ts, h => by
    obtain ⟨h1, h2⟩ := noStar_cons h
    have ih := asg_find (env := env) h2
    have e : assignEach (t :: ts) env = (false, assign t env) :: assignEach ts env := by
      cases t <;> first | rfl | cases h1
    rw [e, List.findIdx?_cons]
    simp [ih]
theorem asg_cons {env : Env} {t : Expr} {ts : List Expr} (h : isStar t = false) : (assignEach (t :: ts) env).map (·.2) = assign t env :: (assignEach ts env).map (·.2) := by
  cases t <;> first | rfl | cases h
section
variable {X : Cx} {ρ : Ro} {S : Sto} {P : Program} {w : World} {K : PySem.W.Frag} {mg : Str → Option Value} {base : Heap} {tb : List (Str × Nat)} {names : List (Str × NameKind)} {k : Nat} {pos : Pos} {ok : Nat → Bool}
theorem bindTs_ok {f : Expr → D → En → Option En} (hf : ∀ t d η η1 ρ, EnL η ρ → f t d η = some η1 → ∀ Φ : Ro → Sto → Prop, (∀ ρ1, EnL η1 ρ1 → Φ ρ1 S) → DG X ok t d ρ S Φ) : ∀ {ts : List Expr} {ds : List D} {η η1 : En} {ρ : Ro}, noStar ts = true → EnL η ρ → bindTs f ts ds η = some η1 → ∀ Φ : Ro → Sto → Prop, (∀ ρ1, EnL η1 ρ1 → Φ ρ1 S) → DGs X ok ts ds ρ S Φ
  | [], [], η, η1, ρ, _, hη, h, Φ, q => by
    cases h
    exact dgs_nil (q ρ hη)
  | [], _ :: _, _, _, _, _, _, h, _, _ => by cases h
  | _ :: _, [], _, _, _, _, _, h, _, _ => by cases h
  | t :: ts, d :: ds, η, η1, ρ, hs, hη, h, Φ, q => by
    obtain ⟨h1, h2⟩ := noStar_cons hs
    unfold bindTs at h
    split at h
    · rename_i η2 h3
      exact dgs_cons (asg_cons h1) (hf t d η η2 ρ hη h3 _ fun ρ1 r1 => bindTs_ok hf h2 r1 h Φ q)
    · cases h
theorem bindT_ok (A : At X P w K mg base tb names k) : ∀ (n : Nat) (t : Expr) (d : D) (η η1 : En) (ρ : Ro), EnL η ρ → bindT tb names ok n t d η = some η1 → ∀ Φ : Ro → Sto → Prop, (∀ ρ1, EnL η1 ρ1 → Φ ρ1 S) → DG X ok t d ρ S Φ
  | 0, _, _, _, _, _, _, h, _, _ => by cases h
  | n + 1, t, d, η, η1, ρ, hη, h, Φ, q => by
    unfold bindT at h
    split at h
    · split at h
      · rename_i i hi
        split at h
        · rename_i hs
          cases h
          exact dg_name A ⟨i, hi, hs, q _ hη.set⟩
        · cases h
      · cases h
    · split at h
      · split at h
        · rename_i l hs
          rw [Bool.and_eq_true] at hs
          exact dg_tup A asg_len (asg_find hs.2) ⟨l, rfl, hs.1, bindTs_ok (fun t d η η1 ρ hη h Φ q => bindT_ok A n t d η η1 ρ hη h Φ q) hs.2 hη h Φ q⟩
        · cases h
      · cases h
    · cases h
end
/-! ### what is gone through -/
def POI (cls : Cls) (W : WX) (K : PySem.W.Frag) (Zh : List Addr) (σ : L2.St) (H : Hp) (S : Sto) (R : It → Hp → Prop) : Out (List D) → Prop
  | .ok ds => ∀ J H', Grow (keys S) H H' → Store K Zh H' S → ItOk K Zh S H' ds J → R J H'
  | .ex c => ∃ a, cls c = some a ∧ ∀ H', Grow (keys S) H H' → Store K Zh H' S → W (.ref a) none σ H'
  | .bad => False
def RunI (cls : Cls) (X : Cx) (W : WX) (tg iter : Expr) (ρ : Ro) (S : Sto) (o : Out (List D)) : Prop :=
  ∀ (Zh : List Addr) (pins : List (Addr × Obj)) (s : Shared) (σ : L2.St) (H : Hp) (R : It → Hp → Prop), Inv X pins σ H s → Ev X.K Zh H σ ρ S → POI cls W X.K Zh σ H S R o →
    wpAny (model X.prog X.w) X.A (eval iter X.env) (fun v s1 => wpAny (model X.prog X.w) X.A (pyIter v) (PIE X pins σ tg R) X.xe s1) X.xe s
def itO : D → Out (List D)
  | .tup l => .ok l
  | .lst l => .ok l
  | .frz l => .ok l
  | .str z => .ok (charsD z)
  | _ => .bad
theorem itO_nx {x : D} : ∀ c, itO x ≠ .ex c := fun c h => by
  unfold itO at h
  split at h <;> cases h
def isTupE : Expr → Bool
  | .Tuple .. => true
  | _ => false
def smallI (i : Int) : Bool := decide (-1000000000 ≤ i ∧ i ≤ 1000000000)
theorem small_rng {i : Int} (h : smallI i = true) : RngOk i := by
  have h := of_decide_eq_true h
  exact ⟨by omega, by omega⟩
section
variable {cls : Cls} {X : Cx} {W : WX} {ρ : Ro} {S : Sto} {e a b c : Expr} {es : List Expr} {pos p tpos : Pos} {tg : Expr} {P : Program} {w : World} {K : PySem.W.Frag} {mg : Str → Option Value} {base : Heap} {tb : List (Str × Nat)} {names : List (Str × NameKind)} {k j : Nat} {T : IT}
theorem RunI.bad {iter : Expr} : RunI cls X W tg iter ρ S .bad := fun Zh pins s σ H R I E q => q.elim
theorem RunI.di {iter : Expr} {ds : List D} (h : ∀ Φ : List D → Sto → Prop, Φ ds S → DI X tg iter ρ S Φ) : RunI cls X W tg iter ρ S (.ok ds) := fun Zh pins s σ H R I E q => h (fun ds' S' => ds' = ds ∧ S' = S) ⟨rfl, rfl⟩ Zh pins s σ H R I E fun J H' ds' S' k g s' it q' => by
  obtain ⟨rfl, rfl⟩ := q'
  exact q J H' g s' it
theorem RunI.diOf {iter : Expr} {ds : List D} {Φ : List D → Sto → Prop} (h : RunI cls X W tg iter ρ S (.ok ds)) (q : Φ ds S) : DI X tg iter ρ S Φ := fun Zh pins s σ H R I E k => h Zh pins s σ H R I E fun J H' g s' it => k J H' ds S rfl g s' it q
theorem RunI.exOf {iter : Expr} {c : Str} (h : RunE cls X W iter ρ S (.ex c)) : RunI cls X W tg iter ρ S (.ex c) := fun Zh pins s σ H R I E q =>
  wpAny_mono (h Zh pins s σ H (fun _ _ => False) I E q) (fun v s1 hq => by obtain ⟨_, _, _, _, hq⟩ := hq; exact hq.elim) fun _ _ z => z
theorem runI_plain {o : Out D} (h : RunE cls X W e ρ S o) : RunI cls X W tg e ρ S (o.bind itO) := by
  cases o with
  | bad => exact RunI.bad
  | ex c => exact RunI.exOf h
  | ok x =>
    show RunI cls X W tg e ρ S (itO x)
    cases x <;> first | exact RunI.bad | skip
    case tup l => exact RunI.di fun Φ q => di_tup (h.deOf ⟨l, rfl, q⟩)
    case lst l => exact RunI.di fun Φ q => di_lst (h.deOf ⟨l, rfl, q⟩)
    case frz l => exact RunI.di fun Φ q => di_frz (h.deOf ⟨l, rfl, q⟩)
    case str l => exact RunI.di fun Φ q => di_str (h.deOf ⟨l, rfl, q⟩)
def range1O (x : D) : Out (List D) := match x with
  | .int i => if smallI i then .ok (rangeD 0 i.toNat) else .bad
  | _ => .bad
def range2O (x y : D) : Out (List D) := match x, y with
  | .int i, .int j => if smallI i && smallI j then .ok (rangeD i (j - i).toNat) else .bad
  | _, _ => .bad
def zipO (x y : D) : Out (List D) := match x, y with
  | .tup l, .tup m => .ok (zipD l m)
  | .lst l, .lst m => .ok (zipD l m)
  | .tup l, .lst m => .ok (zipD l m)
  | _, _ => .bad
def enumO (x : D) : Out (List D) := match x with
  | .lst l => .ok (enumD 0 l)
  | _ => .bad
theorem runI_range1 {o : Out D} (A : At X P w K mg base tb names k) (G : NoB mg) (hg : glB names "range" = true) (hs : isStar a = false) (h : RunE cls X W a ρ S o) : RunI cls X W tg (.Call (.Name "range" p) [a] [] pos) ρ S (o.nx.bind range1O) := by
  cases o with
  | bad => exact RunI.bad
  | ex c => exact RunI.bad
  | ok x =>
    show RunI cls X W tg _ ρ S (range1O x)
    unfold range1O
    split
    · split
      · rename_i i hi
        exact RunI.di fun Φ q => vRange1 A G ⟨hg⟩ (star1 hs) (h.deOf ⟨i, rfl, small_rng hi, q⟩)
      · exact RunI.bad
    · exact RunI.bad
theorem runI_range2 {o o2 : Out D} (A : At X P w K mg base tb names k) (G : NoB mg) (hg : glB names "range" = true) (hs : isStar a = false) (hs2 : isStar b = false) (h : RunE cls X W a ρ S o) (h2 : RunE cls X W b ρ S o2) : RunI cls X W tg (.Call (.Name "range" p) [a, b] [] pos) ρ S (o.nx.bind fun x => o2.nx.bind fun y => range2O x y) := by
  have e2 : starEach [b] X.env = [(false, eval b X.env)] := star_no hs2
  have e1 : starEach (a :: [b]) X.env = (false, eval a X.env) :: starEach [b] X.env := star_no hs
  cases o with
  | bad => exact RunI.bad
  | ex c => exact RunI.bad
  | ok x =>
    cases o2 with
    | bad => exact RunI.bad
    | ex c => exact RunI.bad
    | ok y =>
      show RunI cls X W tg _ ρ S (range2O x y)
      unfold range2O
      split
      · split
        · rename_i i j hi
          rw [Bool.and_eq_true] at hi
          exact RunI.di fun Φ q => vRange2 A G ⟨hg⟩ (by rw [e1, e2]) e2 e1 (h.deOf (h2.deOf ⟨i, j, rfl, rfl, small_rng hi.1, small_rng hi.2, q⟩))
        · exact RunI.bad
      · exact RunI.bad
theorem runI_zip {elts : List Expr} {kk : Nat} {o o2 : Out D} (A : At X P w K mg base tb names k) (G : NoB mg) (hg : glB names "zip" = true) (hs : isStar a = false) (hs2 : isStar b = false) (h : RunE cls X W a ρ S o) (h2 : RunE cls X W b ρ S o2) : RunI cls X W (.Tuple elts kk tpos) (.Call (.Name "zip" p) [a, b] [] pos) ρ S (o.nx.bind fun x => o2.nx.bind fun y => zipO x y) := by
  have e2 : starEach [b] X.env = [(false, eval b X.env)] := star_no hs2
  have e1 : starEach (a :: [b]) X.env = (false, eval a X.env) :: starEach [b] X.env := star_no hs
  cases o with
  | bad => exact RunI.bad
  | ex c => exact RunI.bad
  | ok x =>
    cases o2 with
    | bad => exact RunI.bad
    | ex c => exact RunI.bad
    | ok y =>
      show RunI cls X W _ _ ρ S (zipO x y)
      unfold zipO
      split
      · exact RunI.di fun Φ q => di_zip A (G.no _ rfl) hg e1 (by rw [e2]; rfl) e2 (h.deOf (h2.deOf (.inr ⟨_, _, rfl, rfl, q⟩)))
      · exact RunI.di fun Φ q => di_zip A (G.no _ rfl) hg e1 (by rw [e2]; rfl) e2 (h.deOf (h2.deOf (.inl ⟨_, _, .lst _, .lst _, q⟩)))
      · exact RunI.di fun Φ q => di_zipM A (G.no _ rfl) hg e1 (by rw [e2]; rfl) e2 (h.deOf (h2.deOf ⟨_, _, rfl, rfl, q⟩))
      · exact RunI.bad
theorem runI_enum {elts : List Expr} {kk : Nat} {o : Out D} (A : At X P w K mg base tb names k) (G : NoB mg) (hg : glB names "enumerate" = true) (hs : isStar a = false) (h : RunE cls X W a ρ S o) : RunI cls X W (.Tuple elts kk tpos) (.Call (.Name "enumerate" p) [a] [] pos) ρ S (o.nx.bind enumO) := by
  cases o with
  | bad => exact RunI.bad
  | ex c => exact RunI.bad
  | ok x =>
    show RunI cls X W _ _ ρ S (enumO x)
    unfold enumO
    split
    · exact RunI.di fun Φ q => di_enum A (G.no _ rfl) hg (star1 hs) (star1 hs) (h.deOf ⟨_, .lst _, q⟩)
    · exact RunI.bad
/-! ### comprehensions -/
def lcO (bnd : D → En → Option En) (cond : En → Out Bool) (elt : En → Out D) (η : En) : List D → Out (List D)
  | [] => .ok []
  | d :: ds => match bnd d η with
    | none => .bad
    | some η1 => (cond η1).nx.bind fun c => if c then (elt η1).nx.bind fun y => (lcO bnd cond elt η ds).bind fun l => .ok (y :: l) else lcO bnd cond elt η ds
theorem nx_ok {α : Type} {o : Out α} {a : α} (h : o.nx = .ok a) : o = .ok a := by
  cases o <;> cases h
  rfl
theorem lc_run {scope : Scope} {ok : Nat → Bool} {ifs : List Expr} {elt : Expr} {bnd : D → En → Option En} {cond : En → Out Bool} {el : En → Out D} {η : En} (hη : EnL η ρ)
    (hb : ∀ X', blks X scope X' → ∀ d η1, bnd d η = some η1 → ∀ Φ : Ro → Sto → Prop, (∀ ρ1, EnL η1 ρ1 → Φ ρ1 S) → DG X' ok tg d ρ S Φ)
    (hc : ∀ η1 ρ1 c, EnL η1 ρ1 → cond η1 = .ok c → ∀ Φ : Bool → Sto → Prop, Φ c S → DTb (blks X scope) ifs ρ1 S Φ)
    (he : ∀ X', blks X scope X' → ∀ η1 ρ1 y, EnL η1 ρ1 → el η1 = .ok y → ∀ Φ : D → Sto → Prop, Φ y S → DE X' elt ρ1 S Φ) :
    ∀ (ds acc l : List D), lcO bnd cond el η ds = .ok l → ∀ Φ : D → Sto → Prop, Φ (.lst (acc ++ l)) S → LcD (blks X scope) ok tg ifs elt ds ρ S acc Φ
  | [], acc, l, h, Φ, q => by
    cases h
    rw [List.append_nil] at q
    exact q
  | d :: ds, acc, l, h, Φ, q => by
    unfold lcO at h
    split at h
    · cases h
    · rename_i η1 h1
      obtain ⟨c, h2, h3⟩ := Out.bind_ok h
      have h2 := nx_ok h2
      intro X' hX
      refine hb X' hX d η1 h1 _ fun ρ1 r1 => hc η1 ρ1 c r1 h2 _ ?_
      cases c with
      | true =>
        obtain ⟨y, h4, h5⟩ := Out.bind_ok h3
        have h4 := nx_ok h4
        obtain ⟨l', h6, h7⟩ := Out.bind_ok h5
        cases h7
        exact fun X2 hX2 => he X2 hX2 η1 ρ1 y r1 h4 _ (lc_run hη hb hc he ds (acc ++ [y]) l' h6 Φ (by rw [List.append_assoc]; exact q))
      | false => exact lc_run hη hb hc he ds acc l h3 Φ q
end
end Ar
namespace Ar
open PySem PySem.Spec PyProof.Rows L2
/-! ### one step of the run -/
structure Rc where
  E : List (Str × NameKind) → Expr → En → Out D
  T : List (Str × NameKind) → Expr → En → Out Bool
def evA (r : Rc) (names : List (Str × NameKind)) : List Expr → En → Out (List D)
  | [], _ => .ok []
  | e :: es, η => (r.E names e η).bind fun x => (evA r names es η).bind fun l => .ok (x :: l)
def evB (r : Rc) (names : List (Str × NameKind)) (op : BoolOp) : List Expr → En → Out D
  | [], _ => .bad
  | a :: es, η => match es with
    | [] => r.E names a η
    | _ :: _ => match op with
      | .And => (r.E names a η).bind fun x => (truO x).bind fun c => if c then evB r names op es η else .ok x
      | .Or => (r.E names a η).bind fun x => (truO x).bind fun c => if c then .ok x else evB r names op es η
def evBT (r : Rc) (names : List (Str × NameKind)) (op : BoolOp) : List Expr → En → Out Bool
  | [], _ => .bad
  | a :: es, η => match es with
    | [] => r.T names a η
    | _ :: _ => match op with
      | .And => (r.T names a η).bind fun c => if c then evBT r names op es η else .ok false
      | .Or => (r.T names a η).bind fun c => if c then .ok true else evBT r names op es η
def constO : Const → Out D
  | .int i => .ok (.int i)
  | .bool b => .ok (.bl b)
  | .str z => .ok (.str z)
  | .none => .ok .non
  | _ => .bad
def unO (r : Rc) (names : List (Str × NameKind)) (op : UnaryOp) (a : Expr) (η : En) : Out D := match op with
  | .USub => (r.E names a η).bind fun x => match x with | .int i => .ok (.int (-i)) | _ => .bad
  | .Not => (r.E names a η).bind fun x => (truO x).bind fun c => .ok (.bl (!c))
  | _ => .bad
def cmpO (r : Rc) (names : List (Str × NameKind)) (a : Expr) (ops : List CmpOp) (bs : List Expr) (η : En) : Out D := match ops, bs with
  | [op], [b] => if isSet b then .bad else (r.E names a η).bind fun x => (r.E names b η).bind fun y => opC op x y
  | [op, op2], [b, c] => if isSet c then .bad else (r.E names a η).bind fun x => (r.E names b η).bind fun y => (opC op x y).bind fun t => (asBl t).bind fun k => if k then (r.E names c η).bind fun z => opC op2 y z else .ok (.bl false)
  | _, _ => .bad
def cmpT (r : Rc) (names : List (Str × NameKind)) (a : Expr) (ops : List CmpOp) (bs : List Expr) (η : En) : Out Bool := match ops, bs with
  | [op], [b] => if isSet b then .bad else (r.E names a η).bind fun x => (r.E names b η).bind fun y => (opC op x y).bind asBl
  | [op, op2], [b, c] => if isSet c then .bad else (r.E names a η).bind fun x => (r.E names b η).bind fun y => (opC op x y).bind fun t => (asBl t).bind fun k => if k then (r.E names c η).bind fun z => (opC op2 y z).bind asBl else .ok false
  | _, _ => .bad
def isRev : Expr → Bool
  | .UnaryOp .USub (.Constant (.int 1) _ _) _ => true
  | _ => false
def dctO (f : List (Str × D)) : D → Out D
  | .str z => match f.lookup z with | some d => .ok d | none => .bad
  | _ => .bad
def subO (T : IT) (r : Rc) (names : List (Str × NameKind)) (tb : List (Str × Nat)) (a i : Expr) (η : En) : Out D := match i with
  | .Slice none none (some s) _ => if isRev s then (r.E names a η).bind revO else .bad
  | .Slice none (some b) none _ => (r.E names a η).bind fun x => (r.E names b η).bind fun y => (intO y).bind fun i => slO x none (some i)
  | .Slice (some b) none none _ => (r.E names a η).bind fun x => (r.E names b η).bind fun y => (intO y).bind fun i => slO x (some i) none
  | .Slice (some b) (some c) none _ => (r.E names a η).nx.bind fun x => (r.E names b η).nx.bind fun y => (r.E names c η).nx.bind fun z => (intO y).bind fun i => (intO z).bind fun j => slO x (some i) (some j)
  | i => if isSl i then .bad else match a with
    | .Name x _ => match T.gd.lookup x with
      | some f => if glB names x then (r.E names i η).bind (dctO f) else .bad
      | none => (r.E names a η).bind fun x => (r.E names i η).bind fun y => ixO x y
    | _ => (r.E names a η).bind fun x => (r.E names i η).bind fun y => ixO x y
def isiC (r : Rc) (names : List (Str × NameKind)) (a b : Expr) (η : En) : Out D := if isStar a then .bad else match b with
  | .Name t _ => match tyOf t with
    | some g => if glB names t then (r.E names a η).bind (isiO (tyB g)) else .bad
    | none => .bad
  | .Tuple [.Name t _, .Name t2 _] _ _ => match tyOf t, tyOf t2 with
    | some g, some g2 => if glB names t && glB names t2 then (r.E names a η).bind (isiO fun x => tyB g x || tyB g2 x) else .bad
    | _, _ => .bad
  | _ => .bad
def callO (T : IT) (r : Rc) (names : List (Str × NameKind)) (f : Str) (es : List Expr) (η : En) : Out D := if glB names f then match T.ar.lookup f with
    | some n => match es with
      | [] => .bad
      | e :: es => if Nat.beq (e :: es).length n && noStar (e :: es) then (evA r names (e :: es) η).bind fun ds => T.call f ds else .bad
    | none => match es with
      | [a] => if isStar a then .bad else match bi1Of f with
        | some g => (r.E names a η).bind (bi1O g)
        | none => if f == "min" then (r.E names a η).bind minO else if f == "sorted" then (r.E names a η).bind sortO else .bad
      | [a, b] => if f == "isinstance" then isiC r names a b η else if isStar a || isStar b then .bad else match bi2Of f with
        | some g => (r.E names a η).bind fun x => (r.E names b η).bind fun y => bi2O g x y
        | none => .bad
      | _ => .bad
  else .bad
def evK (r : Rc) (names : List (Str × NameKind)) : List Keyword → En → Out (List D)
  | [], _ => .ok []
  | k :: ks, η => (r.E names k.value η).bind fun x => (evK r names ks η).bind fun l => .ok (x :: l)
def callKO (T : IT) (r : Rc) (names : List (Str × NameKind)) (f : Str) (kws : List Keyword) (η : En) : Out D := if glB names f && kws.all (·.arg.isSome) then match T.ar.lookup f with
    | some n => match kwFind T.kw f (kws.filterMap (·.arg)) with
      | some pm => (evK r names kws η).bind fun ds => if Nat.beq ds.length (kws.filterMap (·.arg)).length && Nat.beq (permL pm ds).length n then T.call f (permL pm ds) else .bad
      | none => .bad
    | none => .bad
  else .bad
def methO (r : Rc) (names : List (Str × NameKind)) (o : Expr) (m : Str) (ap pos : Pos) (es : List Expr) (η : En) : Out D := match es with
  | [] => if isCl o || !(ap.endLine == pos.line) then .bad
    else if m == "bit_length" then (r.E names o η).bind bitsO
    else .bad
  | [b] => if isStar b || isCl o || !(ap.endLine == pos.line) then .bad
    else if m == "join" then (r.E names o η).nx.bind fun x => (isStrO x).bind fun z => (r.E names b η).bind fun y => joinO z y
    else if m == "index" then (r.E names o η).nx.bind fun x => (r.E names b η).nx.bind fun y => sindexO x y
    else .bad
  | _ => .bad
def iterO (r : Rc) (names : List (Str × NameKind)) (tg iter : Expr) (η : En) : Out (List D) := match iter with
  | .Call (.Name f _) [a] [] _ => if f == "range" && glB names f && !isStar a then (r.E names a η).nx.bind range1O
      else if f == "enumerate" && glB names f && !isStar a && isTupE tg then (r.E names a η).nx.bind enumO
      else (r.E names iter η).bind itO
  | .Call (.Name f _) [a, b] [] _ => if f == "range" && glB names f && !isStar a && !isStar b then (r.E names a η).nx.bind fun x => (r.E names b η).nx.bind fun y => range2O x y
      else if f == "zip" && glB names f && !isStar a && !isStar b && isTupE tg then (r.E names a η).nx.bind fun x => (r.E names b η).nx.bind fun y => zipO x y
      else (r.E names iter η).bind itO
  | _ => (r.E names iter η).bind itO
def tgOwns (f : Expr → Option (List (Str × Nat))) : List Expr → Option (List (Str × Nat))
  | [] => some []
  | t :: ts => match f t, tgOwns f ts with
    | some a, some b => some (a ++ b)
    | _, _ => none
def tgOwn (tb : List (Str × Nat)) : Nat → Expr → Option (List (Str × Nat))
  | 0, _ => none
  | n + 1, t => match t with
    | .Name x _ => (tb.lookup x).map fun i => [(x, i)]
    | .Tuple ts _ _ => tgOwns (tgOwn tb n) ts
    | _ => none
def wipeE (η : En) : List Nat → En
  | [] => η
  | v :: vs => (wipeE η vs).set v none
def ifsO (r : Rc) (names : List (Str × NameKind)) (ifs : List Expr) (η : En) : Out Bool := match ifs with
  | [] => .ok true
  | [c] => r.T names c η
  | _ => .bad
def compO (tb : List (Str × Nat)) (r : Rc) (names : List (Str × NameKind)) (elt : Expr) (gens : List Comprehension) (scope : Scope) (η : En) : Out D := match gens with
  | [⟨tg, iter, ifs, as⟩] => match tgOwn tb 3 tg with
    | some own => if decide (as = 0) && decide (scope.kind = .function) && blkD tb names scope.names own && !isSet iter then
        (iterO r names tg iter η).bind fun ds => if Nat.ble ds.length 100000 then
          (lcO (bindT tb scope.names (okOf own) 3 tg) (ifsO r scope.names ifs) (r.E scope.names elt) (wipeE η (own.map (·.2))) ds).nx.bind fun l => .ok (.lst l) else .bad
      else .bad
    | none => .bad
  | _ => .bad
def stepE (T : IT) (tb : List (Str × Nat)) (r : Rc) (names : List (Str × NameKind)) (e : Expr) (η : En) : Out D := match e with
  | .Constant c _ _ => constO c
  | .Name x _ => nameO T tb names x η
  | .BinOp a op b _ => (r.E names a η).bind fun x => (r.E names b η).bind fun y => opB op x y
  | .UnaryOp op a _ => unO r names op a η
  | .IfExp c a b _ => (r.T names c η).bind fun k => if k then r.E names a η else r.E names b η
  | .BoolOp op es _ => evB r names op es η
  | .Compare a ops bs _ => cmpO r names a ops bs η
  | .Tuple es _ _ => if noStar es && Nat.ble es.length 1000 then (evA r names es η).bind fun l => .ok (.tup l) else .bad
  | .List es _ => if noStar es && Nat.ble es.length 1000 then (evA r names es η).bind fun l => .ok (.lst l) else .bad
  | .Subscript a i _ => subO T r names tb a i η
  | .Call f es kws pos => match kws with
    | [] => match f with
      | .Name x _ => callO T r names x es η
      | .Attribute o m ap => methO r names o m ap pos es η
      | _ => .bad
    | kws => match f, es with
      | .Name x _, [] => callKO T r names x kws η
      | _, _ => .bad
  | .ListComp elt gens scope _ => compO tb r names elt gens scope η
  | _ => .bad
def stepT (r : Rc) (names : List (Str × NameKind)) (self : List (Str × NameKind) → Expr → En → Out D) (e : Expr) (η : En) : Out Bool := match e with
  | .UnaryOp .Not a _ => (r.T names a η).bind fun c => .ok (!c)
  | .BoolOp op es _ => evBT r names op es η
  | .Compare a ops bs _ => cmpT r names a ops bs η
  | e => if isLeafT e then (self names e η).bind truO else .bad
def evs (T : IT) (tb : List (Str × Nat)) : Nat → Rc
  | 0 => ⟨fun _ _ _ => .bad, fun _ _ _ => .bad⟩
  | n + 1 => ⟨stepE T tb (evs T tb n), fun names e η => stepT (evs T tb n) names (stepE T tb (evs T tb n)) e η⟩
section
variable (cls : Cls) (T : IT) (P : Program) (w : World) (K : PySem.W.Frag) (mg : Str → Option Value) (base : Heap) (tb : List (Str × Nat)) (k : Nat)
structure Good (r : Rc) : Prop where
  e : ∀ X W names e η ρ S, At X P w K mg base tb names k → Takes X W → EnL η ρ → FlatS S → RunE cls X W e ρ S (r.E names e η)
  t : ∀ X W names e η ρ S, At X P w K mg base tb names k → Takes X W → EnL η ρ → FlatS S → RunT cls X W e ρ S (r.T names e η)
end
section
variable {cls : Cls} {X : Cx} {W : WX} {ρ : Ro} {S : Sto} {e a b c : Expr} {es : List Expr} {pos p tpos : Pos} {tg : Expr} {P : Program} {w : World} {K : PySem.W.Frag} {mg : Str → Option Value} {base : Heap} {tb : List (Str × Nat)} {names : List (Str × NameKind)} {k j : Nat} {T : IT} {r : Rc} {η : En}
theorem evA_ok (g : Good cls P w K mg base tb k r) (A : At X P w K mg base tb names k) (tk : Takes X W) (hη : EnL η ρ) (hS : FlatS S) : ∀ es, noStar es = true → RunA cls X W es ρ S (evA r names es η) ∧ ∀ l, evA r names es η = .ok l → l.length = es.length
  | [], _ => ⟨runA_nil, fun l h => by cases h; rfl⟩
  | e :: es, hs => by
    obtain ⟨h1, h2⟩ := noStar_cons hs
    obtain ⟨i1, i2⟩ := evA_ok g A tk hη hS es h2
    refine ⟨runA_cons h1 (g.e X W names e η ρ S A tk hη hS) i1, fun l h => ?_⟩
    unfold evA at h
    obtain ⟨x, _, h⟩ := Out.bind_ok h
    obtain ⟨l', h', h⟩ := Out.bind_ok h
    cases h
    rw [List.length_cons, List.length_cons, i2 l' h']
theorem evB_ok (g : Good cls P w K mg base tb k r) (A : At X P w K mg base tb names k) (tk : Takes X W) (hη : EnL η ρ) (hS : FlatS S) {op : BoolOp} : ∀ es, RunE cls X W (.BoolOp op es pos) ρ S (evB r names op es η)
  | [] => RunE.bad
  | [a] => run_b1 (g.e X W names a η ρ S A tk hη hS)
  | a :: b :: es => by
    have i1 := evB_ok (op := op) g A tk hη hS (b :: es)
    cases op with
    | And => exact run_and (g.e X W names a η ρ S A tk hη hS) i1
    | Or => exact run_or (g.e X W names a η ρ S A tk hη hS) i1
theorem evBT_ok (g : Good cls P w K mg base tb k r) (A : At X P w K mg base tb names k) (tk : Takes X W) (hη : EnL η ρ) (hS : FlatS S) {op : BoolOp} : ∀ es, RunW cls X W (.BoolOp op es pos) ρ S (evBT r names op es η)
  | [] => RunW.bad
  | [a] => by
    cases op with
    | And => exact runW_and1 (g.t X W names a η ρ S A tk hη hS)
    | Or => exact runW_or1 (g.t X W names a η ρ S A tk hη hS)
  | a :: b :: es => by
    have i1 := evBT_ok (op := op) g A tk hη hS (b :: es)
    cases op with
    | And => exact runW_and (g.t X W names a η ρ S A tk hη hS) i1
    | Or => exact runW_or (g.t X W names a η ρ S A tk hη hS) i1
theorem constO_ok {cc : Const} {i : Nat} : RunE cls X W (.Constant cc i pos) ρ S (constO cc) := by
  cases cc <;> first | exact RunE.bad | skip
  · exact RunE.de fun Φ q => de_non q
  · exact RunE.de fun Φ q => de_bl q
  · exact RunE.de fun Φ q => de_int q
  · exact RunE.de fun Φ q => de_str q
theorem EnR.wipe (h : EnL η ρ) : ∀ vs : List Nat, EnL (wipeE η vs) (wipeR ρ vs)
  | [] => h
  | v :: vs => by
    have ih := EnR.wipe h vs
    refine ⟨fun j d hd => ?_, by show ((wipeE η vs).set v none).length ≤ ((wipeR ρ vs).set v none).length; rw [List.length_set, List.length_set]; exact ih.l⟩
    unfold wipeE at hd
    unfold wipeR
    by_cases e : v = j
    · subst e
      by_cases hl : v < (wipeE η vs).length
      · rw [List.getElem?_set_self hl] at hd
        cases hd
      · rw [List.getElem?_eq_none (by rw [List.length_set]; omega)] at hd
        cases hd
    · rw [List.getElem?_set_ne e] at hd
      rw [List.getElem?_set_ne e]
      exact ih.r j d hd
theorem iterO_ok (g : Good cls P w K mg base tb k r) (A : At X P w K mg base tb names k) (G : NoB mg) (tk : Takes X W) (hη : EnL η ρ) (hS : FlatS S) (iter : Expr) : RunI cls X W tg iter ρ S (iterO r names tg iter η) := by
  have ge := fun a => g.e X W names a η ρ S A tk hη hS
  unfold iterO
  split
  · split
    · rename_i f _ a _ hh
      simp only [Bool.and_eq_true, Bool.not_eq_true', beq_iff_eq] at hh
      obtain ⟨⟨rfl, hg⟩, hs⟩ := hh
      exact runI_range1 A G hg hs (ge a)
    · split
      · rename_i f _ a _ _ hh
        simp only [Bool.and_eq_true, Bool.not_eq_true', beq_iff_eq] at hh
        obtain ⟨⟨⟨rfl, hg⟩, hs⟩, ht⟩ := hh
        cases tg <;> first | (cases ht; done) | skip
        exact runI_enum A G hg hs (ge a)
      · exact runI_plain (ge _)
  · split
    · rename_i f _ a b _ hh
      simp only [Bool.and_eq_true, Bool.not_eq_true', beq_iff_eq] at hh
      obtain ⟨⟨⟨rfl, hg⟩, hs⟩, hs2⟩ := hh
      exact runI_range2 A G hg hs hs2 (ge a) (ge b)
    · split
      · rename_i f _ a b _ _ hh
        simp only [Bool.and_eq_true, Bool.not_eq_true', beq_iff_eq] at hh
        obtain ⟨⟨⟨⟨rfl, hg⟩, hs⟩, hs2⟩, ht⟩ := hh
        cases tg <;> first | (cases ht; done) | skip
        exact runI_zip A G hg hs hs2 (ge a) (ge b)
      · exact runI_plain (ge _)
  · exact runI_plain (ge _)
theorem FlatS.blk {X' : Cx} {scope : Scope} (h : blks X scope X') : X'.K = X.K := blks_K h
theorem compO_ok (g : Good cls P w K mg base tb k r) (A : At X P w K mg base tb names k) (G : NoB mg) (tk : Takes X W) (hη : EnL η ρ) (hS : FlatS S) {elt : Expr} {gens : List Comprehension} {scope : Scope} : RunE cls X W (.ListComp elt gens scope pos) ρ S (compO tb r names elt gens scope η) := by
  unfold compO
  split
  · rename_i tg iter ifs as
    split
    · rename_i own hown
      split
      · rename_i hh
        simp only [Bool.and_eq_true, Bool.not_eq_true', decide_eq_true_eq] at hh
        obtain ⟨⟨⟨rfl, hk⟩, hb⟩, hset⟩ := hh
        have gi := iterO_ok (tg := tg) g A G tk hη hS iter
        cases ho : iterO r names tg iter η with
        | bad => exact RunE.bad
        | ex cc =>
          rw [ho] at gi
          refine RunE.of (pe_lc (own := own) (g := tgB (blks X scope) tg) (tt := ttB (blks X scope) ifs) (te := teB (blks X scope) elt) A.calm A.nd pi_w (blkD_ok A hk hb)
            (fun s H C cl fp => ⟨fun pins s' σ H' v u Q I r q => q _ ⟨s, H, C, cl, fp, rfl⟩ pins s' u I r⟩) (fun s H C cl fp => pts_b ⟨s, H, C, cl, fp, rfl⟩) (fun s H C cl fp => ⟨fun pins s' σ H' Q I q => q _ ⟨s, H, C, cl, fp, rfl⟩ pins s' I⟩) (fun x => folded_no hset)) fun Zh σ H Q E P => ?_
          exact fun pins s I => gi Zh pins s σ H _ I E P
        | ok ds =>
          rw [ho] at gi
          show RunE cls X W _ ρ S (if Nat.ble ds.length 100000 then _ else Out.bad)
          split
          · rename_i hlen
            cases hl : lcO (bindT tb scope.names (okOf own) 3 tg) (ifsO r scope.names ifs) (r.E scope.names elt) (wipeE η (own.map (·.2))) ds with
            | bad => exact RunE.bad
            | ex _ => exact RunE.bad
            | ok l =>
              refine RunE.de fun Φ q => de_lc (own := own) A hk hb (fun x => folded_no hset) (gi.diOf ⟨line_of (Nat.le_of_ble_eq_true hlen) (by decide), ?_⟩)
              have hw := EnR.wipe hη (own.map (·.2))
              have hs2 : ∀ X', blks X scope X' → ∀ η1 ρ1, EnL η1 ρ1 → True := fun _ _ _ _ _ => trivial
              refine lc_run (bnd := bindT tb scope.names (okOf own) 3 tg) (cond := ifsO r scope.names ifs) (el := r.E scope.names elt) hw (fun X' hX d η1 h1 Ψ hΨ => bindT_ok (A.blk hk hX) 3 tg d _ η1 _ hw h1 Ψ hΨ) ?_ (fun X' hX η1 ρ1 y h1 h2 Ψ hΨ => ?_) ds [] l hl Φ (by rw [List.nil_append]; exact q)
              · intro η1 ρ1 c1 h1 h2 Ψ hΨ
                unfold ifsO at h2
                split at h2
                · cases h2
                  exact hΨ
                · rename_i c0
                  intro X' hX
                  have := g.t X' (fun _ _ _ _ => False) scope.names c0 η1 ρ1 S (A.blk hk hX) takes0 h1 hS
                  rw [h2] at this
                  exact this.dtOf hΨ
                · cases h2
              · have := g.e X' (fun _ _ _ _ => False) scope.names elt η1 ρ1 S (A.blk hk hX) takes0 h1 hS
                rw [h2] at this
                exact this.deOf hΨ
          · exact RunE.bad
      · exact RunE.bad
    · exact RunE.bad
  · exact RunE.bad
end
end Ar
namespace Ar
open PySem PySem.Spec PyProof.Rows L2
section
variable {cls : Cls} {X : Cx} {W : WX} {ρ : Ro} {S : Sto} {e a b c : Expr} {es : List Expr} {pos p tpos : Pos} {tg : Expr} {P : Program} {w : World} {K : PySem.W.Frag} {mg : Str → Option Value} {base : Heap} {tb : List (Str × Nat)} {names : List (Str × NameKind)} {k j : Nat} {T : IT} {r : Rc} {η : En}
theorem isRev_eq {s : Expr} (h : isRev s = true) : ∃ kk p1 p2, s = .UnaryOp .USub (.Constant (.int 1) kk p1) p2 := by
  unfold isRev at h
  split at h
  · exact ⟨_, _, _, rfl⟩
  · cases h
theorem dctO_nx {f : List (Str × D)} {x : D} : ∀ c, dctO f x ≠ .ex c := fun c h => by
  unfold dctO at h
  split at h <;> (try split at h) <;> cases h
theorem dr_kdR {x : Str} {f : Str → Option D} {px : Pos} {Ξ : Xi} (A : At X P w K mg base tb names k) (G : DictG K w mg x f) (hg : glB names x = true) (hp : PlainIx e) (h : DR X W e ρ S Ξ) : DR X W (.Subscript (.Name x px) e pos) ρ S Ξ := by
  obtain ⟨a, hm, hf⟩ := G
  have z := glB_of hg
  exact DR.of (pe_ix ix_kdict (pe_glob (v := .ref a) (A.gl _ z.2) (by rw [A.mg]; exact hm) rfl (plain1 z.1).1) pe_w hp) fun Zh σ H Q E P => h.tw E P
theorem subO_ok (g : Good cls P w K mg base tb k r) (A : At X P w K mg base tb names k) (G : GlobOk T w K mg) (tk : Takes X W) (hη : EnL η ρ) (hS : FlatS S) {i : Expr} : RunE cls X W (.Subscript a i pos) ρ S (subO T r names tb a i η) := by
  have ge := fun a => g.e X W names a η ρ S A tk hη hS
  unfold subO
  split
  · split
    · rename_i hh
      obtain ⟨kk, p1, p2, rfl⟩ := isRev_eq hh
      exact run_rev (ge a)
    · exact RunE.bad
  · exact run_slHi (ge a) (ge _)
  · exact run_slLo (ge a) (ge _)
  · exact run_slLH (ge a) (ge _) (ge _)
  · split
    · exact RunE.bad
    · rename_i hsl
      have hsl : isSl i = false := by simpa using hsl
      split
      · rename_i x px
        split
        · rename_i f hf
          split
          · rename_i hg
            refine run_one (ge i) (fun _ => dctO_nx) (fun y d h Φ q da => ?_) fun Ξ h => dr_kdR A (G.gd x f hf) hg (plain_ix hsl) h
            unfold dctO at h
            split at h
            · split at h
              · rename_i z _ d' hz
                cases h
                exact de_kd A (G.gd x f hf) hg (plain_ix hsl) (da _ ⟨z, _, rfl, hz, q⟩)
              · cases h
            · cases h
          · exact RunE.bad
        · exact run_ix hsl (ge _) (ge i)
      · exact run_ix hsl (ge _) (ge i)
theorem isiC_ok (g : Good cls P w K mg base tb k r) (A : At X P w K mg base tb names k) (G : GlobOk T w K mg) (tk : Takes X W) (hη : EnL η ρ) (hS : FlatS S) (hg : glB names "isinstance" = true) : RunE cls X W (.Call (.Name "isinstance" p) [a, b] [] pos) ρ S (isiC r names a b η) := by
  have ge := fun a => g.e X W names a η ρ S A tk hη hS
  unfold isiC
  split
  · exact RunE.bad
  · rename_i hs
    have hs : isStar a = false := by simpa using hs
    split
    · split
      · split
        · rename_i g' ht hn
          exact run_isi A G.nob ht (by rw [hn, hg]; rfl) hs (ge a)
        · exact RunE.bad
      · exact RunE.bad
    · split
      · split
        · rename_i g' g2' ht ht2 hn
          rw [Bool.and_eq_true] at hn
          exact run_isi2 A G.nob ht ht2 (by rw [hn.1, hn.2, hg]; rfl) hs (ge a)
        · exact RunE.bad
      · exact RunE.bad
    · exact RunE.bad
theorem callO_ok (g : Good cls P w K mg base tb k r) (F : CallOk cls T P w K mg base j) (hj : j ≤ k) (A : At X P w K mg base tb names k) (G : GlobOk T w K mg) (tk : Takes X W) (hη : EnL η ρ) (hS : FlatS S) {f : Str} : RunE cls X W (.Call (.Name f p) es [] pos) ρ S (callO T r names f es η) := by
  have ge := fun a => g.e X W names a η ρ S A tk hη hS
  unfold callO
  split
  · rename_i hg
    split
    · rename_i n hn
      split
      · exact RunE.bad
      · rename_i e es
        split
        · rename_i hh
          rw [Bool.and_eq_true] at hh
          obtain ⟨i1, i2⟩ := evA_ok g A tk hη hS (e :: es) hh.2
          exact run_call A tk F hj hS hn hh.1 hg hh.2 i1 i2
        · exact RunE.bad
    · split
      · rename_i a
        split
        · exact RunE.bad
        · rename_i hs
          have hs : isStar a = false := by simpa using hs
          split
          · rename_i g' hf
            exact run_bi1 A G.nob hf hg hs (ge a)
          · split
            · rename_i hf
              have e1 := eq_of_beq hf
              subst e1
              exact run_min1 A G.nob hg hs (ge a)
            · split
              · rename_i hf
                have e1 := eq_of_beq hf
                subst e1
                exact run_sort1 A G.nob hg hs (ge a)
              · exact RunE.bad
      · rename_i a b
        split
        · rename_i hf
          have e1 := eq_of_beq hf
          subst e1
          exact isiC_ok g A G tk hη hS hg
        · split
          · exact RunE.bad
          · rename_i hs
            have hs : isStar a = false ∧ isStar b = false := by simpa using hs
            split
            · rename_i g' hf
              exact run_bi2 A G.nob hf hg hs.1 hs.2 (ge a) (ge b)
            · exact RunE.bad
      · exact RunE.bad
  · exact RunE.bad
theorem evK_ok (g : Good cls P w K mg base tb k r) (A : At X P w K mg base tb names k) (tk : Takes X W) (hη : EnL η ρ) (hS : FlatS S) : ∀ kws : List Keyword, RunK cls X W kws ρ S (evK r names kws η)
  | [] => runK_nil
  | ⟨a, b, c⟩ :: kws => runK_cons (g.e X W names b η ρ S A tk hη hS) (evK_ok g A tk hη hS kws)
theorem callKO_ok (g : Good cls P w K mg base tb k r) (F : CallOk cls T P w K mg base j) (hj : j ≤ k) (A : At X P w K mg base tb names k) (G : GlobOk T w K mg) (tk : Takes X W) (hη : EnL η ρ) (hS : FlatS S) {f : Str} {kws : List Keyword} : RunE cls X W (.Call (.Name f p) [] kws pos) ρ S (callKO T r names f kws η) := by
  unfold callKO
  split
  · rename_i hh
    rw [Bool.and_eq_true] at hh
    split
    · rename_i n hn
      split
      · rename_i pm hp
        exact run_callK A tk F hj hS hn (G.kw _ _ _ hp) rfl hh.2 hh.1 (evK_ok g A tk hη hS kws)
      · exact RunE.bad
    · exact RunE.bad
  · exact RunE.bad
theorem methO_ok (g : Good cls P w K mg base tb k r) (A : At X P w K mg base tb names k) (tk : Takes X W) (hη : EnL η ρ) (hS : FlatS S) {o : Expr} {m : Str} {ap : Pos} : RunE cls X W (.Call (.Attribute o m ap) es [] pos) ρ S (methO r names o m ap pos es η) := by
  have ge := fun a => g.e X W names a η ρ S A tk hη hS
  unfold methO
  split
  · split
    · exact RunE.bad
    · rename_i hh
      have hh : isCl o = false ∧ (ap.endLine == pos.line) = true := by simpa using hh
      split
      · rename_i hm
        have e1 := eq_of_beq hm
        subst e1
        exact run_bits hh.1 hh.2 (ge o)
      · exact RunE.bad
  · rename_i b
    split
    · exact RunE.bad
    · rename_i hh
      have hh : (isStar b = false ∧ isCl o = false) ∧ (ap.endLine == pos.line) = true := by simpa using hh
      obtain ⟨⟨hs, ho⟩, hl⟩ := hh
      split
      · rename_i hm
        have e1 := eq_of_beq hm
        subst e1
        exact run_join hs ho hl (ge o) (ge b)
      · split
        · rename_i hm
          have e1 := eq_of_beq hm
          subst e1
          exact run_sindex hs ho hl (ge o) (ge b)
        · exact RunE.bad
  · exact RunE.bad
theorem stepE_ok (g : Good cls P w K mg base tb k r) (F : CallOk cls T P w K mg base j) (hj : j ≤ k) (A : At X P w K mg base tb names k) (G : GlobOk T w K mg) (tk : Takes X W) (hη : EnL η ρ) (hS : FlatS S) : RunE cls X W e ρ S (stepE T tb r names e η) := by
  have ge := fun a => g.e X W names a η ρ S A tk hη hS
  unfold stepE
  split
  · exact constO_ok
  · exact run_name A G hη.r
  · exact run_bin (ge _) (ge _)
  · rename_i op a p
    unfold unO
    split
    · exact run_neg (ge a)
    · exact run_not (ge a)
    · exact RunE.bad
  · rename_i c a b p
    exact run_if (g.t X W names c η ρ S A tk hη hS) (ge a) (ge b)
  · exact evB_ok g A tk hη hS _
  · unfold cmpO
    split
    · split
      · exact RunE.bad
      · rename_i hh
        exact run_cmp A (by simpa using hh) (ge _) (ge _)
    · split
      · exact RunE.bad
      · rename_i hh
        exact run_chain A (by simpa using hh) (ge _) (ge _) (ge _)
    · exact RunE.bad
  · split
    · rename_i hh
      rw [Bool.and_eq_true] at hh
      obtain ⟨i1, i2⟩ := evA_ok g A tk hη hS _ hh.1
      exact run_tup hh.2 i1 i2
    · exact RunE.bad
  · split
    · rename_i hh
      rw [Bool.and_eq_true] at hh
      obtain ⟨i1, i2⟩ := evA_ok g A tk hη hS _ hh.1
      exact run_lst hh.2 i1 i2
    · exact RunE.bad
  · exact subO_ok g A G tk hη hS
  · split
    · split
      · exact callO_ok g F hj A G tk hη hS
      · exact methO_ok g A tk hη hS
      · exact RunE.bad
    · split
      · exact callKO_ok g F hj A G tk hη hS
      · exact RunE.bad
  · exact compO_ok g A G.nob tk hη hS
  · exact RunE.bad
theorem stepT_ok {self : List (Str × NameKind) → Expr → En → Out D} (g : Good cls P w K mg base tb k r) (hs : RunE cls X W e ρ S (self names e η)) (A : At X P w K mg base tb names k) (tk : Takes X W) (hη : EnL η ρ) (hS : FlatS S) : RunT cls X W e ρ S (stepT r names self e η) := by
  have ge := fun a => g.e X W names a η ρ S A tk hη hS
  have gt := fun a => g.t X W names a η ρ S A tk hη hS
  unfold stepT
  split
  · exact runT_not (gt _)
  · exact runT_w (evBT_ok g A tk hη hS _)
  · unfold cmpT
    split
    · split
      · exact RunT.bad
      · rename_i hh
        exact runT_cmp A (by simpa using hh) (ge _) (ge _)
    · split
      · exact RunT.bad
      · rename_i hh
        exact runT_chain A (by simpa using hh) (ge _) (ge _) (ge _)
    · exact RunT.bad
  · split
    · rename_i hl
      exact runT_leaf hl hs
    · exact RunT.bad
theorem good_evs (F : CallOk cls T P w K mg base j) (hj : j ≤ k) (G : GlobOk T w K mg) : ∀ n, Good cls P w K mg base tb k (evs T tb n)
  | 0 => ⟨fun _ _ _ _ _ _ _ _ _ _ _ => RunE.bad, fun _ _ _ _ _ _ _ _ _ _ _ => RunT.bad⟩
  | n + 1 => ⟨fun X W names e η ρ S A tk hη hS => stepE_ok (good_evs F hj G n) F hj A G tk hη hS, fun X W names e η ρ S A tk hη hS => stepT_ok (good_evs F hj G n) (stepE_ok (good_evs F hj G n) F hj A G tk hη hS) A tk hη hS⟩
end
end Ar
namespace Ar
open PySem PySem.Spec PyProof.Rows L2
/-! ### new lists: comprehensions -/
def unL (Ψ : List D → Sto → Prop) : D → Sto → Prop
  | .lst l, S => Ψ l S
  | _, _ => False
section
variable {X : Cx} {ρ : Ro} {S : Sto} {tg iter e : Expr} {P : Program} {w : World} {K : PySem.W.Frag} {mg : Str → Option Value} {base : Heap} {tb : List (Str × Nat)} {names : List (Str × NameKind)} {k : Nat} {pos p tpos : Pos}
theorem lc_readN {Zh : List Addr} {b : Bl} {ok : Nat → Bool} {ifs : List Expr} {vs : List Nat} {σ : L2.St} {H H1 : Hp} {Q : VK} {Ψ : List D → Sto → Prop} {S1 : Sto} {ds : List D} {J : It} {D' : Addr} (hb : ∀ X', b X' → X'.K = X.K) (hok : ∀ j, j ∉ vs → ok j = false) (E : Ev X.K Zh H σ ρ S)
    (k1 : keys S1 = keys S) (g1 : Grow (keys S) H H1) (s1 : Store X.K Zh H1 S1) (it : ItOk X.K Zh S1 H1 ds J) (hz : ds.length ≤ sizeLine) (q : LcD b ok tg ifs e ds (wipeR ρ vs) S1 [] (unL Ψ)) (Pq : PostN X.K Zh H S Ψ Q) (hD : H1 D' = none) :
    ∃ W : Nat → Nat → Hp → Prop, (∃ m, W 0 m (upd H1 D' (.lst []))) ∧ ∀ i m H, W i m H →
      (J.stop i H ∧ Q (.ref D') H) ∨ (J.go i H ∧ ∃ Nx : Hp → Prop, (∀ H', Nx H' → ∃ m', m' < m ∧ W (i + 1) m' H') ∧ ∀ x H', J.yld i H x H' → tgB b tg x (L2.wipe σ vs) H' fun σ2 H2 => L2.wipe σ2 vs = L2.wipe σ vs ∧ ttB b ifs σ2 H2 fun c H3 =>
        if c = true then teB b e σ2 H3 fun y H4 => ∃ acc, H4 D' = some (.lst acc) ∧ acc.length < sizeLine ∧ Nx (upd H4 D' (.lst (acc ++ [y]))) else Nx H3) := by
  have hDk : D' ∉ keys S1 ++ Zh := s1.free hD
  have hDs : D' ∉ keys S1 := fun m => hDk (sub_l _ m)
  have hfr : ∀ p, p ∈ [D'] → H1 p = none := fun p hp => by
    rw [List.mem_singleton.mp hp]
    exact hD
  have ev1 : Ev X.K ([D'] ++ Zh) (upd H1 D' (.lst [])) (L2.wipe σ vs) (wipeR ρ vs) S1 := Ev.wipe (Ev.hide (E.next k1 g1 s1) hD) vs
  -- what stands at a turn's start: St n H'
  refine ⟨fun i m H' => ∃ S' vs' acc, keys S' = keys S1 ∧ Grow (keys S1) H1 H' ∧ H' D' = some (.lst vs') ∧ Ev X.K ([D'] ++ Zh) H' (L2.wipe σ vs) (wipeR ρ vs) S' ∧ RepL X.K (keys S1 ++ ([D'] ++ Zh)) H' acc vs' ∧ LcD b ok tg ifs e (ds.drop i) (wipeR ρ vs) S' acc (unL Ψ) ∧ acc.length ≤ i ∧ m = ds.length - i ∧ i ≤ ds.length,
    ⟨ds.length, S1, [], [], rfl, Grow.new hD, upd_same, ev1, .nil, q, Nat.le_refl _, rfl, Nat.zero_le _⟩, ?_⟩
  rintro i m H2 ⟨S2, vs2, acc, k2, g2, hD2, ev2, r2, q2, hl, rfl, hi⟩
  have t2 : Step S1 H1 S2 H2 := .of k2 g2
  by_cases hlt : i < ds.length
  · refine .inr ⟨it.go i S2 H2 t2 hlt, fun H' => ∃ S' vs' acc, keys S' = keys S1 ∧ Grow (keys S1) H1 H' ∧ H' D' = some (.lst vs') ∧ Ev X.K ([D'] ++ Zh) H' (L2.wipe σ vs) (wipeR ρ vs) S' ∧ RepL X.K (keys S1 ++ ([D'] ++ Zh)) H' acc vs' ∧ LcD b ok tg ifs e (ds.drop (i + 1)) (wipeR ρ vs) S' acc (unL Ψ) ∧ acc.length ≤ i + 1, ?_, fun x H3 y => ?_⟩
    · rintro H' ⟨S', vs', acc', a1, a2, a3, a4, a5, a6, a7⟩
      exact ⟨ds.length - (i + 1), by omega, S', vs', acc', a1, a2, a3, a4, a5, a6, a7, rfl, hlt⟩
    · obtain ⟨d, hd, sm, rd⟩ := it.yld i S2 H2 x H3 [D'] hfr t2 ev2.st hlt y
      have e1 : ds.drop i = d :: ds.drop (i + 1) := by
        rw [List.drop_eq_getElem_cons hlt]
        congr 1
        rw [List.getElem?_eq_getElem hlt] at hd
        exact Option.some.inj hd
      rw [e1] at q2
      have ev3 := Same.ev ev2 sm
      have hD3 : H3 D' = some (.lst vs2) := sm _ _ hD2
      have g3 : Grow (keys S1) H1 H3 := g2.trans fun b x _ h => sm b x h
      have r3 : RepL X.K (keys S1 ++ ([D'] ++ Zh)) H3 acc vs2 := by
        rw [← k2] at r2 ⊢
        exact ev2.st.grL (fun b x _ h => sm b x h) r2
      intro X' hX
      have hK := hb X' hX
      refine DG.tw (q2 X' hX) (by rw [hK]; exact ev3) (by rw [hK]; exact rd) fun σ4 H4 ρ4 S4 k4 g4 ev4 l4 o4 q4 => ?_
      rw [hK] at ev4
      have hDn : D' ∉ keys S2 := by
        rw [k2]
        exact hDs
      have hD4 : H4 D' = some (.lst vs2) := g4 _ _ hDn hD3
      have k4' : keys S4 = keys S1 := k4.trans k2
      have g4' : Grow (keys S1) H1 H4 := g3.trans (by rw [← k2]; exact g4)
      have r4 : RepL X.K (keys S1 ++ ([D'] ++ Zh)) H4 acc vs2 := by
        rw [← k2] at r3 ⊢
        exact ev3.st.grL g4 r3
      have w4 : Ev X.K ([D'] ++ Zh) H4 (L2.wipe σ vs) (wipeR ρ vs) S4 := ev3.next k4 g4 ev4.st
      refine ⟨wipe_eq l4 fun j hj => o4 j (hok j hj), ?_⟩
      have goOn : ∀ c H5 S5, keys S5 = keys S4 → Grow (keys S4) H4 H5 → Store X.K ([D'] ++ Zh) H5 S5 → (if c = true then DEb b e ρ4 S5 fun y S6 => LcD b ok tg ifs e (ds.drop (i + 1)) (wipeR ρ vs) S6 (acc ++ [y]) (unL Ψ) else LcD b ok tg ifs e (ds.drop (i + 1)) (wipeR ρ vs) S5 acc (unL Ψ)) →
          if c = true then teB b e σ4 H5 fun y H6 => ∃ acc', H6 D' = some (.lst acc') ∧ acc'.length < sizeLine ∧ (∃ S' vs' acc, keys S' = keys S1 ∧ Grow (keys S1) H1 (upd H6 D' (.lst (acc' ++ [y]))) ∧ (upd H6 D' (.lst (acc' ++ [y]))) D' = some (.lst vs') ∧ Ev X.K ([D'] ++ Zh) (upd H6 D' (.lst (acc' ++ [y]))) (L2.wipe σ vs) (wipeR ρ vs) S' ∧ RepL X.K (keys S1 ++ ([D'] ++ Zh)) (upd H6 D' (.lst (acc' ++ [y]))) acc vs' ∧ LcD b ok tg ifs e (ds.drop (i + 1)) (wipeR ρ vs) S' acc (unL Ψ) ∧ acc.length ≤ i + 1)
          else ∃ S' vs' acc, keys S' = keys S1 ∧ Grow (keys S1) H1 H5 ∧ H5 D' = some (.lst vs') ∧ Ev X.K ([D'] ++ Zh) H5 (L2.wipe σ vs) (wipeR ρ vs) S' ∧ RepL X.K (keys S1 ++ ([D'] ++ Zh)) H5 acc vs' ∧ LcD b ok tg ifs e (ds.drop (i + 1)) (wipeR ρ vs) S' acc (unL Ψ) ∧ acc.length ≤ i + 1 := fun c H5 S5 k5 g5 s5 q5 => by
        have hDn4 : D' ∉ keys S4 := by
          rw [k4']
          exact hDs
        have hD5 : H5 D' = some (.lst vs2) := g5 _ _ hDn4 hD4
        have k5' : keys S5 = keys S1 := k5.trans k4'
        have g5' : Grow (keys S1) H1 H5 := g4'.trans (by rw [← k4']; exact g5)
        have r5 : RepL X.K (keys S1 ++ ([D'] ++ Zh)) H5 acc vs2 := by
          rw [← k4'] at r4 ⊢
          exact ev4.st.grL g5 r4
        have w5 : Ev X.K ([D'] ++ Zh) H5 (L2.wipe σ vs) (wipeR ρ vs) S5 := w4.next k5 g5 s5
        cases c with
        | false => exact ⟨S5, vs2, acc, k5', g5', hD5, w5, r5, q5, by omega⟩
        | true =>
          show teB b e σ4 H5 _
          intro X2 hX2
          have hK2 := hb X2 hX2
          refine DE.tw (q5 X2 hX2) (by rw [hK2]; exact ev4.next k5 g5 s5) fun y H6 dy S6 k6 g6 s6 r6 q6 => ?_
          rw [hK2] at s6 r6
          have hDn5 : D' ∉ keys S5 := by
            rw [k5']
            exact hDs
          have hD6 : H6 D' = some (.lst vs2) := g6 _ _ hDn5 hD5
          have k6' : keys S6 = keys S1 := k6.trans k5'
          have g6' : Grow (keys S1) H1 H6 := g5'.trans (by rw [← k5']; exact g6)
          have r6a : RepL X.K (keys S1 ++ ([D'] ++ Zh)) H6 acc vs2 := by
            rw [← k5'] at r5 ⊢
            exact s5.grL g6 r5
          have w6 : Ev X.K ([D'] ++ Zh) H6 (L2.wipe σ vs) (wipeR ρ vs) S6 := w5.next k6 g6 s6
          have zd : Zl [D'] H6 := fun c hc => ⟨vs2, by rw [List.mem_singleton.mp hc]; exact hD6⟩
          have sd : ∀ A : List Addr, ∀ c, c ∈ [D'] → c ∈ A ++ ([D'] ++ Zh) := fun A c hc => List.mem_append_right _ (List.mem_append_left _ hc)
          refine ⟨vs2, hD6, by rw [r6a.length]; omega, S6, vs2 ++ [y], acc ++ [dy], k6', ?_, upd_same, ?_, ?_, q6, by rw [List.length_append, List.length_singleton]; omega⟩
          · intro c x n h
            rw [upd_ne (ne_of_none h hD)]
            exact g6' c x n h
          · refine ⟨s6.put, w6.len, fun j d h => ?_⟩
            obtain ⟨v, e, r⟩ := w6.var j d h
            exact ⟨v, e, Rep.grow zd grow_at (sd _) r⟩
          · refine RepL.append (RepL.grow zd grow_at (sd _) r6a) (.one (Rep.grow zd grow_at (sd _) ?_))
            rw [k5'] at r6
            exact r6
      cases ifs with
      | nil => exact goOn true H4 S4 rfl Grow.refl ev4.st q4
      | cons c cs =>
        cases cs with
        | nil =>
          intro X2 hX2
          have hK2 := hb X2 hX2
          refine DT.tw (q4 X2 hX2) (by rw [hK2]; exact ev4) fun c H5 S5 k5 g5 s5 q5 => ?_
          rw [hK2] at s5
          exact goOn c H5 S5 k5 g5 s5 q5
        | cons _ _ => exact q4.elim
  · have e1 : i = ds.length := by omega
    refine .inl ⟨by rw [e1]; exact it.stop S2 H2 t2, ?_⟩
    rw [List.drop_eq_nil_of_le (by omega)] at q2
    refine Pq D' vs2 H2 acc S2 (k2.trans k1) (g1.trans (by rw [← k1]; exact g2)) ev2.st (back_none E.st g1 k1 s1 hD) hD2 ?_ q2
    rw [← k1]
    exact r2

theorem dn_lc {scope : Scope} {own : List (Str × Nat)} {ifs : List Expr} {elt : Expr} {Ψ : List D → Sto → Prop} (A : At X P w K mg base tb names k) (hk : scope.kind = .function) (hb : blkD tb names scope.names own = true) (hs : ∀ x, foldedSetIterable iter X.env x = pure x)
    (h : DI X tg iter ρ S fun ds S1 => ds.length ≤ sizeLine ∧ LcN X scope (okOf own) tg ifs elt ds (wipeR ρ (own.map (·.2))) S1 (unL Ψ)) : DN X (.ListComp elt [⟨tg, iter, ifs, 0⟩] scope pos) ρ S Ψ :=
  DN.of (pe_lc (own := own) (g := tgB (blks X scope) tg) (tt := ttB (blks X scope) ifs) (te := teB (blks X scope) elt) A.calm A.nd pi_w (blkD_ok A hk hb)
    (fun s H C cl fp => ⟨fun pins s' σ H' v u Q I r q => q _ ⟨s, H, C, cl, fp, rfl⟩ pins s' u I r⟩) (fun s H C cl fp => pts_b ⟨s, H, C, cl, fp, rfl⟩) (fun s H C cl fp => ⟨fun pins s' σ H' Q I q => q _ ⟨s, H, C, cl, fp, rfl⟩ pins s' I⟩) hs)
    fun Zh σ H Q E P => h.tw E fun J H1 ds S1 k1 g1 s1 it q D' hD => lc_readN (fun _ => blks_K) (fun _ => okOf_no) E k1 g1 s1 it q.1 q.2 P hD
end
end Ar
namespace Ar
open PySem PySem.Spec PyProof.Rows L2
/-! ### own lists: seen as data while an expression is worked out -/
structure StR (own : List Nat) (η : En) (ρ : Ro) (R : Sto) : Prop where
  l : η.length = ρ.length
  v : ∀ (i : Nat) (d : D), i ∉ own → η[i]? = some (some d) → ρ[i]? = some (some d)
  o : ∀ i, i ∈ own → ∃ l p, η[i]? = some (some (.lst l)) ∧ ρ[i]? = some (some (.cell p)) ∧ (p, l) ∈ R
  nd : ∀ (i j : Nat) (p : Addr), i ∈ own → j ∈ own → ρ[i]? = some (some (.cell p)) → ρ[j]? = some (some (.cell p)) → i = j
  fl : FlatS R
section
variable {K : PySem.W.Frag} {Zh : List Addr} {H H' : Hp} {σ : L2.St} {ρ : Ro} {S0 R : Sto} {own : List Nat} {η : En}
theorem Ev.froz (E : Ev K Zh H σ ρ (S0 ++ R)) (s : StR own η ρ R) : Ev K Zh H σ η S0 := by
  have sub : ∀ p, p ∈ keys S0 ++ Zh → p ∈ keys (S0 ++ R) ++ Zh := fun p m => by
    rw [keys_append]
    rcases List.mem_append.mp m with z | z
    · exact List.mem_append_left _ (List.mem_append_left _ z)
    · exact List.mem_append_right _ z
  refine ⟨E.st.drop, by rw [E.len, s.l], fun i d h => ?_⟩
  by_cases hi : i ∈ own
  · obtain ⟨l, p, h1, h2, h3⟩ := s.o i hi
    rw [h] at h1
    cases h1
    obtain ⟨v, e, r⟩ := E.var i _ h2
    obtain ⟨vs, e1, r1⟩ := E.st.st p l (List.mem_append_right _ h3)
    refine ⟨v, e, ?_⟩
    rw [r.cell]
    unfold Rep
    refine ⟨p, vs, rfl, fun m => ?_, e1, r1.shrink sub⟩
    have pk : p ∈ keys R := List.mem_map.mpr ⟨_, h3, rfl⟩
    rcases List.mem_append.mp m with z | z
    · have nd := E.st.nd
      rw [keys_append, List.nodup_append] at nd
      exact nd.2.2 p z p pk rfl
    · exact (E.st.hid p z).1 (by rw [keys_append]; exact List.mem_append_right _ pk)
  · obtain ⟨v, e, r⟩ := E.var i d (s.v i d hi h)
    exact ⟨v, e, r.shrink sub⟩
theorem Store.melt (s : Store K Zh H (S0 ++ R)) (s' : Store K Zh H' S0) (g : Grow (keys S0) H H') (f0 : FlatS S0) (fR : FlatS R) : Store K Zh H' (S0 ++ R) := by
  have z : Zl (keys S0) H := s.drop.zl
  have out : ∀ p, p ∈ keys R → p ∉ keys S0 := fun p m q => by
    have nd := s.nd
    rw [keys_append, List.nodup_append] at nd
    exact nd.2.2 p q p m rfl
  refine ⟨s.nd, fun p l m => ?_, fun p m => ?_⟩
  · rcases List.mem_append.mp m with m | m
    · obtain ⟨vs, e, r⟩ := s'.st p l m
      exact ⟨vs, e, r.flat (f0 p l m)⟩
    · obtain ⟨vs, e, r⟩ := s.st p l (List.mem_append_right _ m)
      have pk : p ∈ keys R := List.mem_map.mpr ⟨_, m, rfl⟩
      have r2 : RepL K (keys S0 ++ Zh) H l vs := r.flat (fR p l m)
      exact ⟨vs, g _ _ (out p pk) e, (RepL.grow z g sub_l r2).flat (fR p l m)⟩
  · obtain ⟨n, vs, e⟩ := s.hid p m
    exact ⟨n, vs, g _ _ (fun q => n (by rw [keys_append]; exact List.mem_append_left _ q)) e⟩
theorem grow_app (g : Grow (keys S0) H H') : Grow (keys (S0 ++ R)) H H' := fun b x n h => g b x (fun m => n (by rw [keys_append]; exact List.mem_append_left _ m)) h
end
def flatO : Out D → Out D
  | .ok d => if flatD d then .ok d else .bad
  | .ex c => .ex c
  | .bad => .bad
def flatLO : Out (List D) → Out (List D)
  | .ok d => if flatL d then .ok d else .bad
  | .ex c => .ex c
  | .bad => .bad
/-! new lists -/
def PON (cls : Cls) (W : WX) (K : PySem.W.Frag) (Zh : List Addr) (σ : L2.St) (H : Hp) (S : Sto) (Q : VK) : Out (List D) → Prop
  | .ok l => ∀ c vs H', Grow (keys S) H H' → Store K ([c] ++ Zh) H' S → H c = none → H' c = some (.lst vs) → RepL K (keys S ++ ([c] ++ Zh)) H' l vs → Q (.ref c) H'
  | .ex c => ∃ a, cls c = some a ∧ ∀ H', Grow (keys S) H H' → Store K Zh H' S → W (.ref a) none σ H'
  | .bad => False
def RunN (cls : Cls) (X : Cx) (W : WX) (e : Expr) (ρ : Ro) (S : Sto) (o : Out (List D)) : Prop :=
  ∀ (Zh : List Addr) (pins : List (Addr × Obj)) (s : Shared) (σ : L2.St) (H : Hp) (Q : VK), Inv X pins σ H s → Ev X.K Zh H σ ρ S → PON cls W X.K Zh σ H S Q o → wpAny (model X.prog X.w) X.A (eval e X.env) (EP X pins σ Q) X.xe s
section
variable {cls : Cls} {X : Cx} {W : WX} {ρ : Ro} {S S0 R : Sto} {e a b c : Expr} {es : List Expr} {pos p : Pos} {own : List Nat} {η : En}
theorem RunN.bad : RunN cls X W e ρ S .bad := fun Zh pins s σ H Q I E q => q.elim
theorem RunN.tw {o : Out (List D)} {Zh : List Addr} {σ : L2.St} {H : Hp} {Q : VK} (h : RunN cls X W e ρ S o) (E : Ev X.K Zh H σ ρ S) (q : PON cls W X.K Zh σ H S Q o) : tW X e σ H Q := fun pins s I => h Zh pins s σ H Q I E q
theorem RunN.dn {l : List D} (h : ∀ Ψ : List D → Sto → Prop, Ψ l S → DN X e ρ S Ψ) : RunN cls X W e ρ S (.ok l) := fun Zh pins s σ H Q I E q => h (fun l' S' => l' = l ∧ S' = S) ⟨rfl, rfl⟩ Zh pins s σ H Q I E fun c vs H' l' S' k g s' hc h1 r q' => by
  obtain ⟨rfl, rfl⟩ := q'
  exact q c vs H' g s' hc h1 r
theorem RunN.exOf {cc : Str} (h : RunE cls X W e ρ S (.ex cc)) : RunN cls X W e ρ S (.ex cc) := fun Zh pins s σ H Q I E q => h Zh pins s σ H Q I E q
theorem RunN.toE {l : List D} (h : RunN cls X W e ρ S (.ok l)) : RunE cls X W e ρ S (.ok (.lst l)) := fun Zh pins s σ H Q I E q => h Zh pins s σ H Q I E fun c vs H' g s' hc h1 r => by
  refine q (.ref c) H' g s'.unhide ?_
  unfold Rep
  refine ⟨c, vs, rfl, E.st.free hc, h1, r.shrink fun q hq => ?_⟩
  rcases List.mem_append.mp hq with z | z
  · exact List.mem_append_left _ z
  · exact List.mem_append_right _ (List.mem_append_right _ z)
theorem RunE.thaw {o : Out D} (h : RunE cls X W e η S0 o) (s : StR own η ρ R) (f0 : FlatS S0) : RunE cls X W e ρ (S0 ++ R) (flatO o) := fun Zh pins sh σ H Q I E P => by
  refine h Zh pins sh σ H Q I (E.froz s) ?_
  cases o with
  | bad => exact P
  | ex c =>
    obtain ⟨a, e1, h1⟩ := P
    exact ⟨a, e1, fun H' g s' => h1 H' (grow_app g) (E.st.melt s' g f0 s.fl)⟩
  | ok d =>
    have P' : PO cls W X.K Zh σ H (S0 ++ R) Q (if flatD d then .ok d else .bad) := P
    cases hd : flatD d with
    | false =>
      rw [hd] at P'
      exact P'.elim
    | true =>
      rw [hd] at P'
      exact fun v H' g s' r => P' v H' (grow_app g) (E.st.melt s' g f0 s.fl) (r.flat hd)
theorem RunT.thaw {o : Out Bool} (h : RunT cls X W e η S0 o) (s : StR own η ρ R) (f0 : FlatS S0) : RunT cls X W e ρ (S0 ++ R) o := fun Zh pins sh σ H Q I E P => by
  refine h Zh pins sh σ H Q I (E.froz s) ?_
  cases o with
  | bad => exact P
  | ex c =>
    obtain ⟨a, e1, h1⟩ := P
    exact ⟨a, e1, fun H' g s' => h1 H' (grow_app g) (E.st.melt s' g f0 s.fl)⟩
  | ok d => exact fun H' g s' => P H' (grow_app g) (E.st.melt s' g f0 s.fl)
theorem RunN.thaw {o : Out (List D)} (h : RunN cls X W e η S0 o) (s : StR own η ρ R) (f0 : FlatS S0) : RunN cls X W e ρ (S0 ++ R) (flatLO o) := fun Zh pins sh σ H Q I E P => by
  refine h Zh pins sh σ H Q I (E.froz s) ?_
  cases o with
  | bad => exact P
  | ex c =>
    obtain ⟨a, e1, h1⟩ := P
    exact ⟨a, e1, fun H' g s' => h1 H' (grow_app g) (E.st.melt s' g f0 s.fl)⟩
  | ok l =>
    have P' : PON cls W X.K Zh σ H (S0 ++ R) Q (if flatL l then .ok l else .bad) := P
    cases hd : flatL l with
    | false =>
      rw [hd] at P'
      exact P'.elim
    | true =>
      rw [hd] at P'
      refine fun c vs H' g s' hc h1 r => P' c vs H' (grow_app g) ?_ hc h1 (r.flat hd)
      have st := E.st.melt s'.unhide g f0 s.fl
      refine ⟨st.nd, fun p l' m => ?_, fun p m => ?_⟩
      · obtain ⟨us, e2, r2⟩ := st.st p l' m
        refine ⟨us, e2, r2.flat ?_⟩
        rcases List.mem_append.mp m with m | m
        · exact f0 p l' m
        · exact s.fl p l' m
      · rcases List.mem_append.mp m with m | m
        · rw [List.mem_singleton.mp m]
          exact ⟨fun q => E.st.free hc (List.mem_append_left _ q), vs, h1⟩
        · exact st.hid p m
end
end Ar
namespace Ar
open PySem PySem.Spec PyProof.Rows L2
def isFresh (T : IT) : Expr → Bool
  | .List .. => true
  | .ListComp .. => true
  | .Call (.Name f _) _ [] _ => (T.ar.lookup f).isSome || f == "list" || f == "sorted"
  | .BinOp _ .Add _ _ => true
  | .Subscript _ (.Slice (some _) none none _) _ => true
  | _ => false
def unLst : Out D → Out (List D)
  | .ok (.lst l) => .ok l
  | .ex c => .ex c
  | _ => .bad
theorem unLst_ok {o : Out D} {l : List D} (h : unLst o = .ok l) : o = .ok (.lst l) := by
  unfold unLst at h
  split at h <;> cases h
  rfl
section
variable {cls : Cls} {X : Cx} {W : WX} {ρ : Ro} {S : Sto} {e a b c : Expr} {es : List Expr} {pos p tpos : Pos} {tg : Expr} {P : Program} {w : World} {K : PySem.W.Frag} {mg : Str → Option Value} {base : Heap} {tb : List (Str × Nat)} {names : List (Str × NameKind)} {k j : Nat} {T : IT} {r : Rc} {η : En}
theorem opB_lst {x y : D} {l : List D} (h : opB .Add x y = .ok (.lst l)) : ∃ a b, x = .lst a ∧ y = .lst b ∧ Nat.ble (a.length + b.length) 1000 = true ∧ l = a ++ b := by
  unfold opB at h
  split at h
  · unfold rngO at h
    split at h
    · unfold rngB at h
      cases h
    · cases h
  · cases x <;> first | (cases y <;> (unfold opB0 at h; dsimp only at h; (try split at h) <;> first | (cases h; done) | skip)) | skip
    rename_i l1 m1 hs
    cases h
    exact ⟨_, _, rfl, rfl, hs, rfl⟩
theorem dn_cat {Φ : List D → Sto → Prop} {l m : List D} (c : l.length + m.length ≤ sizeLine) (ha : ∀ Ψ : D → Sto → Prop, Ψ (.lst l) S → DE X a ρ S Ψ) (hb : ∀ Ψ : D → Sto → Prop, Ψ (.lst m) S → DE X b ρ S Ψ) (q : Φ (l ++ m) S) : DN X (.BinOp a .Add b pos) ρ S Φ :=
  DN.of (pe_op op_cat pe_w pe_w) fun Zh σ H Q E P => (ha (fun d S' => d = .lst l ∧ S' = S) ⟨rfl, rfl⟩).bind E fun x H1 da S1 k1 g1 E1 r1 h1 => by
    obtain ⟨rfl, rfl⟩ := h1
    refine (hb (fun d S' => d = .lst m ∧ S' = S1) ⟨rfl, rfl⟩).bind E1 fun y H2 db S2 k2 g2 E2 r2 h2 => ?_
    obtain ⟨rfl, rfl⟩ := h2
    obtain ⟨p, vs, rfl, n1, h1, q1⟩ := (E1.st.gr g2 r1).lst
    obtain ⟨p2, vs2, rfl, n2, h2, q2⟩ := r2.lst
    refine ⟨p, p2, vs, vs2, rfl, rfl, h1, h2, by rw [q1.length, q2.length]; exact c, fun z hz => ?_⟩
    exact (P.next E.st rfl (g1.trans g2) E2.st).lst E2.st (q1.append q2) q hz
theorem dn_slLo {Φ : List D → Sto → Prop} {x : D} {i : Int} {l : List D} {p2 : Pos} (ha : ∀ Ψ : D → Sto → Prop, Ψ x S → DE X a ρ S Ψ) (hb : ∀ Ψ : D → Sto → Prop, Ψ (.int i) S → DE X b ρ S Ψ) (h : slO x (some i) none = .ok (.lst l)) (q : Φ l S) : DN X (.Subscript a (.Slice (some b) none none p2) pos) ρ S Φ :=
  DN.of (pe_slice sl_any pe_w (po_some pe_w) po_none) fun Zh σ H Q E P => (ha (fun d S' => d = x ∧ S' = S) ⟨rfl, rfl⟩).bind E fun v H1 da S1 k1 g1 E1 r1 h1 => by
    obtain ⟨rfl, rfl⟩ := h1
    refine (hb (fun d S' => d = .int i ∧ S' = S1) ⟨rfl, rfl⟩).bind E1 fun y H2 db S2 k2 g2 E2 r2 h2 => ?_
    obtain ⟨rfl, rfl⟩ := h2
    refine ⟨i, r2.int, ?_⟩
    have r3 := E1.st.gr g2 r1
    have P2 := P.next E.st rfl (g1.trans g2) E2.st
    unfold slO at h
    split at h
    · cases h
    · cases h
      obtain ⟨p, vs, rfl, _, sq, rl⟩ := r3.lst
      exact .inl ⟨p, vs, rfl, .inl (.inl sq), fun z hz => P2.lst E2.st rl.cut q hz⟩
    · cases h
      obtain ⟨p, vs, rfl, sq, rl⟩ := r3.frzL
      exact .inl ⟨p, vs, rfl, sq, fun z hz => P2.lst E2.st rl.cut q hz⟩
    · split at h <;> cases h
    · cases h
theorem ifsO_ok (g : Good cls P w K mg base tb k r) (A : At X P w K mg base tb names k) {scope : Scope} (hk : scope.kind = .function) (hS : FlatS S) {ifs : List Expr} {η1 : En} {ρ1 : Ro} {c1 : Bool} {Ψ : Bool → Sto → Prop} (h1 : EnL η1 ρ1) (h2 : ifsO r scope.names ifs η1 = .ok c1) (hΨ : Ψ c1 S) : DTb (blks X scope) ifs ρ1 S Ψ := by
  unfold ifsO at h2
  split at h2
  · cases h2
    exact hΨ
  · rename_i c0
    intro X' hX
    have := g.t X' (fun _ _ _ _ => False) scope.names c0 η1 ρ1 S (A.blk hk hX) takes0 h1 hS
    rw [h2] at this
    exact this.dtOf hΨ
  · cases h2
theorem freshO_ok (g : Good cls P w K mg base tb k r) (F : CallOk cls T P w K mg base j) (hj : j ≤ k) (A : At X P w K mg base tb names k) (G : GlobOk T w K mg) (tk : Takes X W) (hη : EnL η ρ) (hS : FlatS S) (hf : isFresh T e = true) : RunN cls X W e ρ S (unLst (stepE T tb r names e η)) := by
  have ge := fun a => g.e X W names a η ρ S A tk hη hS
  have whole := stepE_ok (e := e) g F hj A G tk hη hS
  cases ho : unLst (stepE T tb r names e η) with
  | bad => exact RunN.bad
  | ex cc =>
    have h2 : stepE T tb r names e η = .ex cc := by
      unfold unLst at ho
      split at ho <;> cases ho
      assumption
    rw [h2] at whole
    exact RunN.exOf whole
  | ok l =>
    have h2 := unLst_ok ho
    refine RunN.dn fun Ψ q => ?_
    unfold isFresh at hf
    split at hf
    · unfold stepE at h2
      dsimp only at h2
      split at h2
      · rename_i hh
        rw [Bool.and_eq_true] at hh
        obtain ⟨i1, i2⟩ := evA_ok (r := r) g A tk hη hS _ hh.1
        obtain ⟨l', h3, h4⟩ := Out.bind_ok h2
        cases h4
        rw [h3] at i1
        exact dn_lst hh.2 (i1.daOf (i2 _ h3) q)
      · cases h2
    · rename_i elt gens scope pos
      unfold stepE compO at h2
      dsimp only at h2
      split at h2
      · rename_i tg iter ifs as
        split at h2
        · rename_i own hown
          split at h2
          · rename_i hh
            simp only [Bool.and_eq_true, Bool.not_eq_true', decide_eq_true_eq] at hh
            obtain ⟨⟨⟨rfl, hk⟩, hb⟩, hset⟩ := hh
            have gi := iterO_ok (tg := tg) (iter := iter) g A G.nob tk hη hS
            obtain ⟨ds, h3, h4⟩ := Out.bind_ok h2
            rw [h3] at gi
            split at h4
            · rename_i hlen
              obtain ⟨l', h5, h6⟩ := Out.bind_ok h4
              have h5 := nx_ok h5
              cases h6
              refine dn_lc (own := own) A hk hb (fun x => folded_no hset) (gi.diOf ⟨line_of (Nat.le_of_ble_eq_true hlen) (by decide), ?_⟩)
              have hw := EnR.wipe hη (own.map (·.2))
              refine lc_run (bnd := bindT tb scope.names (okOf own) 3 tg) (cond := ifsO r scope.names ifs) (el := r.E scope.names elt) hw (fun X' hX d η1 h1 Ψ hΨ => bindT_ok (A.blk hk hX) 3 tg d _ η1 _ hw h1 Ψ hΨ) ?_ (fun X' hX η1 ρ1 y h1 h2 Ψ hΨ => ?_) ds [] _ h5 (unL Ψ) (by rw [List.nil_append]; exact q)
              · exact fun η1 ρ1 c1 h1 h2 Ψ hΨ => ifsO_ok g A hk hS h1 h2 hΨ
              · have := g.e X' (fun _ _ _ _ => False) scope.names elt η1 ρ1 S (A.blk hk hX) takes0 h1 hS
                rw [h2] at this
                exact this.deOf hΨ
            · cases h4
          · cases h2
        · cases h2
      · cases h2
    · rename_i f _ es _
      unfold stepE at h2
      dsimp only at h2
      unfold callO at h2
      split at h2
      · rename_i hg
        split at h2
        · rename_i n hn
          split at h2
          · cases h2
          · rename_i e es
            split at h2
            · rename_i hh
              rw [Bool.and_eq_true] at hh
              obtain ⟨i1, i2⟩ := evA_ok (r := r) g A tk hη hS (e :: es) hh.2
              obtain ⟨ds, h3, h4⟩ := Out.bind_ok h2
              rw [h3] at i1
              obtain ⟨s1, s2⟩ := noStar_cons hh.2
              exact dn_call A (F.n f n hn) (by rw [Nat.ble_eq.mpr hj, hh.1, hg]; rfl) (star_no s1) (star_pl s2) (i1.daOf (i2 _ h3) ⟨l, h4, hS, q⟩)
            · cases h2
        · rename_i hn
          rw [hn] at hf
          have e1 : f = "list" ∨ f = "sorted" := by simpa using hf
          rcases e1 with e1 | e1
          rotate_left
          · subst e1
            split at h2
            · rename_i a
              split at h2
              · cases h2
              · rename_i hs
                have hs : isStar a = false := by simpa using hs
                split at h2
                · rename_i g' hf2
                  cases hf2
                · split at h2
                  · rename_i hq
                    cases hq
                  · split at h2
                    · obtain ⟨x, h3, h4⟩ := Out.bind_ok h2
                      have ha := ge a
                      rw [h3] at ha
                      exact dn_sortD A G.nob hg (star1 hs) h4 (fun Ψ q => ha.deOf q) q
                    · cases h2
            · rename_i a b
              split at h2
              · rename_i hq
                cases hq
              · split at h2
                · cases h2
                · split at h2
                  · rename_i hq
                    cases hq
                  · cases h2
            · cases h2
          subst e1
          split at h2
          · rename_i a
            split at h2
            · cases h2
            · rename_i hs
              have hs : isStar a = false := by simpa using hs
              split at h2
              · rename_i g' hf2
                cases hf2
                obtain ⟨x, h3, h4⟩ := Out.bind_ok h2
                have ha := ge a
                rw [h3] at ha
                unfold bi1O at h4
                dsimp only at h4
                split at h4
                · rename_i m hm
                  cases h4
                  exact dn_listOf A G.nob hg (star1 hs) (ha.deOf ⟨_, seqO_ok hm, q⟩)
                · cases h4
              · cases h2
          · rename_i a b
            split at h2
            · rename_i hq
              cases hq
            · split at h2
              · cases h2
              · split at h2
                · rename_i hq
                  cases hq
                · cases h2
          · cases h2
      · cases h2
    · rename_i a b _
      unfold stepE at h2
      dsimp only at h2
      obtain ⟨x, h3, h4⟩ := Out.bind_ok h2
      obtain ⟨y, h5, h6⟩ := Out.bind_ok h4
      have ha := ge a
      have hb := ge b
      rw [h3] at ha
      rw [h5] at hb
      obtain ⟨l1, m1, rfl, rfl, hs, rfl⟩ := opB_lst h6
      exact dn_cat (line_of (Nat.le_of_ble_eq_true hs) (by decide)) (fun Ψ q => ha.deOf q) (fun Ψ q => hb.deOf q) q
    · rename_i a b p2 pos
      unfold stepE at h2
      dsimp only at h2
      unfold subO at h2
      dsimp only at h2
      obtain ⟨x, h3, h4⟩ := Out.bind_ok h2
      obtain ⟨y, h5, h6⟩ := Out.bind_ok h4
      obtain ⟨i, h7, h8⟩ := Out.bind_ok h6
      have ha := ge a
      have hb := ge b
      rw [h3] at ha
      rw [h5] at hb
      obtain rfl := intO_ok h7
      exact dn_slLo (fun Ψ q => ha.deOf q) (fun Ψ q => hb.deOf q) h8 q
    · cases hf
end
end Ar
namespace Ar
open PySem PySem.Spec PyProof.Rows L2
/-! ### statements: the state -/
structure En2 where
  e : En
  o : List Nat
inductive Fl where | nx (η : En2) | rt (d : D) | bk (η : En2) | ct (η : En2)
def without (i : Nat) (o : List Nat) : List Nat := o.filter fun j => !Nat.beq i j
theorem mem_without {i j : Nat} {o : List Nat} : j ∈ without i o ↔ j ∈ o ∧ i ≠ j := by
  unfold without
  rw [List.mem_filter]
  constructor
  · intro ⟨h1, h2⟩
    refine ⟨h1, fun e => ?_⟩
    subst e
    rw [Nat.beq_refl] at h2
    cases h2
  · intro ⟨h1, h2⟩
    refine ⟨h1, ?_⟩
    cases e : Nat.beq i j with
    | false => rfl
    | true => exact absurd (Nat.eq_of_beq_eq_true e) h2
def En2.put (η : En2) (i : Nat) (d : D) : En2 := ⟨η.e.set i (some d), without i η.o⟩
def En2.putL (η : En2) (i : Nat) (l : List D) : En2 := ⟨η.e.set i (some (.lst l)), i :: without i η.o⟩
section
variable {own : List Nat} {η : En} {ρ : Ro} {R N : Sto} {i : Nat} {d : D} {l : List D} {c : Addr}
theorem StR.put (s : StR own η ρ R) : StR (without i own) (η.set i (some d)) (ρ.set i (some d)) R where
  l := by rw [List.length_set, List.length_set]; exact s.l
  v := fun j d' hj h => by
    by_cases e : i = j
    · subst e
      by_cases hl : i < η.length
      · rw [List.getElem?_set_self hl] at h
        rw [List.getElem?_set_self (by rw [← s.l]; exact hl)]
        exact h
      · rw [List.getElem?_eq_none (by rw [List.length_set]; omega)] at h
        cases h
    · rw [List.getElem?_set_ne e] at h
      rw [List.getElem?_set_ne e]
      exact s.v j d' (fun m => hj (mem_without.mpr ⟨m, e⟩)) h
  o := fun j hj => by
    obtain ⟨m, e⟩ := mem_without.mp hj
    rw [List.getElem?_set_ne e, List.getElem?_set_ne e]
    exact s.o j m
  nd := fun a b p ha hb h1 h2 => by
    obtain ⟨ma, ea⟩ := mem_without.mp ha
    obtain ⟨mb, eb⟩ := mem_without.mp hb
    rw [List.getElem?_set_ne ea] at h1
    rw [List.getElem?_set_ne eb] at h2
    exact s.nd a b p ma mb h1 h2
  fl := s.fl
theorem StR.putCell (s : StR own η ρ R) (hi : i < η.length) (hc : (c, l) ∈ R) (hn : ∀ (j : Nat) (p : Addr), j ∈ own → ρ[j]? = some (some (.cell p)) → p ≠ c) : StR (i :: without i own) (η.set i (some (.lst l))) (ρ.set i (some (.cell c))) R where
  l := by rw [List.length_set, List.length_set]; exact s.l
  v := fun j d' hj h => by
    rw [List.mem_cons] at hj
    have e : i ≠ j := fun e => hj (.inl e.symm)
    rw [List.getElem?_set_ne e] at h
    rw [List.getElem?_set_ne e]
    exact s.v j d' (fun m => hj (.inr (mem_without.mpr ⟨m, e⟩))) h
  o := fun j hj => by
    rcases List.mem_cons.mp hj with e | hj
    · subst e
      exact ⟨l, c, List.getElem?_set_self hi, List.getElem?_set_self (by rw [← s.l]; exact hi), hc⟩
    · obtain ⟨m, e⟩ := mem_without.mp hj
      rw [List.getElem?_set_ne e, List.getElem?_set_ne e]
      exact s.o j m
  nd := fun a b p ha hb h1 h2 => by
    have hi2 : i < ρ.length := by rw [← s.l]; exact hi
    rcases List.mem_cons.mp ha with e1 | ha <;> rcases List.mem_cons.mp hb with e2 | hb
    · rw [e1, e2]
    · subst e1
      obtain ⟨mb, eb⟩ := mem_without.mp hb
      rw [List.getElem?_set_self hi2] at h1
      rw [List.getElem?_set_ne eb] at h2
      cases h1
      exact absurd rfl (hn b _ mb h2)
    · subst e2
      obtain ⟨ma, ea⟩ := mem_without.mp ha
      rw [List.getElem?_set_self hi2] at h2
      rw [List.getElem?_set_ne ea] at h1
      cases h2
      exact absurd rfl (hn a _ ma h1)
    · obtain ⟨ma, ea⟩ := mem_without.mp ha
      obtain ⟨mb, eb⟩ := mem_without.mp hb
      rw [List.getElem?_set_ne ea] at h1
      rw [List.getElem?_set_ne eb] at h2
      exact s.nd a b p ma mb h1 h2
  fl := s.fl
theorem StR.more (s : StR own η ρ R) (f : FlatS N) : StR own η ρ (R ++ N) where
  l := s.l
  v := s.v
  o := fun j hj => by
    obtain ⟨l, p, h1, h2, h3⟩ := s.o j hj
    exact ⟨l, p, h1, h2, List.mem_append_left _ h3⟩
  nd := s.nd
  fl := fun p l m => by
    rcases List.mem_append.mp m with m | m
    · exact s.fl p l m
    · exact f p l m
/-- a write at slot i's list -/
theorem StR.write {A B : Sto} {p : Addr} {l' : List D} (s : StR own η ρ (A ++ (p, l) :: B)) (hi : i ∈ own) (hr : ρ[i]? = some (some (.cell p))) (nd : (keys (A ++ (p, l) :: B)).Nodup) (f : flatL l' = true) : StR own (η.set i (some (.lst l'))) ρ (A ++ (p, l') :: B) where
  l := by rw [List.length_set]; exact s.l
  v := fun j d' hj h => by
    have e : i ≠ j := fun e => hj (e ▸ hi)
    rw [List.getElem?_set_ne e] at h
    exact s.v j d' hj h
  o := fun j hj => by
    by_cases e : i = j
    · subst e
      obtain ⟨m, q, h1, h2, h3⟩ := s.o i hi
      have hl : i < η.length := (List.getElem?_eq_some_iff.mp h1).1
      exact ⟨l', p, List.getElem?_set_self hl, hr, List.mem_append_right _ List.mem_cons_self⟩
    · obtain ⟨m, q, h1, h2, h3⟩ := s.o j hj
      rw [List.getElem?_set_ne e]
      have qp : q ≠ p := fun z => by
        subst z
        exact e (s.nd i j q hi hj hr h2)
      refine ⟨m, q, h1, h2, ?_⟩
      rcases List.mem_append.mp h3 with h3 | h3
      · exact List.mem_append_left _ h3
      · rcases List.mem_cons.mp h3 with h3 | h3
        · cases h3
          exact absurd rfl qp
        · exact List.mem_append_right _ (List.mem_cons_of_mem _ h3)
  nd := s.nd
  fl := fun q m h => by
    rcases List.mem_append.mp h with h | h
    · exact s.fl q m (List.mem_append_left _ h)
    · rcases List.mem_cons.mp h with h | h
      · cases h
        exact f
      · exact s.fl q m (List.mem_append_right _ (List.mem_cons_of_mem _ h))
theorem StR.ownIn (s : StR own η ρ R) {j : Nat} {p : Addr} (hj : j ∈ own) (h : ρ[j]? = some (some (.cell p))) : p ∈ keys R := by
  obtain ⟨l, q, h1, h2, h3⟩ := s.o j hj
  rw [h] at h2
  cases h2
  exact List.mem_map.mpr ⟨_, h3, rfl⟩
/-- .. at its own place -/
theorem StR.split (s : StR own η ρ R) (hi : i ∈ own) : ∃ l p A B, η[i]? = some (some (.lst l)) ∧ ρ[i]? = some (some (.cell p)) ∧ R = A ++ (p, l) :: B := by
  obtain ⟨l, p, h1, h2, h3⟩ := s.o i hi
  obtain ⟨A, B, e⟩ := List.append_of_mem h3
  exact ⟨l, p, A, B, h1, h2, e⟩
end
/-! what is wanted behind a statement -/
def RetI (d d' : D) (R : Sto) : Prop := (isLstD d = false ∧ d' = d) ∨ ∃ l p, d = .lst l ∧ d' = .cell p ∧ (p, l) ∈ R
def PSt (cls : Cls) (W : WX) (K : PySem.W.Frag) (Zh : List Addr) (H : Hp) (S0 R : Sto) (Dn : Ends) : Out Fl → Prop
  | .ok (.nx η) => ∀ σ' H' ρ' R', Step (S0 ++ R) H (S0 ++ R') H' → Ev K Zh H' σ' ρ' (S0 ++ R') → StR η.o η.e ρ' R' → Dn.nx σ' H'
  | .ok (.bk η) => ∀ σ' H' ρ' R', Step (S0 ++ R) H (S0 ++ R') H' → Ev K Zh H' σ' ρ' (S0 ++ R') → StR η.o η.e ρ' R' → Dn.bk σ' H'
  | .ok (.ct η) => ∀ σ' H' ρ' R', Step (S0 ++ R) H (S0 ++ R') H' → Ev K Zh H' σ' ρ' (S0 ++ R') → StR η.o η.e ρ' R' → Dn.ct σ' H'
  | .ok (.rt d) => ∀ v H' d' R', Step (S0 ++ R) H (S0 ++ R') H' → Store K Zh H' (S0 ++ R') → Rep K (keys (S0 ++ R') ++ Zh) H' d' v → RetI d d' R' → FlatS R' → Dn.rt v H'
  | .ex c => ∃ a, cls c = some a ∧ ∀ σ' H' ρ' R', Step (S0 ++ R) H (S0 ++ R') H' → Ev K Zh H' σ' ρ' (S0 ++ R') → W (.ref a) none σ' H'
  | .bad => False
theorem PSt.next {cls : Cls} {W : WX} {K : PySem.W.Frag} {Zh : List Addr} {H H1 : Hp} {S0 R R1 : Sto} {Dn : Ends} {o : Out Fl} (t : Step (S0 ++ R) H (S0 ++ R1) H1) (h : PSt cls W K Zh H S0 R Dn o) : PSt cls W K Zh H1 S0 R1 Dn o := by
  cases o with
  | bad => exact h
  | ex c =>
    obtain ⟨a, e, h⟩ := h
    exact ⟨a, e, fun σ' H' ρ' R' t' => h σ' H' ρ' R' (t.trans t')⟩
  | ok f =>
    cases f with
    | nx η => exact fun σ' H' ρ' R' t' => h σ' H' ρ' R' (t.trans t')
    | bk η => exact fun σ' H' ρ' R' t' => h σ' H' ρ' R' (t.trans t')
    | ct η => exact fun σ' H' ρ' R' t' => h σ' H' ρ' R' (t.trans t')
    | rt d => exact fun v H' d' R' t' => h v H' d' R' (t.trans t')
def RunS (cls : Cls) (X : Cx) (W : WX) (st : Stmt) (ρ : Ro) (S0 R : Sto) (o : Out Fl) : Prop :=
  ∀ (Zh : List Addr) (pins : List (Addr × Obj)) (s : Shared) (σ : L2.St) (H : Hp) (Dn : Ends), Inv X pins σ H s → Ev X.K Zh H σ ρ (S0 ++ R) → PSt cls W X.K Zh H S0 R Dn o → wpAny (model X.prog X.w) X.A (exec st X.env) (SP X pins Dn) X.xe s
def RunSs (cls : Cls) (X : Cx) (W : WX) (st : List Stmt) (ρ : Ro) (S0 R : Sto) (o : Out Fl) : Prop :=
  ∀ (Zh : List Addr) (pins : List (Addr × Obj)) (s : Shared) (σ : L2.St) (H : Hp) (Dn : Ends), Inv X pins σ H s → Ev X.K Zh H σ ρ (S0 ++ R) → PSt cls W X.K Zh H S0 R Dn o → wpAny (model X.prog X.w) X.A (execs st X.env) (SP X pins Dn) X.xe s
section
variable {cls : Cls} {X : Cx} {W : WX} {st : Stmt} {sts : List Stmt} {ρ : Ro} {S0 R : Sto}
theorem RunS.of {t : TS} {o : Out Fl} (p : PS X st t) (h : ∀ Zh σ H Dn, Ev X.K Zh H σ ρ (S0 ++ R) → PSt cls W X.K Zh H S0 R Dn o → t Dn σ H) : RunS cls X W st ρ S0 R o := fun Zh pins s σ H Dn I e k => p.run pins s σ H Dn I (h Zh σ H Dn e k)
theorem RunSs.of {t : TS} {o : Out Fl} (p : PSs X sts t) (h : ∀ Zh σ H Dn, Ev X.K Zh H σ ρ (S0 ++ R) → PSt cls W X.K Zh H S0 R Dn o → t Dn σ H) : RunSs cls X W sts ρ S0 R o := fun Zh pins s σ H Dn I e k => p.run pins s σ H Dn I (h Zh σ H Dn e k)
theorem RunS.tw {o : Out Fl} {Zh : List Addr} {σ : L2.St} {H : Hp} {Dn : Ends} (h : RunS cls X W st ρ S0 R o) (e : Ev X.K Zh H σ ρ (S0 ++ R)) (k : PSt cls W X.K Zh H S0 R Dn o) : tsW X st Dn σ H := fun pins s I => h Zh pins s σ H Dn I e k
theorem RunSs.tw {o : Out Fl} {Zh : List Addr} {σ : L2.St} {H : Hp} {Dn : Ends} (h : RunSs cls X W sts ρ S0 R o) (e : Ev X.K Zh H σ ρ (S0 ++ R)) (k : PSt cls W X.K Zh H S0 R Dn o) : tssW X sts Dn σ H := fun pins s I => h Zh pins s σ H Dn I e k
theorem RunS.bad : RunS cls X W st ρ S0 R .bad := fun _ _ _ _ _ _ _ _ k => k.elim
theorem RunSs.bad : RunSs cls X W sts ρ S0 R .bad := fun _ _ _ _ _ _ _ _ k => k.elim
/-- from a judgement of old that goes on -/
theorem RunS.ds {η : En2} (Rel : Ro → Sto → Prop) (hs : ∀ ρ' R', Rel ρ' R' → (keys (S0 ++ R')).Nodup → StR η.o η.e ρ' R') (h : ∀ E : DEnds, (∀ ρ' R', Rel ρ' R' → E.nx ρ' (S0 ++ R')) → DS X st ρ (S0 ++ R) E) : RunS cls X W st ρ S0 R (.ok (.nx η)) := fun Zh pins s σ H Dn I e k => by
  refine h { nx := fun r s => ∃ R', s = S0 ++ R' ∧ Rel r R', rt := fun _ _ => False } (fun ρ' R' q => ⟨R', rfl, q⟩) Zh pins s σ H Dn I e ⟨fun σ' H' ρ' S' t ev q => ?_, fun _ _ _ _ _ _ _ q => q.elim, fun _ _ _ _ _ _ q => q.elim, fun _ _ _ _ _ _ q => q.elim⟩
  obtain ⟨R', rfl, q⟩ := q
  exact k σ' H' ρ' R' t ev (hs ρ' R' q ev.st.nd)
/-- .. that raises -/
theorem RunS.drs {c : Str} (h : ∀ Θ : XiS, (∀ a, cls c = some a → Θ (.ref a) ρ (S0 ++ R)) → DRS X W st ρ (S0 ++ R) Θ) : RunS cls X W st ρ S0 R (.ex c) := fun Zh pins s σ H Dn I e k => by
  obtain ⟨a, e1, k⟩ := k
  refine h (fun v r s => v = .ref a ∧ r = ρ ∧ s = S0 ++ R) (fun a' e2 => ?_) Zh pins s σ H Dn I e fun v σ' H' ρ' S' t ev q => ?_
  · rw [e1] at e2
    cases e2
    exact ⟨rfl, rfl, rfl⟩
  · obtain ⟨rfl, rfl, rfl⟩ := q
    exact k σ' H' ρ' R t ev
theorem runSs_nil {η : En2} (s : StR η.o η.e ρ R) : RunSs cls X W [] ρ S0 R (.ok (.nx η)) := RunSs.of pss_nil fun Zh σ H Dn e k => k σ H ρ R Step.refl e s
theorem runSs_cons {o : Out Fl} {f : En2 → Out Fl} (h : RunS cls X W st ρ S0 R o) (hf : ∀ η ρ' R', StR η.o η.e ρ' R' → RunSs cls X W sts ρ' S0 R' (f η)) : RunSs cls X W (st :: sts) ρ S0 R (o.bind fun fl => match fl with | .nx η => f η | fl => .ok fl) :=
  RunSs.of (pss_cons ps_w pss_w) fun Zh σ H Dn e k => by
    refine h.tw e ?_
    cases o with
    | bad => exact k
    | ex c => exact k
    | ok fl =>
      cases fl with
      | nx η => exact fun σ' H' ρ' R' t ev s => (hf η ρ' R' s).tw ev (PSt.next t k)
      | bk η => exact k
      | ct η => exact k
      | rt d => exact k
variable {c : Expr} {pos : Pos} {ta tb' : List Stmt} {own : List Nat} {η : En}
theorem runS_if {o : Out Bool} {oa ob : Out Fl} (hc : RunT cls X W c ρ (S0 ++ R) o) (ha : RunSs cls X W ta ρ S0 R oa) (hb : RunSs cls X W tb' ρ S0 R ob) : RunS cls X W (.If c ta tb' pos) ρ S0 R (o.bind fun k => if k then oa else ob) :=
  RunS.of (ps_if pt_w pss_w pss_w) fun Zh σ H Dn e k => by
    cases o with
    | bad => exact k.elim
    | ex cc =>
      obtain ⟨a, e1, k⟩ := k
      exact hc.tw e ⟨a, e1, fun H' g s' => k σ H' ρ R (.of rfl g) (e.next rfl g s')⟩
    | ok b =>
      refine hc.tw e fun H' g s' => ?_
      have ev := e.next rfl g s'
      have k2 := PSt.next (R1 := R) (Step.of rfl g) k
      cases b with
      | true => exact ha.tw ev k2
      | false => exact hb.tw ev k2
end
end Ar
namespace Ar
open PySem PySem.Spec PyProof.Rows L2
structure Cxt where
  T : IT
  tb : List (Str × Nat)
  names : List (Str × NameKind)
  r : Rc
  exs : List Str
def CE (C : Cxt) (e : Expr) (η : En) : Out D := stepE C.T C.tb C.r C.names e η
def CT (C : Cxt) (e : Expr) (η : En) : Out Bool := stepT C.r C.names (stepE C.T C.tb C.r) e η
/-- what stands around a body -/
structure Bd1 (cls : Cls) (X : Cx) (W : WX) (C : Cxt) (P : Program) (w : World) (K : PySem.W.Frag) (mg : Str → Option Value) (base : Heap) (k j : Nat) (S0 : Sto) : Prop where
  A : At X P w K mg base C.tb C.names k
  tk : Takes X W
  g : Good cls P w K mg base C.tb k C.r
  F : CallOk cls C.T P w K mg base j
  hj : j ≤ k
  G : GlobOk C.T w K mg
  f0 : FlatS S0
  cx : ∀ c, C.exs.contains c = true → ∃ a, cls c = some a ∧ ExcK K mg c a
theorem enl {η : En} : EnL η η := ⟨fun _ _ h => h, Nat.le_refl _⟩
section
variable {cls : Cls} {X : Cx} {W : WX} {C : Cxt} {P : Program} {w : World} {K : PySem.W.Frag} {mg : Str → Option Value} {base : Heap} {k j : Nat} {S0 R : Sto} {ρ : Ro} {own : List Nat} {η : En} {e a b : Expr} {es : List Expr} {pos p tpos : Pos} {tg iter : Expr}
theorem Bd1.ev (B : Bd1 cls X W C P w K mg base k j S0) (s : StR own η ρ R) (e : Expr) : RunE cls X W e ρ (S0 ++ R) (flatO (CE C e η)) := (stepE_ok (e := e) B.g B.F B.hj B.A B.G B.tk enl B.f0).thaw s B.f0
theorem Bd1.t (B : Bd1 cls X W C P w K mg base k j S0) (s : StR own η ρ R) (e : Expr) : RunT cls X W e ρ (S0 ++ R) (CT C e η) := (stepT_ok B.g (stepE_ok (e := e) B.g B.F B.hj B.A B.G B.tk enl B.f0) B.A B.tk enl B.f0).thaw s B.f0
theorem Bd1.n (B : Bd1 cls X W C P w K mg base k j S0) (s : StR own η ρ R) (h : isFresh C.T e = true) : RunN cls X W e ρ (S0 ++ R) (flatLO (unLst (CE C e η))) := (freshO_ok B.g B.F B.hj B.A B.G B.tk enl B.f0 h).thaw s B.f0
theorem RunE.ok_of {o : Out D} {d : D} (h : RunE cls X W e ρ S0 (flatO o)) (ho : o = .ok d) (hd : flatD d = true) : RunE cls X W e ρ S0 (.ok d) := by
  subst ho
  have : flatO (.ok d) = .ok d := by
    show (if flatD d then Out.ok d else .bad) = _
    rw [hd]
    rfl
  rwa [this] at h
theorem RunE.ex_of {o : Out D} {c : Str} (h : RunE cls X W e ρ S0 (flatO o)) (ho : o = .ex c) : RunE cls X W e ρ S0 (.ex c) := by
  subst ho
  exact h
theorem RunN.ok_of {o : Out D} {l : List D} (h : RunN cls X W e ρ S0 (flatLO (unLst o))) (ho : o = .ok (.lst l)) (hd : flatL l = true) : RunN cls X W e ρ S0 (.ok l) := by
  subst ho
  have : flatLO (unLst (.ok (.lst l))) = .ok l := by
    show (if flatL l then Out.ok l else .bad) = _
    rw [hd]
    rfl
  rwa [this] at h
theorem RunN.dnOf {l : List D} {Ψ : List D → Sto → Prop} (h : RunN cls X W e ρ S0 (.ok l)) (q : Ψ l S0) : DN X e ρ S0 Ψ := fun Zh pins s σ H Q I E P => h Zh pins s σ H Q I E fun c vs H' g s' hc h1 r => P c vs H' l S0 rfl g s' hc h1 r q
theorem RunS.exFrom {st : Stmt} {c : Str} (he : RunE cls X W e ρ (S0 ++ R) (.ex c)) (hd : ∀ Θ : XiS, (DR X W e ρ (S0 ++ R) fun v S1 => Θ v ρ S1) → DRS X W st ρ (S0 ++ R) Θ) : RunS cls X W st ρ S0 R (.ex c) := fun Zh pins s σ H Dn I ev k => by
  obtain ⟨a, e1, k⟩ := k
  refine hd (fun v r s => v = .ref a ∧ r = ρ ∧ s = S0 ++ R) (he.drOf e1 ⟨rfl, rfl, rfl⟩) Zh pins s σ H Dn I ev fun v σ' H' ρ' S' t ev q => ?_
  obtain ⟨rfl, rfl, rfl⟩ := q
  exact k σ' H' ρ' R t ev
/-! x = e -/
def asgO (C : Cxt) (x : Str) (e : Expr) (η : En2) : Out Fl := match C.tb.lookup x with
  | none => .bad
  | some i => if stB (C.names.lookup x) && Nat.blt i η.e.length && (!isComp e || cfB (C.names.lookup x)) then match CE C e η.e with
      | .ok d => match isLstD d, d with
        | true, .lst l => if isFresh C.T e && flatL l then .ok (.nx (η.putL i l)) else .bad
        | _, d => if flatD d then .ok (.nx (η.put i d)) else .bad
      | .ex c => .ex c
      | .bad => .bad
    else .bad
theorem new_ne {A : Sto} {c : Addr} {l : List D} (nd : (keys (S0 ++ (R ++ [(c, l)]))).Nodup) (s : StR own η ρ R) : ∀ (j : Nat) (p : Addr), j ∈ own → ρ[j]? = some (some (.cell p)) → p ≠ c := fun j p hj h e => by
  subst e
  have h1 := s.ownIn hj h
  rw [keys_append, keys_append, List.nodup_append] at nd
  have := (List.nodup_append.mp nd.2.1).2.2 p h1 p (by exact List.mem_singleton.mpr rfl)
  exact this rfl
theorem flat_one {c : Addr} {l : List D} (h : flatL l = true) : FlatS [(c, l)] := fun p m hm => by
  cases List.mem_singleton.mp hm
  exact h
theorem sw_ok {x : Str} {px : Pos} {n : Nat} {tb : List (Str × Nat)} {names : List (Str × NameKind)} (A : At X P w K mg base tb names k) (h : (!isComp e || cfB (names.lookup x)) = true) : swapsWithSole [.Name x px] e n X.env = pure false := by
  rw [Bool.or_eq_true, Bool.not_eq_true'] at h
  rcases h with h | h
  · exact swapsSole_no h
  · have hk : (X.env.kindOf x == some .local) = false := by
      rcases A.cf x h with q | q
      · show (X.env.scope.names.lookup x == some .local) = false
        rw [q]
        rfl
      · show (X.env.scope.names.lookup x == some .local) = false
        rw [q]
        rfl
    show swapsWith e (some (.Name x px)) n X.env = pure false
    unfold swapsWith
    cases e <;> first | rfl | (dsimp only; simp only [hk, Bool.and_false, Bool.false_and])
theorem runS_put {x : Str} {i : Nat} {d : D} {η : En2} (B : Bd1 cls X W C P w K mg base k j S0) (s : StR η.o η.e ρ R) (hi : C.tb.lookup x = some i) (hst : stB (C.names.lookup x) = true) (hcmp : swapsWithSole [.Name x p] e pos.line X.env = pure false) (he : RunE cls X W e ρ (S0 ++ R) (.ok d)) : RunS cls X W (.Assign [.Name x p] e pos) ρ S0 R (.ok (.nx (η.put i d))) := by
  refine RunS.ds (fun ρ' R' => ρ' = ρ.set i (some d) ∧ R' = R) ?_ fun E q => ?_
  · rintro ρ' R' ⟨rfl, rfl⟩ _
    exact s.put
  · exact vSet B.A ⟨hi, hst⟩ hcmp (he.deOf (q _ _ ⟨rfl, rfl⟩))
theorem asgO_ok {x : Str} {η : En2} (B : Bd1 cls X W C P w K mg base k j S0) (s : StR η.o η.e ρ R) : RunS cls X W (.Assign [.Name x p] e pos) ρ S0 R (asgO C x e η) := by
  unfold asgO
  split
  · exact RunS.bad
  · rename_i i hi
    split
    · rename_i hh
      rw [Bool.and_eq_true, Bool.and_eq_true] at hh
      obtain ⟨⟨hst, hil⟩, hcmp⟩ := hh
      have hsw := sw_ok (e := e) (px := p) (n := pos.line) B.A hcmp
      have hil : i < η.e.length := Nat.le_of_ble_eq_true hil
      split
      · rename_i d hd
        split
        · rename_i d0 d1 l _ 
          split
          · rename_i hf
            rw [Bool.and_eq_true] at hf
            have hn := (B.n s hf.1).ok_of hd hf.2
            refine RunS.ds (fun ρ' R' => ∃ c, ρ' = ρ.set i (some (.cell c)) ∧ R' = R ++ [(c, l)]) ?_ fun E q => ?_
            · rintro ρ' R' ⟨c, rfl, rfl⟩ nd
              exact (s.more (flat_one hf.2)).putCell hil (List.mem_append_right _ (List.mem_singleton.mpr rfl)) (new_ne (A := R) nd s)
            · refine vCell B.A ⟨hi, hst⟩ hsw (hn.dnOf fun c => ?_)
              have := q (ρ.set i (some (.cell c))) (R ++ [(c, l)]) ⟨c, rfl, rfl⟩
              rw [← List.append_assoc] at this
              exact this
          · exact RunS.bad
        · split
          · rename_i hf
            have he := (B.ev s e).ok_of hd hf
            exact runS_put B s hi hst hsw he
          · exact RunS.bad
      · rename_i c hc
        have he := (B.ev s e).ex_of hc
        exact RunS.exFrom he fun Θ h => drs_set B.A ⟨hi, hst⟩ hsw h
      · exact RunS.bad
    · exact RunS.bad
end
end Ar
namespace Ar
open PySem PySem.Spec PyProof.Rows L2
section
variable {cls : Cls} {X : Cx} {W : WX} {C : Cxt} {P : Program} {w : World} {K : PySem.W.Frag} {mg : Str → Option Value} {base : Heap} {tb : List (Str × Nat)} {names : List (Str × NameKind)} {k j : Nat} {S S0 R : Sto} {ρ : Ro} {own : List Nat} {η : En} {e a b : Expr} {es : List Expr} {pos p py tpos : Pos} {tg iter : Expr} {T : IT} {r : Rc}
/-! x = [.. for ..] -/
theorem compO_di (g : Good cls P w K mg base tb k r) (A : At X P w K mg base tb names k) (G : NoB mg) (tk : Takes X W) (hη : EnL η ρ) (hS : FlatS S) {elt : Expr} {gens : List Comprehension} {scope : Scope} {l : List D} (h2 : compO tb r names elt gens scope η = .ok (.lst l)) :
    ∃ tg iter ifs own, gens = [⟨tg, iter, ifs, 0⟩] ∧ scope.kind = .function ∧ blkD tb names scope.names own = true ∧ isSet iter = false ∧ ∀ Ψ : List D → Sto → Prop, Ψ l S → DI X tg iter ρ S fun ds S1 => ds.length ≤ sizeLine ∧ LcN X scope (okOf own) tg ifs elt ds (wipeR ρ (own.map (·.2))) S1 (unL Ψ) := by
  unfold compO at h2
  split at h2
  · rename_i tg iter ifs as
    split at h2
    · rename_i own hown
      split at h2
      · rename_i hh
        simp only [Bool.and_eq_true, Bool.not_eq_true', decide_eq_true_eq] at hh
        obtain ⟨⟨⟨rfl, hk⟩, hb⟩, hset⟩ := hh
        refine ⟨tg, iter, ifs, own, rfl, hk, hb, hset, fun Ψ q => ?_⟩
        have gi := iterO_ok (tg := tg) (iter := iter) g A G tk hη hS
        obtain ⟨ds, h3, h4⟩ := Out.bind_ok h2
        rw [h3] at gi
        split at h4
        · rename_i hlen
          obtain ⟨l', h5, h6⟩ := Out.bind_ok h4
          have h5 := nx_ok h5
          cases h6
          refine gi.diOf ⟨line_of (Nat.le_of_ble_eq_true hlen) (by decide), ?_⟩
          have hw := EnR.wipe hη (own.map (·.2))
          refine lc_run (bnd := bindT tb scope.names (okOf own) 3 tg) (cond := ifsO r scope.names ifs) (el := r.E scope.names elt) hw (fun X' hX d η1 h1 Ψ hΨ => bindT_ok (A.blk hk hX) 3 tg d _ η1 _ hw h1 Ψ hΨ) ?_ (fun X' hX η1 ρ1 y h1 h2 Ψ hΨ => ?_) ds [] _ h5 (unL Ψ) (by rw [List.nil_append]; exact q)
          · exact fun η1 ρ1 c1 h1 h2 Ψ hΨ => ifsO_ok g A hk hS h1 h2 hΨ
          · have := g.e X' (fun _ _ _ _ => False) scope.names elt η1 ρ1 S (A.blk hk hX) takes0 h1 hS
            rw [h2] at this
            exact this.deOf hΨ
        · cases h4
      · cases h2
    · cases h2
  · cases h2
theorem lc_tlc {scope : Scope} {own : List (Str × Nat)} {ifs : List Expr} {elt : Expr} {Ψ : List D → Sto → Prop} {Zh : List Addr} {σ : L2.St} {H : Hp} {Q : VK} (h : DI X tg iter ρ S fun ds S1 => ds.length ≤ sizeLine ∧ LcN X scope (okOf own) tg ifs elt ds (wipeR ρ (own.map (·.2))) S1 (unL Ψ))
    (E : Ev X.K Zh H σ ρ S) (P : PostN X.K Zh H S Ψ Q) : tLc (tiW X tg iter) (tgB (blks X scope) tg) (ttB (blks X scope) ifs) (teB (blks X scope) elt) (own.map (·.2)) σ H Q :=
  h.tw E fun J H1 ds S1 k1 g1 s1 it q D' hD => lc_readN (fun _ => blks_K) (fun _ => okOf_no) E k1 g1 s1 it q.1 q.2 P hD
theorem melt_new {Zh : List Addr} {H H' : Hp} {σ : L2.St} {c : Addr} {vs : List V} (E : Ev K Zh H σ ρ (S0 ++ R)) (g : Grow (keys S0) H H') (s' : Store K ([c] ++ Zh) H' S0) (hc : H c = none) (h1 : H' c = some (.lst vs)) (f0 : FlatS S0) (fR : FlatS R) : Store K ([c] ++ Zh) H' (S0 ++ R) := by
  have st := E.st.melt s'.unhide g f0 fR
  refine ⟨st.nd, fun p l' m => ?_, fun p m => ?_⟩
  · obtain ⟨us, e2, r2⟩ := st.st p l' m
    refine ⟨us, e2, r2.flat ?_⟩
    rcases List.mem_append.mp m with m | m
    · exact f0 p l' m
    · exact fR p l' m
  · rcases List.mem_append.mp m with m | m
    · rw [List.mem_singleton.mp m]
      exact ⟨fun q => E.st.free hc (List.mem_append_left _ q), vs, h1⟩
    · exact st.hid p m
theorem rep_cell {K : PySem.W.Frag} {Z : List Addr} {H : Hp} {c : Addr} : Rep K Z H (.cell c) (.ref c) := by
  unfold Rep
  rfl
def asgLc (C : Cxt) (x : Str) (py : Pos) (e : Expr) (η : En2) : Out Fl := match e with
  | .ListComp elt gens scope pos => match C.tb.lookup x with
    | none => .bad
    | some i => if locB C.names x && Nat.blt i η.e.length && (py.line == pos.line) && !(scope.names.any fun (n, k) => n == x && (k == .local || k == .cell)) then match compO C.tb C.r C.names elt gens scope η.e with
        | .ok (.lst l) => if flatL l then .ok (.nx (η.putL i l)) else .bad
        | _ => .bad
      else .bad
  | _ => .bad
theorem asgLc_ok {x : Str} {η : En2} (B : Bd1 cls X W C P w K mg base k j S0) (s : StR η.o η.e ρ R) : RunS cls X W (.Assign [.Name x py] e pos) ρ S0 R (asgLc C x py e η) := by
  unfold asgLc
  split
  · rename_i elt gens scope cpos
    split
    · exact RunS.bad
    · rename_i i hi
      split
      · rename_i hh
        simp only [Bool.and_eq_true, Bool.not_eq_true'] at hh
        obtain ⟨⟨⟨hloc, hil⟩, hl⟩, ha⟩ := hh
        have hil : i < η.e.length := Nat.le_of_ble_eq_true hil
        split
        · rename_i l hc
          split
          · rename_i hf
            obtain ⟨tg, iter, ifs, own, rfl, hk, hb, hset, hdi⟩ := compO_di B.g B.A B.G.nob B.tk (enl (η := η.e)) B.f0 hc
            refine RunS.of (ps_setLc (own := own) (g := tgB (blks X scope) tg) (tt := ttB (blks X scope) ifs) (te := teB (blks X scope) elt) B.A.calm B.A.nd (B.A.slot _ _ hi) (B.A.loc _ (locB_of hloc)) (sw_true B.A.kind (B.A.loc _ (locB_of hloc)) hl ha) pi_w (blkD_ok B.A hk hb)
              (fun s H C cl fp => ⟨fun pins s' σ H' v u Q I r q => q _ ⟨s, H, C, cl, fp, rfl⟩ pins s' u I r⟩) (fun s H C cl fp => pts_b ⟨s, H, C, cl, fp, rfl⟩) (fun s H C cl fp => ⟨fun pins s' σ H' Q I q => q _ ⟨s, H, C, cl, fp, rfl⟩ pins s' I⟩) (fun x => folded_no hset)) fun Zh σ H Dn ev kk => ?_
            refine lc_tlc (Q := fun x H1 => gName i x σ H1 Dn.nx) (hdi (fun l' S' => l' = l ∧ S' = S0) ⟨rfl, rfl⟩) (ev.froz s) ?_
            intro c vs H' l' S' _ g s' hc1 h1 r q
            obtain ⟨rfl, rfl⟩ := q
            have st := melt_new ev g s' hc1 h1 B.f0 s.fl
            obtain ⟨z1, z2⟩ := ev.cell rfl (grow_app g) st hc1 h1 (r.flat hf)
            rw [List.append_assoc] at z1 z2
            exact kk _ _ _ (R ++ [(c, l')]) z2 (z1.put rep_cell) ((s.more (flat_one hf)).putCell hil (List.mem_append_right _ (List.mem_singleton.mpr rfl)) (new_ne (A := R) z1.st.nd s))
          · exact RunS.bad
        · exact RunS.bad
      · exact RunS.bad
  · exact RunS.bad
/-! return -/
def ownName (C : Cxt) (η : En2) : Expr → Option (Nat × List D)
  | .Name x _ => match C.tb.lookup x with
    | some i => if plainName x && visB (C.names.lookup x) && η.o.contains i then match η.e[i]? with
        | some (some (.lst l)) => some (i, l)
        | _ => none
      else none
    | none => none
  | _ => none
theorem ownName_ok {i : Nat} {l : List D} {η : En2} (B : Bd1 cls X W C P w K mg base k j S0) (s : StR η.o η.e ρ R) (h : ownName C η e = some (i, l)) : i ∈ η.o ∧ η.e[i]? = some (some (.lst l)) ∧ ∃ x px p, e = .Name x px ∧ ρ[i]? = some (some (.cell p)) ∧ (p, l) ∈ R ∧ ∀ (ρ' : Ro) (S' : Sto) (Φ : D → Sto → Prop), ρ'[i]? = some (some (.cell p)) → Φ (.cell p) S' → DE X e ρ' S' Φ := by
  unfold ownName at h
  split at h
  · rename_i x px
    split at h
    · rename_i i' hi
      split at h
      · rename_i hh
        simp only [Bool.and_eq_true] at hh
        obtain ⟨⟨h1, h2⟩, h3⟩ := hh
        split at h
        · rename_i l' hl
          cases h
          have hm : i ∈ η.o := by simpa using h3
          obtain ⟨l2, p, e1, e2, e3⟩ := s.o i hm
          rw [hl] at e1
          cases e1
          exact ⟨hm, hl, x, px, p, rfl, e2, e3, fun ρ' S' Φ hρ q => vName B.A ⟨hi, by rw [h1, h2]; rfl⟩ ⟨_, hρ, q⟩⟩
        · cases h
      · cases h
    · cases h
  · cases h
def retB (C : Cxt) (e : Expr) (η : En2) : Out Fl := match ownName C η e with
  | some (_, l) => .ok (.rt (.lst l))
  | none => match CE C e η.e with
    | .ok d => match isLstD d, d with
      | true, .lst l => if isFresh C.T e && flatL l then .ok (.rt (.lst l)) else .bad
      | _, d => if flatD d then .ok (.rt d) else .bad
    | .ex c => .ex c
    | .bad => .bad
def retO (C : Cxt) (e : Expr) (η : En2) : Out Fl := match e with
  | .IfExp c a b _ => (CT C c η.e).bind fun k => if k then retB C a η else retB C b η
  | e => retB C e η
theorem flat_notL {d : D} (h : flatD d = true) : isLstD d = false := by
  cases d <;> first | rfl | (unfold flatD at h; cases h)
/-- what is told back, from an expression -/
def RunR (cls : Cls) (X : Cx) (W : WX) (e : Expr) (ρ : Ro) (S0 R : Sto) (o : Out Fl) : Prop := ∀ (Zh : List Addr) (σ : L2.St) (H : Hp) (Dn : Ends), Ev X.K Zh H σ ρ (S0 ++ R) → PSt cls W X.K Zh H S0 R Dn o → tW X e σ H (fun v H' => Dn.rt v H')
theorem RunR.bad : RunR cls X W e ρ S0 R .bad := fun Zh σ H Dn ev kk => kk.elim
theorem retB_ok {η : En2} (B : Bd1 cls X W C P w K mg base k j S0) (s : StR η.o η.e ρ R) : RunR cls X W e ρ S0 R (retB C e η) := by
  unfold retB
  split
  · rename_i i l ho
    obtain ⟨_, _, x, px, p, rfl, hρ, hm, hde⟩ := ownName_ok B s ho
    refine fun Zh σ H Dn ev kk => (hde ρ (S0 ++ R) (fun d S' => d = .cell p ∧ S' = S0 ++ R) hρ ⟨rfl, rfl⟩).tw ev fun v H' d S' k' g s' r q => ?_
    obtain ⟨rfl, rfl⟩ := q
    exact kk v H' _ R (.of rfl g) s' r (.inr ⟨l, p, rfl, rfl, hm⟩) s.fl
  · split
    · rename_i d hd
      split
      · rename_i d0 d1 l _
        split
        · rename_i hf
          rw [Bool.and_eq_true] at hf
          have hn := (B.n s hf.1).ok_of hd hf.2
          refine fun Zh σ H Dn ev kk => hn.tw ev fun c vs H' g s' hc h1 r => ?_
          obtain ⟨z1, z2⟩ := ev.cell rfl g s' hc h1 r
          rw [List.append_assoc] at z1 z2
          exact kk (.ref c) H' (.cell c) (R ++ [(c, l)]) z2 z1.st rep_cell (.inr ⟨l, c, rfl, rfl, List.mem_append_right _ (List.mem_singleton.mpr rfl)⟩) (s.more (flat_one hf.2)).fl
        · exact RunR.bad
      · split
        · rename_i hf
          exact fun Zh σ H Dn ev kk => ((B.ev s e).ok_of hd hf).tw ev fun v H' g s' r => kk v H' _ R (.of rfl g) s' r (.inl ⟨flat_notL hf, rfl⟩) s.fl
        · exact RunR.bad
    · rename_i c hc
      refine fun Zh σ H Dn ev kk => ?_
      obtain ⟨a, ha, kk⟩ := kk
      exact ((B.ev s e).ex_of hc).tw ev ⟨a, ha, fun H' g s' => kk σ H' ρ R (.of rfl g) (ev.next rfl g s')⟩
    · exact RunR.bad
theorem retO_ok {η : En2} (B : Bd1 cls X W C P w K mg base k j S0) (s : StR η.o η.e ρ R) : RunS cls X W (.Return (some e) pos) ρ S0 R (retO C e η) := by
  unfold retO
  split
  · rename_i c a b p
    refine RunS.of (ps_ret pe_w) fun Zh σ H Dn ev kk => fun pins sh I => (pe_ifExp pt_w pe_w pe_w).run pins sh σ H _ I ?_
    have gt := B.t s c
    cases hc : CT C c η.e with
    | bad =>
      rw [hc] at kk
      exact kk.elim
    | ex cc =>
      rw [hc] at kk gt
      obtain ⟨a', ha, kk⟩ := kk
      exact gt.tw ev ⟨a', ha, fun H' g s' => kk σ H' ρ R (.of rfl g) (ev.next rfl g s')⟩
    | ok t =>
      rw [hc] at kk gt
      refine gt.tw ev fun H1 g1 s1 => ?_
      have ev1 := ev.next rfl g1 s1
      have kk1 : PSt cls W X.K Zh H1 S0 R Dn (if t then retB C a η else retB C b η) := PSt.next (Step.of rfl g1) kk
      cases t with
      | true => exact retB_ok B s Zh σ H1 Dn ev1 kk1
      | false => exact retB_ok B s Zh σ H1 Dn ev1 kk1
  · exact RunS.of (ps_ret pe_w) fun Zh σ H Dn ev kk => retB_ok B s Zh σ H Dn ev kk
/-! raise -/
def raiseO (C : Cxt) (x : Option Expr) : Out Fl := match x with
  | some (.Call (.Name c _) [] [] _) => if C.exs.contains c && glB C.names c then .ex c else .bad
  | _ => .bad
theorem raiseO_ok {x : Option Expr} (B : Bd1 cls X W C P w K mg base k j S0) : RunS cls X W (.Raise x none pos) ρ S0 R (raiseO C x) := by
  unfold raiseO
  split
  · split
    · rename_i c _ _ hh
      rw [Bool.and_eq_true] at hh
      obtain ⟨a, ha, hx⟩ := B.cx c hh.1
      exact RunS.drs fun Θ q => drs_raise B.A B.tk hx ⟨hh.2⟩ (q a ha)
    · exact RunS.bad
  · exact RunS.bad
/-! e -/
def dropO (C : Cxt) (e : Expr) (η : En2) : Out Fl := if isComp e then .bad else match CE C e η.e with
  | .ok d => if flatD d then .ok (.nx η) else .bad
  | .ex c => .ex c
  | .bad => .bad
theorem dropO_ok {η : En2} (B : Bd1 cls X W C P w K mg base k j S0) (s : StR η.o η.e ρ R) : RunS cls X W (.Expr e pos) ρ S0 R (dropO C e η) := by
  unfold dropO
  split
  · exact RunS.bad
  · rename_i hc
    have hc : isComp e = false := by simpa using hc
    split
    · rename_i d hd
      split
      · rename_i hf
        have he := (B.ev s e).ok_of hd hf
        refine RunS.ds (fun ρ' R' => ρ' = ρ ∧ R' = R) ?_ fun E q => ds_expr (swaps_no hc) (he.deOf (q _ _ ⟨rfl, rfl⟩))
        rintro ρ' R' ⟨rfl, rfl⟩ _
        exact s
      · exact RunS.bad
    · rename_i c hc2
      exact RunS.exFrom ((B.ev s e).ex_of hc2) fun Θ h => drs_expr (swaps_no hc) h
    · exact RunS.bad
def exprO (C : Cxt) (e : Expr) (η : En2) : Out Fl := match e with
  | .Call (.Attribute o m ap) [b] [] cp => match ownName C η o with
    | some (i, l) => if isStar b || !(ap.endLine == cp.line) then .bad else
        if m == "append" then match CE C b η.e with
          | .ok d => if flatD d && Nat.ble l.length 100000 then .ok (.nx ⟨η.e.set i (some (.lst (l ++ [d]))), η.o⟩) else .bad
          | .ex _ => .bad
          | .bad => .bad
        else if m == "extend" && isFresh C.T b then match CE C b η.e with
          | .ok (.lst n) => if flatL n && Nat.ble (l.length + n.length) 100000 then .ok (.nx ⟨η.e.set i (some (.lst (l ++ n))), η.o⟩) else .bad
          | _ => .bad
        else if m == "extend" then match CE C b η.e with
          | .ok (.tup n) => if flatL n && Nat.ble (l.length + n.length) 100000 then .ok (.nx ⟨η.e.set i (some (.lst (l ++ n))), η.o⟩) else .bad
          | _ => .bad
        else .bad
    | none => dropO C e η
  | _ => dropO C e η
theorem flatL_append : ∀ {l m : List D}, flatL l = true → flatL m = true → flatL (l ++ m) = true
  | [], m, _, h => h
  | d :: l, m, h, h2 => by
    unfold flatL at h
    rw [Bool.and_eq_true] at h
    show flatL (d :: (l ++ m)) = true
    unfold flatL
    rw [h.1, flatL_append h.2 h2]
    rfl
theorem few1 {X : Cx} {cp : Pos} (h : isStar b = false) : ((backTo cp (starEach [b] X.env)).all (fun x => !x.1) && (backToKw cp (keywordEach [] X.env)).all (fun x => x.1.isSome)
      && decide (([b] : List Expr).length + ([] : List Keyword).length + (if ([] : List Keyword).isEmpty then 0 else 1) < 30)) = true := by
  rw [star_no h]
  rfl
theorem exprO_ok {η : En2} (B : Bd1 cls X W C P w K mg base k j S0) (s : StR η.o η.e ρ R) : RunS cls X W (.Expr e pos) ρ S0 R (exprO C e η) := by
  unfold exprO
  split
  · rename_i o m ap b cp
    split
    · rename_i i l ho
      obtain ⟨hi, hη, x, px, p, rfl, hρ, hm, hde⟩ := ownName_ok B s ho
      obtain ⟨Al, Bl, rfl⟩ := List.append_of_mem hm
      have hfl : flatL l = true := s.fl p l hm
      split
      · exact RunS.bad
      · rename_i hh
        have hh : isStar b = false ∧ (ap.endLine == cp.line) = true := by simpa using hh
        split
        · rename_i hmm
          have e1 := eq_of_beq hmm
          subst e1
          split
          · rename_i d hd
            split
            · rename_i hf
              rw [Bool.and_eq_true] at hf
              have he := (B.ev s b).ok_of hd hf.1
              refine RunS.ds (fun ρ' R' => ρ' = ρ ∧ R' = Al ++ (p, l ++ [d]) :: Bl) ?_ fun E q => ?_
              · rintro ρ' R' ⟨rfl, rfl⟩ nd
                rw [keys_append, List.nodup_append, keys_wr (l := l)] at nd
                exact s.write hi hρ nd.2.1 (flatL_append hfl (by unfold flatL; rw [hf.1]; rfl))
              · refine ds_expr rfl (de_append (base_no rfl) (few1 hh.1) hh.2 (star1 hh.1) (hde ρ _ _ hρ ⟨p, S0 ++ Al, l, Bl, rfl, by rw [List.append_assoc], he.deOf ⟨S0 ++ Al, l, Bl, by rw [List.append_assoc], ?_, ?_⟩⟩))
                · have e := sizeLine_eq
                  have := Nat.le_of_ble_eq_true hf.2
                  omega
                · have := q _ _ ⟨rfl, rfl⟩
                  rw [← List.append_assoc] at this
                  exact this
            · exact RunS.bad
          · exact RunS.bad
          · exact RunS.bad
        · split
          · rename_i hmm
            rw [Bool.and_eq_true] at hmm
            have e1 := eq_of_beq hmm.1
            subst e1
            split
            · rename_i n hd
              split
              · rename_i hf
                rw [Bool.and_eq_true] at hf
                have he := ((B.n s hmm.2).ok_of hd hf.1).toE
                refine RunS.ds (fun ρ' R' => ρ' = ρ ∧ R' = Al ++ (p, l ++ n) :: Bl) ?_ fun E q => ?_
                · rintro ρ' R' ⟨rfl, rfl⟩ nd
                  rw [keys_append, List.nodup_append, keys_wr (l := l)] at nd
                  exact s.write hi hρ nd.2.1 (flatL_append hfl hf.1)
                · refine ds_expr rfl (de_extend (base_no rfl) (few1 hh.1) hh.2 (star1 hh.1) (hde ρ _ _ hρ ⟨p, S0 ++ Al, l, Bl, rfl, by rw [List.append_assoc], he.deOf ⟨S0 ++ Al, l, Bl, n, rfl, by rw [List.append_assoc], ?_, ?_⟩⟩))
                  · have e := sizeLine_eq
                    have := Nat.le_of_ble_eq_true hf.2
                    omega
                  · have := q _ _ ⟨rfl, rfl⟩
                    rw [← List.append_assoc] at this
                    exact this
              · exact RunS.bad
            · exact RunS.bad
          · split
            · rename_i hmm
              have e1 := eq_of_beq hmm
              subst e1
              split
              · rename_i n hd
                split
                · rename_i hf
                  rw [Bool.and_eq_true] at hf
                  have he := (B.ev s b).ok_of hd (show flatD (.tup n) = true by unfold flatD; exact hf.1)
                  refine RunS.ds (fun ρ' R' => ρ' = ρ ∧ R' = Al ++ (p, l ++ n) :: Bl) ?_ fun E q => ?_
                  · rintro ρ' R' ⟨rfl, rfl⟩ nd
                    rw [keys_append, List.nodup_append, keys_wr (l := l)] at nd
                    exact s.write hi hρ nd.2.1 (flatL_append hfl hf.1)
                  · refine ds_expr rfl (de_extendT (base_no rfl) (few1 hh.1) hh.2 (star1 hh.1) (hde ρ _ _ hρ ⟨p, S0 ++ Al, l, Bl, rfl, by rw [List.append_assoc], he.deOf ⟨S0 ++ Al, l, Bl, n, rfl, by rw [List.append_assoc], ?_, ?_⟩⟩))
                    · have e := sizeLine_eq
                      have := Nat.le_of_ble_eq_true hf.2
                      omega
                    · have := q _ _ ⟨rfl, rfl⟩
                      rw [← List.append_assoc] at this
                      exact this
                · exact RunS.bad
              · exact RunS.bad
            · exact RunS.bad
    · exact dropO_ok B s
  · exact dropO_ok B s
end
end Ar
namespace Ar
open PySem PySem.Spec PyProof.Rows L2
/-! ### targets in the state -/
def bindS (tb : List (Str × Nat)) (names : List (Str × NameKind)) : Nat → Expr → D → En2 → Option En2
  | 0, _, _, _ => none
  | n + 1, t, d, η => match t with
    | .Name x _ => match tb.lookup x with
      | some i => if stB (names.lookup x) then some (η.put i d) else none
      | none => none
    | .Tuple ts _ _ => match d with
      | .tup l => if Nat.beq l.length ts.length && noStar ts then bindSs (bindS tb names n) ts l η else none
      | .lst l => if Nat.beq l.length ts.length && noStar ts then bindSs (bindS tb names n) ts l η else none
      | _ => none
    | _ => none
where bindSs (f : Expr → D → En2 → Option En2) : List Expr → List D → En2 → Option En2
  | [], [], η => some η
  | t :: ts, d :: ds, η => match f t d η with
    | some η1 => bindSs f ts ds η1
    | none => none
  | _, _, _ => none
section
variable {cls : Cls} {X : Cx} {W : WX} {C : Cxt} {P : Program} {w : World} {K : PySem.W.Frag} {mg : Str → Option Value} {base : Heap} {tb : List (Str × Nat)} {names : List (Str × NameKind)} {k j : Nat} {S S0 R : Sto} {ρ : Ro} {own : List Nat} {η : En} {e a b c : Expr} {es : List Expr} {pos p py tpos : Pos} {tg iter : Expr} {T : IT} {r : Rc}
theorem bindSs_ok {f : Expr → D → En2 → Option En2} (hf : ∀ t d η η1 ρ, StR η.o η.e ρ R → f t d η = some η1 → ∀ Φ : Ro → Sto → Prop, (∀ ρ1, StR η1.o η1.e ρ1 R → Φ ρ1 S) → DG X (fun _ => true) t d ρ S Φ) : ∀ {ts : List Expr} {ds : List D} {η η1 : En2} {ρ : Ro}, noStar ts = true → StR η.o η.e ρ R → bindS.bindSs f ts ds η = some η1 → ∀ Φ : Ro → Sto → Prop, (∀ ρ1, StR η1.o η1.e ρ1 R → Φ ρ1 S) → DGs X (fun _ => true) ts ds ρ S Φ
  | [], [], η, η1, ρ, _, hη, h, Φ, q => by
    cases h
    exact dgs_nil (q ρ hη)
  | [], _ :: _, _, _, _, _, _, h, _, _ => by cases h
  | _ :: _, [], _, _, _, _, _, h, _, _ => by cases h
  | t :: ts, d :: ds, η, η1, ρ, hs, hη, h, Φ, q => by
    obtain ⟨h1, h2⟩ := noStar_cons hs
    unfold bindS.bindSs at h
    split at h
    · rename_i η2 h3
      exact dgs_cons (asg_cons h1) (hf t d η η2 ρ hη h3 _ fun ρ1 r1 => bindSs_ok hf h2 r1 h Φ q)
    · cases h
theorem dg_unl {es : List Expr} {kk : Nat} {n : Nat} {ok : Nat → Bool} {d : D} {Φ : Ro → Sto → Prop} (A : At X P w K mg base tb names k) (hn : (assignEach es X.env).length = n) (hst : (assignEach es X.env).findIdx? (·.1) = none) (h : ∃ l, d = .lst l ∧ Nat.beq l.length n = true ∧ DGs X ok es l ρ S Φ) : DG X ok (.Tuple es kk pos) d ρ S Φ := by
  obtain ⟨l, rfl, hl, h⟩ := h
  exact DG.of (pg_unl A.calm pgs_w hn hst) fun Zh σ H v Q E r k => by
    obtain ⟨p, vs, rfl, _, sq, rl⟩ := r.lst
    exact ⟨p, vs, rfl, .inl (.inl sq), by rw [rl.length]; exact Nat.eq_of_beq_eq_true hl, h.tw E rl k⟩
theorem bindS_ok (A : At X P w K mg base tb names k) : ∀ (n : Nat) (t : Expr) (d : D) (η η1 : En2) (ρ : Ro), StR η.o η.e ρ R → bindS tb names n t d η = some η1 → ∀ Φ : Ro → Sto → Prop, (∀ ρ1, StR η1.o η1.e ρ1 R → Φ ρ1 S) → DG X (fun _ => true) t d ρ S Φ
  | 0, _, _, _, _, _, _, h, _, _ => by cases h
  | n + 1, t, d, η, η1, ρ, hη, h, Φ, q => by
    unfold bindS at h
    split at h
    · split at h
      · rename_i i hi
        split at h
        · rename_i hs
          cases h
          exact dg_name A ⟨i, hi, by rw [hs]; rfl, q _ hη.put⟩
        · cases h
      · cases h
    · split at h
      · split at h
        · rename_i l hs
          rw [Bool.and_eq_true] at hs
          exact dg_tup A asg_len (asg_find hs.2) ⟨l, rfl, hs.1, bindSs_ok (fun t d η η1 ρ hη h Φ q => bindS_ok A n t d η η1 ρ hη h Φ q) hs.2 hη h Φ q⟩
        · cases h
      · split at h
        · rename_i l hs
          rw [Bool.and_eq_true] at hs
          exact dg_unl A asg_len (asg_find hs.2) ⟨l, rfl, hs.1, bindSs_ok (fun t d η η1 ρ hη h Φ q => bindS_ok A n t d η η1 ρ hη h Φ q) hs.2 hη h Φ q⟩
        · cases h
      · cases h
    · cases h
/-- an expression as it stands among own lists -/
def fullE (C : Cxt) (η : En2) (e : Expr) : Out D := match CE C e η.e with
  | .ok d => match isLstD d, d with
    | true, .lst l => if isFresh C.T e && flatL l then .ok (.lst l) else match e with
      | .Name x _ => match C.tb.lookup x with
        | some i => if plainName x && visB (C.names.lookup x) && !η.o.contains i then match η.e[i]? with
            | some (some d') => .ok d'
            | _ => .bad
          else .bad
        | none => .bad
      | _ => .bad
    | _, d => if flatD d then .ok d else .bad
  | .ex c => .ex c
  | .bad => .bad
theorem fullE_ok {η : En2} (B : Bd1 cls X W C P w K mg base k j S0) (s : StR η.o η.e ρ R) (e : Expr) : RunE cls X W e ρ (S0 ++ R) (fullE C η e) := by
  unfold fullE
  split
  · rename_i d hd
    split
    · rename_i d0 d1 l _
      split
      · rename_i hf
        rw [Bool.and_eq_true] at hf
        exact ((B.n s hf.1).ok_of hd hf.2).toE
      · split
        · rename_i x _ 
          split
          · rename_i i hi
            split
            · rename_i hh
              simp only [Bool.and_eq_true, Bool.not_eq_true'] at hh
              obtain ⟨⟨h1, h2⟩, h3⟩ := hh
              have hno : i ∉ η.o := by simpa using h3
              split
              · rename_i d' hd'
                exact RunE.de fun Φ q => vName B.A ⟨hi, by rw [h1, h2]; rfl⟩ ⟨d', s.v i d' hno hd', q⟩
              · exact RunE.bad
            · exact RunE.bad
          · exact RunE.bad
        · exact RunE.bad
    · split
      · rename_i hf
        exact (B.ev s e).ok_of hd hf
      · exact RunE.bad
  · rename_i c hc
    exact (B.ev s e).ex_of hc
  · exact RunE.bad
/-! a, b = e -/
def isTupX : Expr → Bool
  | .Tuple .. => true
  | _ => false
theorem swst_no {tg e : Expr} {env : Env} (h : isTupX e = false) : swappedStores [tg] e env = pure none := by
  unfold swappedStores
  cases e <;> first | (cases h; done) | (cases tg <;> rfl)
def asgT (C : Cxt) (tg e : Expr) (η : En2) : Out Fl := if isTupX e || isComp e || !isTupX tg then .bad else match fullE C η e with
  | .ok d => match bindS C.tb C.names 3 tg d η with
      | some η1 => .ok (.nx η1)
      | none => .bad
  | .ex c => .ex c
  | .bad => .bad
theorem drs_asg {W : WX} {Θ : XiS} (hs : swapsWithSole [tg] e pos.line X.env = pure false) (hw : swappedStores [tg] e X.env = pure none) (h1 : (assignEach [tg] X.env).map (·.2) = [assign tg X.env])
    (h : DR X W e ρ S fun c S1 => Θ c ρ S1) : DRS X W (.Assign [tg] e pos) ρ S Θ := DRS.of (ps_asg pe_w pg_w hs hw h1) fun Zh σ H Dn ev k => h.tw ev (k.of ev)
theorem asg1 {env : Env} (h : isTupX tg = true) : (assignEach [tg] env).map (·.2) = [assign tg env] := by
  cases tg <;> first | (cases h; done) | rfl
theorem asgT_ok {η : En2} (B : Bd1 cls X W C P w K mg base k j S0) (s : StR η.o η.e ρ R) : RunS cls X W (.Assign [tg] e pos) ρ S0 R (asgT C tg e η) := by
  unfold asgT
  split
  · exact RunS.bad
  · rename_i hh
    have hh : (isTupX e = false ∧ isComp e = false) ∧ isTupX tg = true := by simpa using hh
    obtain ⟨⟨h1, h2⟩, h3⟩ := hh
    have ge := fullE_ok B s e
    split
    · rename_i d hd
      rw [hd] at ge
      split
      · rename_i η1 hb
        refine RunS.ds (fun ρ' R' => StR η1.o η1.e ρ' R' ∧ R' = R) (fun ρ' R' h _ => h.1) fun E q => ?_
        exact ds_asg (swapsSole_no h2) (swst_no h1) (asg1 h3) (ge.deOf (bindS_ok B.A 3 tg d η η1 ρ s hb _ fun ρ1 s1 => q ρ1 R ⟨s1, rfl⟩))
      · exact RunS.bad
    · rename_i c hc
      rw [hc] at ge
      exact RunS.exFrom ge fun Θ h => drs_asg (swapsSole_no h2) (swst_no h1) (asg1 h3) h
    · exact RunS.bad
/-! a, b = x, y -/
def parVals (C : Cxt) (η : En) : List Expr → Out (List D)
  | [] => .ok []
  | e :: es => match CE C e η with
    | .ok d => match isLstD d, d with
      | true, .lst l => if isFresh C.T e && flatL l then (parVals C η es).bind fun ds => .ok (.lst l :: ds) else .bad
      | _, d => if flatD d then (parVals C η es).bind fun ds => .ok (d :: ds) else .bad
    | .ex c => .ex c
    | .bad => .bad
inductive VR : List D → List D → Sto → Prop where
  | nil : VR [] [] []
  | flat {d : D} {vs ds : List D} {N : Sto} (h : flatD d = true) (r : VR vs ds N) : VR (d :: vs) (d :: ds) N
  | lst {l vs ds : List D} {c : Addr} {N : Sto} (h : flatL l = true) (r : VR vs ds N) : VR (.lst l :: vs) (.cell c :: ds) ((c, l) :: N)
theorem parV_ok (B : Bd1 cls X W C P w K mg base k j S0) : ∀ (es : List Expr) (R : Sto) (vs : List D), noStar es = true → StR own η ρ R → parVals C η es = .ok vs → ∀ Φ : List D → Sto → Prop, (∀ ds N, VR vs ds N → Φ ds (S0 ++ (R ++ N))) → DAc X es ρ (S0 ++ R) Φ
  | [], R, vs, _, s, h, Φ, q => by
    cases h
    have := q [] [] .nil
    rw [List.append_nil] at this
    exact dac_nil this
  | e :: es, R, vs, hs, s, h, Φ, q => by
    obtain ⟨h1, h2⟩ := noStar_cons hs
    unfold parVals at h
    split at h
    · rename_i d hd
      split at h
      · rename_i d0 d1 l _
        split at h
        · rename_i hf
          rw [Bool.and_eq_true] at hf
          obtain ⟨ds, h3, h4⟩ := Out.bind_ok h
          cases h4
          have hn := (B.n s hf.1).ok_of hd hf.2
          refine dac_cons (dec_n (hn.dnOf fun c => ?_)) (star_no h1)
          rw [List.append_assoc]
          exact parV_ok B es (R ++ [(c, l)]) ds h2 (s.more (flat_one hf.2)) h3 _ fun ds' N hv => by
            have := q (.cell c :: ds') ((c, l) :: N) (.lst hf.2 hv)
            rw [List.append_assoc]
            exact this
        · cases h
      · split at h
        · rename_i hf
          obtain ⟨ds, h3, h4⟩ := Out.bind_ok h
          cases h4
          have he := (B.ev s e).ok_of hd hf
          exact dac_cons (dec_e (he.deOf (parV_ok B es R ds h2 s h3 _ fun ds' N hv => q _ N (.flat hf hv)))) (star_no h1)
        · cases h
    · cases h
    · cases h
def En2.set1 (η : En2) (i : Nat) (d : D) : En2 := match d with
  | .lst l => η.putL i l
  | d => η.put i d
def cntL : List D → Nat
  | [] => 0
  | .lst _ :: l => cntL l + 1
  | _ :: l => cntL l
theorem VR.flatN {vs ds : List D} {N : Sto} (h : VR vs ds N) : FlatS N := by
  induction h with
  | nil => exact fun p l m => (List.not_mem_nil m).elim
  | flat h r ih => exact ih
  | lst h r ih =>
    intro p m hm
    rcases List.mem_cons.mp hm with e | e
    · cases e
      exact h
    · exact ih p m e
/-- one place after another; own lists from new cells -/
theorem StR.set1 {η : En2} {i : Nat} {v d : D} (s : StR η.o η.e ρ R) (hi : i < η.e.length) (hv : (flatD v = true ∧ d = v) ∨ ∃ l c, v = .lst l ∧ d = .cell c ∧ (c, l) ∈ R ∧ ∀ (j : Nat) (p : Addr), j ∈ η.o → ρ[j]? = some (some (.cell p)) → p ≠ c) : StR (η.set1 i v).o (η.set1 i v).e (ρ.set i (some d)) R := by
  rcases hv with ⟨h1, rfl⟩ | ⟨l, c, rfl, rfl, h2, h3⟩
  · have : η.set1 i d = η.put i d := by
      unfold En2.set1
      cases d <;> first | rfl | (unfold flatD at h1; cases h1)
    rw [this]
    exact s.put
  · exact s.putCell hi h2 h3
def parO (C : Cxt) (tg e : Expr) (η : En2) : Out Fl := match tg, e with
  | .Tuple ts _ _, .Tuple vs _ _ => if vs.all (foldedForSure 8) then match CE C e η.e with
      | .ok d => if flatD d then match bindS C.tb C.names 3 tg d η with
          | some η1 => .ok (.nx η1)
          | none => .bad
        else .bad
      | _ => .bad
    else match ts, vs with
    | [.Name x px, .Name y py], [a, b] => match C.tb.lookup x, C.tb.lookup y with
      | some i, some j => if locB C.names x && locB C.names y then
          if par2B px py x y a b && !Nat.beq i j && Nat.blt i η.e.length && Nat.blt j η.e.length then match parVals C η.e [a, b] with
            | .ok [v, u] => if Nat.ble (cntL [v, u]) 1 then .ok (.nx ((η.set1 i v).set1 j u)) else .bad
            | .ex c => .ex c
            | _ => .bad
          else .bad
        else if cfB (C.names.lookup x) || cfB (C.names.lookup y) then match CE C e η.e with
          | .ok d => if flatD d then match bindS C.tb C.names 3 tg d η with
              | some η1 => .ok (.nx η1)
              | none => .bad
            else .bad
          | .ex c => .ex c
          | .bad => .bad
        else .bad
      | _, _ => .bad
    | [.Name x px, .Name y py, .Name z pz], [a, b, c] => match C.tb.lookup x, C.tb.lookup y, C.tb.lookup z with
      | some i, some j, some l => if locB C.names x && locB C.names y && locB C.names z then
          if par3B px py pz x y z a b c && !Nat.beq i j && !Nat.beq i l && !Nat.beq j l && Nat.blt i η.e.length && Nat.blt j η.e.length && Nat.blt l η.e.length then match parVals C η.e [a, b, c] with
            | .ok [v, u, t] => if Nat.ble (cntL [v, u, t]) 1 then .ok (.nx (((η.set1 i v).set1 j u).set1 l t)) else .bad
            | .ex c => .ex c
            | _ => .bad
          else .bad
        else .bad
      | _, _, _ => .bad
    | _, _ => .bad
  | _, _ => .bad
end
end Ar
namespace Ar
open PySem PySem.Spec PyProof.Rows L2
section
variable {cls : Cls} {X : Cx} {W : WX} {C : Cxt} {P : Program} {w : World} {K : PySem.W.Frag} {mg : Str → Option Value} {base : Heap} {tb : List (Str × Nat)} {names : List (Str × NameKind)} {k j : Nat} {S S0 R : Sto} {ρ : Ro} {own : List Nat} {η : En} {e a b c : Expr} {es : List Expr} {pos p py tpos : Pos} {tg iter : Expr} {T : IT} {r : Rc}
/-- values one after another, one of which raises -/
def RunX (cls : Cls) (X : Cx) (W : WX) (es : List Expr) (ρ : Ro) (S0 R : Sto) (c : Str) : Prop :=
  ∀ (Zh : List Addr) (σ : L2.St) (H : Hp) (Q : List V → Hp → Prop), Ev X.K Zh H σ ρ (S0 ++ R) → (∃ a, cls c = some a ∧ ∀ H' R', Step (S0 ++ R) H (S0 ++ R') H' → Ev X.K Zh H' σ ρ (S0 ++ R') → W (.ref a) none σ H') → taW X es σ H Q
theorem parX_ok (B : Bd1 cls X W C P w K mg base k j S0) {c : Str} : ∀ (es : List Expr) (R : Sto), noStar es = true → StR own η ρ R → parVals C η es = .ex c → RunX cls X W es ρ S0 R c
  | [], R, _, s, h => by cases h
  | e :: es, R, hs, s, h => by
    obtain ⟨h1, h2⟩ := noStar_cons hs
    intro Zh σ H Q ev hk
    refine fun pos pins sh I => (pa_cons (X := X) pe_w pa_w (star_no h1)).run pos pins sh σ H Q I ?_
    obtain ⟨a, ha, hw⟩ := hk
    unfold parVals at h
    split at h
    · rename_i d hd
      split at h
      · rename_i d0 d1 l _
        split at h
        · rename_i hf
          rw [Bool.and_eq_true] at hf
          have h3 : parVals C η es = .ex c := by
            rcases Out.bind_ex h with h | ⟨_, _, h⟩
            · exact h
            · cases h
          have hn := (B.n s hf.1).ok_of hd hf.2
          refine hn.tw ev fun c' vs H' g s' hc h1' r => ?_
          obtain ⟨z1, z2⟩ := ev.cell rfl g s' hc h1' r
          rw [List.append_assoc] at z1 z2
          exact parX_ok B es (R ++ [(c', l)]) h2 (s.more (flat_one hf.2)) h3 Zh σ H' _ z1 ⟨a, ha, fun H2 R2 t ev2 => hw H2 R2 (z2.trans t) ev2⟩
        · cases h
      · split at h
        · rename_i hf
          have h3 : parVals C η es = .ex c := by
            rcases Out.bind_ex h with h | ⟨_, _, h⟩
            · exact h
            · cases h
          have he := (B.ev s e).ok_of hd hf
          refine he.tw ev fun v H' g s' r => ?_
          exact parX_ok B es R h2 s h3 Zh σ H' _ (ev.next rfl g s') ⟨a, ha, fun H2 R2 t ev2 => hw H2 R2 ((Step.of rfl g).trans t) ev2⟩
        · cases h
    · rename_i c' hc
      cases h
      exact ((B.ev s e).ex_of hc).tw ev ⟨a, ha, fun H' g s' => hw H' R (.of rfl g) (ev.next rfl g s')⟩
    · cases h
theorem hn_put {i : Nat} {v : D} {c : Addr} {η : En2} (hf : flatD v = true) (hn : ∀ (j : Nat) (p : Addr), j ∈ η.o → ρ[j]? = some (some (.cell p)) → p ≠ c) : ∀ (j : Nat) (p : Addr), j ∈ (η.set1 i v).o → (ρ.set i (some v))[j]? = some (some (.cell p)) → p ≠ c := fun j p hj h => by
  have e : η.set1 i v = η.put i v := by
    unfold En2.set1
    cases v <;> first | rfl | (unfold flatD at hf; cases hf)
  rw [e] at hj
  obtain ⟨m, n⟩ := mem_without.mp hj
  rw [List.getElem?_set_ne n] at h
  exact hn j p m h
theorem len_set1 {η : En2} {i : Nat} {v : D} : (η.set1 i v).e.length = η.e.length := by
  unfold En2.set1
  split <;> exact List.length_set
theorem cnt_flat {d : D} {l : List D} (h : flatD d = true) : cntL (d :: l) = cntL l := by
  cases d <;> first | rfl | (unfold flatD at h; cases h)
theorem vr2 {v u d1 d2 : D} {N : Sto} {i j : Nat} {η : En2} (s : StR η.o η.e ρ R) (hv : VR [v, u] [d1, d2] N) (hc : cntL [v, u] ≤ 1) (hi : i < η.e.length) (hj : j < η.e.length) (nd : (keys (S0 ++ (R ++ N))).Nodup) : StR ((η.set1 i v).set1 j u).o ((η.set1 i v).set1 j u).e ((ρ.set i (some d1)).set j (some d2)) (R ++ N) := by
  have sm := s.more hv.flatN
  have hj2 : j < (η.set1 i v).e.length := by rw [len_set1]; exact hj
  cases hv with
  | flat h1 r =>
    cases r with
    | flat h2 r =>
      cases r
      exact (sm.set1 hi (.inl ⟨h1, rfl⟩)).set1 hj2 (.inl ⟨h2, rfl⟩)
    | lst h2 r =>
      cases r
      exact (sm.set1 hi (.inl ⟨h1, rfl⟩)).set1 hj2 (.inr ⟨_, _, rfl, rfl, List.mem_append_right _ (List.mem_singleton.mpr rfl), hn_put h1 (new_ne (A := R) nd s)⟩)
  | lst h1 r =>
    cases r with
    | flat h2 r =>
      cases r
      exact (sm.set1 hi (.inr ⟨_, _, rfl, rfl, List.mem_append_right _ (List.mem_singleton.mpr rfl), new_ne (A := R) nd s⟩)).set1 hj2 (.inl ⟨h2, rfl⟩)
    | lst h2 r => simp [cntL] at hc
theorem vr3 {v u t d1 d2 d3 : D} {N : Sto} {i j l : Nat} {η : En2} (s : StR η.o η.e ρ R) (hv : VR [v, u, t] [d1, d2, d3] N) (hc : cntL [v, u, t] ≤ 1) (hi : i < η.e.length) (hj : j < η.e.length) (hl : l < η.e.length) (nd : (keys (S0 ++ (R ++ N))).Nodup) : StR (((η.set1 i v).set1 j u).set1 l t).o (((η.set1 i v).set1 j u).set1 l t).e (((ρ.set i (some d1)).set j (some d2)).set l (some d3)) (R ++ N) := by
  have sm := s.more hv.flatN
  have hj2 : j < (η.set1 i v).e.length := by rw [len_set1]; exact hj
  have hl2 : l < ((η.set1 i v).set1 j u).e.length := by rw [len_set1, len_set1]; exact hl
  have one : ∀ {c : Addr} {m : List D} {A : Sto}, (c, m) ∈ A ++ [(c, m)] := List.mem_append_right _ (List.mem_singleton.mpr rfl)
  cases hv with
  | flat h1 r =>
    rw [cnt_flat h1] at hc
    cases r with
    | flat h2 r =>
      cases r with
      | flat h3 r =>
        cases r
        exact ((sm.set1 hi (.inl ⟨h1, rfl⟩)).set1 hj2 (.inl ⟨h2, rfl⟩)).set1 hl2 (.inl ⟨h3, rfl⟩)
      | lst h3 r =>
        cases r
        exact ((sm.set1 hi (.inl ⟨h1, rfl⟩)).set1 hj2 (.inl ⟨h2, rfl⟩)).set1 hl2 (.inr ⟨_, _, rfl, rfl, one, hn_put h2 (hn_put h1 (new_ne (A := R) nd s))⟩)
    | lst h2 r =>
      cases r with
      | flat h3 r =>
        cases r
        exact ((sm.set1 hi (.inl ⟨h1, rfl⟩)).set1 hj2 (.inr ⟨_, _, rfl, rfl, one, hn_put h1 (new_ne (A := R) nd s)⟩)).set1 hl2 (.inl ⟨h3, rfl⟩)
      | lst h3 r => simp [cntL] at hc
  | lst h1 r =>
    cases r with
    | flat h2 r =>
      cases r with
      | flat h3 r =>
        cases r
        exact ((sm.set1 hi (.inr ⟨_, _, rfl, rfl, one, new_ne (A := R) nd s⟩)).set1 hj2 (.inl ⟨h2, rfl⟩)).set1 hl2 (.inl ⟨h3, rfl⟩)
      | lst h3 r =>
        simp only [cntL] at hc
        rw [cnt_flat h2] at hc
        simp [cntL] at hc
    | lst h2 r => simp [cntL] at hc
theorem asgF_ok {tg e : Expr} {η η1 : En2} {d : D} (B : Bd1 cls X W C P w K mg base k j S0) (s : StR η.o η.e ρ R) (hs : swapsWithSole [tg] e pos.line X.env = pure false) (hw : swappedStores [tg] e X.env = pure none) (h1 : (assignEach [tg] X.env).map (·.2) = [assign tg X.env]) (he : RunE cls X W e ρ (S0 ++ R) (.ok d)) (hb : bindS C.tb C.names 3 tg d η = some η1) : RunS cls X W (.Assign [tg] e pos) ρ S0 R (.ok (.nx η1)) :=
  RunS.ds (fun ρ' R' => StR η1.o η1.e ρ' R' ∧ R' = R) (fun ρ' R' h _ => h.1) fun E q => ds_asg hs hw h1 (he.deOf (bindS_ok B.A 3 tg d η η1 ρ s hb _ fun ρ1 s1 => q ρ1 R ⟨s1, rfl⟩))
theorem noStar2 (h : (!([a, b].any isStar)) = true) : noStar [a, b] = true := by
  simp only [List.any_cons, List.any_nil, Bool.or_false, Bool.not_eq_true', Bool.or_eq_false_iff] at h
  simp [noStar, h.1, h.2]
theorem noStar3 (h : (!([a, b, c].any isStar)) = true) : noStar [a, b, c] = true := by
  simp only [List.any_cons, List.any_nil, Bool.or_false, Bool.not_eq_true', Bool.or_eq_false_iff] at h
  simp [noStar, h.1, h.2]
theorem parO_ok {η : En2} (B : Bd1 cls X W C P w K mg base k j S0) (s : StR η.o η.e ρ R) : RunS cls X W (.Assign [tg] e pos) ρ S0 R (parO C tg e η) := by
  unfold parO
  split
  · rename_i ts kt pt vs k2 pt2
    split
    · rename_i hfold
      split
      · rename_i d hd
        split
        · rename_i hf
          split
          · rename_i η1 hb
            exact asgF_ok B s (swapsSole_no rfl) (sw_fold hfold) rfl ((B.ev s _).ok_of hd hf) hb
          · exact RunS.bad
        · exact RunS.bad
      · exact RunS.bad
    · split
      · rename_i x px y py a b _
        split
        · rename_i i j hi hj
          split
          · rename_i hloc
            rw [Bool.and_eq_true] at hloc
            split
            · rename_i hh
              simp only [Bool.and_eq_true, Bool.not_eq_true'] at hh
              obtain ⟨⟨⟨hp, hij⟩, hil⟩, hjl⟩ := hh
              have hil : i < η.e.length := Nat.le_of_ble_eq_true hil
              have hjl : j < η.e.length := Nat.le_of_ble_eq_true hjl
              have hns : noStar [a, b] = true := by
                unfold par2B at hp
                simp only [Bool.and_eq_true] at hp
                exact noStar2 hp.2
              split
              · rename_i v u hv
                split
                · rename_i hc
                  have hc := Nat.le_of_ble_eq_true hc
                  refine RunS.ds (fun ρ' R' => ∃ d1 d2 N, VR [v, u] [d1, d2] N ∧ R' = R ++ N ∧ ρ' = (ρ.set i (some d1)).set j (some d2)) ?_ fun E q => ?_
                  · rintro ρ' R' ⟨d1, d2, N, hr, rfl, rfl⟩ nd
                    exact vr2 s hr hc hil hjl nd
                  · refine vParC B.A ⟨hi, hloc.1⟩ ⟨hj, hloc.2⟩ hp (swapsSole_no rfl) hij (parV_ok B [a, b] R [v, u] hns s hv _ fun ds N hr => ?_)
                    have : ∃ d1 d2, ds = [d1, d2] := by
                      cases hr with
                      | flat _ r => cases r with
                        | flat _ r => cases r; exact ⟨_, _, rfl⟩
                        | lst _ r => cases r; exact ⟨_, _, rfl⟩
                      | lst _ r => cases r with
                        | flat _ r => cases r; exact ⟨_, _, rfl⟩
                        | lst _ r => cases r; exact ⟨_, _, rfl⟩
                    obtain ⟨d1, d2, rfl⟩ := this
                    exact ⟨d1, d2, rfl, q _ _ ⟨d1, d2, N, hr, rfl, rfl⟩⟩
                · exact RunS.bad
              · rename_i cc hv
                unfold par2B at hp
                simp only [Bool.and_eq_true, Bool.not_eq_true'] at hp
                obtain ⟨⟨⟨⟨h1, h2⟩, h3⟩, h4⟩, h5⟩ := hp
                refine RunS.of (ps_par B.A.calm B.A.nd (B.A.slot _ _ hi) (B.A.slot _ _ hj) (ne_of_beq hij) (B.A.loc _ (locB_of hloc.1)) (B.A.loc _ (locB_of hloc.2)) pa_w (sw_some2 B.A.bk (B.A.loc _ (locB_of hloc.1)) (B.A.loc _ (locB_of hloc.2)) h1 h2 h3 h4 h5) (swapsSole_no rfl)) fun Zh σ H Dn ev kk => ?_
                obtain ⟨a', ha', kk⟩ := kk
                exact parX_ok B [a, b] R hns s hv Zh σ H _ ev ⟨a', ha', fun H' R' t ev' => kk σ H' ρ R' t ev'⟩
              · exact RunS.bad
            · exact RunS.bad
          · split
            · rename_i hcf
              have no : ∀ z, cfB (C.names.lookup z) = true → (X.env.kindOf z == some .local) = false := fun z hz => by
                rcases B.A.cf z hz with q | q
                · show (X.env.scope.names.lookup z == some .local) = false
                  rw [q]
                  rfl
                · show (X.env.scope.names.lookup z == some .local) = false
                  rw [q]
                  rfl
              rw [Bool.or_eq_true] at hcf
              split
              · rename_i d hd
                split
                · rename_i hf
                  split
                  · rename_i η1 hb
                    exact asgF_ok B s (swapsSole_no rfl) (sw_cell2 (hcf.imp (no x) (no y))) rfl ((B.ev s _).ok_of hd hf) hb
                  · exact RunS.bad
                · exact RunS.bad
              · rename_i cc hd
                refine RunS.of (ps_asg pe_w pg_w (swapsSole_no rfl) (sw_cell2 (hcf.imp (no x) (no y))) rfl) fun Zh σ H Dn ev kk => ?_
                obtain ⟨a', ha', kk⟩ := kk
                exact ((B.ev s _).ex_of hd).tw ev ⟨a', ha', fun H' g s' => kk σ H' ρ R (.of rfl g) (ev.next rfl g s')⟩
              · exact RunS.bad
            · exact RunS.bad
        · exact RunS.bad
      · rename_i x px y py z pz a b c _
        split
        · rename_i i j l hi hj hl
          split
          · rename_i hloc
            rw [Bool.and_eq_true, Bool.and_eq_true] at hloc
            obtain ⟨⟨lx, ly⟩, lz⟩ := hloc
            split
            · rename_i hh
              simp only [Bool.and_eq_true, Bool.not_eq_true'] at hh
              obtain ⟨⟨⟨⟨⟨⟨hp, hij⟩, hil2⟩, hjl2⟩, hil⟩, hjl⟩, hll⟩ := hh
              have hil : i < η.e.length := Nat.le_of_ble_eq_true hil
              have hjl : j < η.e.length := Nat.le_of_ble_eq_true hjl
              have hll : l < η.e.length := Nat.le_of_ble_eq_true hll
              have hns : noStar [a, b, c] = true := by
                unfold par3B at hp
                simp only [Bool.and_eq_true] at hp
                exact noStar3 hp.2
              split
              · rename_i v u t hv
                split
                · rename_i hc
                  have hc := Nat.le_of_ble_eq_true hc
                  refine RunS.ds (fun ρ' R' => ∃ d1 d2 d3 N, VR [v, u, t] [d1, d2, d3] N ∧ R' = R ++ N ∧ ρ' = ((ρ.set i (some d1)).set j (some d2)).set l (some d3)) ?_ fun E q => ?_
                  · rintro ρ' R' ⟨d1, d2, d3, N, hr, rfl, rfl⟩ nd
                    exact vr3 s hr hc hil hjl hll nd
                  · refine vPar3C B.A ⟨hi, lx⟩ ⟨hj, ly⟩ ⟨hl, lz⟩ hp (swapsSole_no rfl) ⟨hij, hil2, hjl2⟩ (parV_ok B [a, b, c] R [v, u, t] hns s hv _ fun ds N hr => ?_)
                    have : ∃ d1 d2 d3, ds = [d1, d2, d3] := by
                      cases hr with
                      | flat _ r => cases r with
                        | flat _ r => cases r with
                          | flat _ r => cases r; exact ⟨_, _, _, rfl⟩
                          | lst _ r => cases r; exact ⟨_, _, _, rfl⟩
                        | lst _ r => cases r with
                          | flat _ r => cases r; exact ⟨_, _, _, rfl⟩
                          | lst _ r => cases r; exact ⟨_, _, _, rfl⟩
                      | lst _ r => cases r with
                        | flat _ r => cases r with
                          | flat _ r => cases r; exact ⟨_, _, _, rfl⟩
                          | lst _ r => cases r; exact ⟨_, _, _, rfl⟩
                        | lst _ r => cases r with
                          | flat _ r => cases r; exact ⟨_, _, _, rfl⟩
                          | lst _ r => cases r; exact ⟨_, _, _, rfl⟩
                    obtain ⟨d1, d2, d3, rfl⟩ := this
                    exact ⟨d1, d2, d3, rfl, q _ _ ⟨d1, d2, d3, N, hr, rfl, rfl⟩⟩
                · exact RunS.bad
              · rename_i cc hv
                unfold par3B at hp
                simp only [Bool.and_eq_true, Bool.not_eq_true'] at hp
                obtain ⟨⟨⟨⟨⟨⟨⟨h1, h2⟩, h3⟩, h4⟩, h5⟩, h6⟩, h7⟩, h8⟩ := hp
                refine RunS.of (ps_par3 B.A.calm B.A.nd (B.A.slot _ _ hi) (B.A.slot _ _ hj) (B.A.slot _ _ hl) (ne_of_beq hij) (ne_of_beq hil2) (ne_of_beq hjl2) (B.A.loc _ (locB_of lx)) (B.A.loc _ (locB_of ly)) (B.A.loc _ (locB_of lz)) pa_w (sw_some3 B.A.bk (B.A.loc _ (locB_of lx)) (B.A.loc _ (locB_of ly)) (B.A.loc _ (locB_of lz)) h1 h2 h3 h4 h5 h6 h7 h8) (swapsSole_no rfl)) fun Zh σ H Dn ev kk => ?_
                obtain ⟨a', ha', kk⟩ := kk
                exact parX_ok B [a, b, c] R hns s hv Zh σ H _ ev ⟨a', ha', fun H' R' t ev' => kk σ H' ρ R' t ev'⟩
              · exact RunS.bad
            · exact RunS.bad
          · exact RunS.bad
        · exact RunS.bad
      · exact RunS.bad
  · exact RunS.bad
end
end Ar
namespace Ar
open PySem PySem.Spec PyProof.Rows L2
section
variable {cls : Cls} {X : Cx} {W : WX} {C : Cxt} {P : Program} {w : World} {K : PySem.W.Frag} {mg : Str → Option Value} {base : Heap} {tb : List (Str × Nat)} {names : List (Str × NameKind)} {k j : Nat} {S S0 R : Sto} {ρ : Ro} {own : List Nat} {η : En} {e a b c : Expr} {es : List Expr} {pos p py tpos : Pos} {tg iter : Expr} {T : IT} {r : Rc} {body : List Stmt}
/-! x op= e, on numbers -/
def augV : Operator → D → D → Option D
  | .Add, .int i, .int j => some (.int (i + j))
  | .Sub, .int i, .int j => some (.int (i - j))
  | .Sub, .rng a b, .int j => some (.rng (a - j) (b - j))
  | .Add, .rng a b, .int j => some (.rng (a + j) (b + j))
  | _, _, _ => none
theorem augV_ok {op : Operator} {x y d : D} {Φ : D → Sto → Prop} (h : augV op x y = some d) (q : Φ d S) : DO X (inplaceOp op) x y S Φ := by
  unfold augV at h
  split at h
  · cases h
    exact do_iadd q
  · cases h
    exact do_isub q
  · cases h
    refine DO.of iop_sub fun Zh H u v Q st ra rb P => ?_
    obtain ⟨i, rfl, i1, i2⟩ := ra.rng
    exact ⟨i, _, rfl, rb.int, P.here st (rep_rng (by omega) (by omega)) q⟩
  · cases h
    refine DO.of iop_add fun Zh H u v Q st ra rb P => ?_
    obtain ⟨i, rfl, i1, i2⟩ := ra.rng
    exact ⟨i, _, rfl, rb.int, P.here st (rep_rng (by omega) (by omega)) q⟩
  · cases h
def augO (C : Cxt) (t : Expr) (op : Operator) (e : Expr) (η : En2) : Out Fl := match t with
  | .Name x _ => match C.tb.lookup x with
    | some i => if stB (C.names.lookup x) && !η.o.contains i then match η.e[i]? with
        | some (some v) => match CE C e η.e with
          | .ok d => if flatD d then match augV op v d with
              | some r => .ok (.nx (η.put i r))
              | none => .bad
            else .bad
          | _ => .bad
        | _ => .bad
      else .bad
    | none => .bad
  | _ => .bad
theorem augO_ok {t : Expr} {op : Operator} {η : En2} (B : Bd1 cls X W C P w K mg base k j S0) (s : StR η.o η.e ρ R) : RunS cls X W (.AugAssign t op e pos) ρ S0 R (augO C t op e η) := by
  unfold augO
  split
  · split
    · rename_i i hi
      split
      · rename_i hh
        simp only [Bool.and_eq_true, Bool.not_eq_true'] at hh
        have hno : i ∉ η.o := by simpa using hh.2
        split
        · rename_i v hv
          split
          · rename_i d hd
            split
            · rename_i hf
              split
              · rename_i r0 hr
                have he := (B.ev s e).ok_of hd hf
                refine RunS.ds (fun ρ' R' => ρ' = ρ.set i (some r0) ∧ R' = R) ?_ fun E q => vAug B.A ⟨hi, hh.1⟩ ⟨v, s.v i v hno hv, he.deOf (augV_ok hr (q _ _ ⟨rfl, rfl⟩))⟩
                rintro ρ' R' ⟨rfl, rfl⟩ _
                exact s.put
              · exact RunS.bad
            · exact RunS.bad
          · exact RunS.bad
        · exact RunS.bad
      · exact RunS.bad
    · exact RunS.bad
  · exact RunS.bad
/-! x[i] = e, x an own list -/
def storeO (C : Cxt) (o i e : Expr) (η : En2) : Out Fl := if isComp e || isSl i then .bad else match ownName C η o with
  | some (s, l) => match CE C e η.e, CE C i η.e with
    | .ok d, .ok (.int n) => if flatD d then match ixN l.length n with
        | some m => .ok (.nx ⟨η.e.set s (some (.lst (l.set m d))), η.o⟩)
        | none => .bad
      else .bad
    | _, _ => .bad
  | none => .bad
theorem flatL_set : ∀ {l : List D} {m : Nat} {d : D}, flatL l = true → flatD d = true → flatL (l.set m d) = true
  | [], _, _, h, _ => h
  | c :: l, 0, d, h, h2 => by
    unfold flatL at h
    rw [Bool.and_eq_true] at h
    show flatL (d :: l) = true
    unfold flatL
    rw [h2, h.2]
    rfl
  | c :: l, m + 1, d, h, h2 => by
    unfold flatL at h
    rw [Bool.and_eq_true] at h
    show flatL (c :: l.set m d) = true
    unfold flatL
    rw [h.1, flatL_set h.2 h2]
    rfl
theorem asg_sub {o i : Expr} {X : Cx} (h : isSl i = false) : ∀ v, assign (.Subscript o i tpos) X.env v = (do
      let ov ← holding [v] (eval o X.env)
      let iv ← holding [v, ov] (eval i X.env)
      standAt tpos
      holding [v, ov, iv] (setItem ov iv v)
      release [v, ov, iv] []) := fun v => by
  cases i <;> first | rfl | cases h
theorem swst_sub {o i e : Expr} {env : Env} : swappedStores [.Subscript o i tpos] e env = pure none := by
  unfold swappedStores
  cases e <;> rfl
theorem storeO_ok {o i : Expr} {η : En2} (B : Bd1 cls X W C P w K mg base k j S0) (s : StR η.o η.e ρ R) : RunS cls X W (.Assign [.Subscript o i tpos] e pos) ρ S0 R (storeO C o i e η) := by
  unfold storeO
  split
  · exact RunS.bad
  · rename_i hh
    have hh : isComp e = false ∧ isSl i = false := by simpa using hh
    split
    · rename_i sl l ho
      obtain ⟨hi, hη, x, px, p, rfl, hρ, hm, hde⟩ := ownName_ok B s ho
      obtain ⟨Al, Bl, rfl⟩ := List.append_of_mem hm
      have hfl : flatL l = true := s.fl p l hm
      split
      · rename_i d n hd hn
        split
        · rename_i hf
          split
          · rename_i m hm2
            have he := (B.ev s e).ok_of hd hf
            have hi2 := (B.ev s i).ok_of hn rfl
            refine RunS.ds (fun ρ' R' => ρ' = ρ ∧ R' = Al ++ (p, l.set m d) :: Bl) ?_ fun E q => ?_
            · rintro ρ' R' ⟨rfl, rfl⟩ nd
              rw [keys_append, List.nodup_append, keys_wr (l := l)] at nd
              exact s.write hi hρ nd.2.1 (flatL_set hfl hf)
            · refine ds_store (swapsSole_no hh.1) swst_sub rfl (asg_sub hh.2) (he.deOf (hde ρ _ _ hρ (hi2.deOf ⟨p, S0 ++ Al, l, Bl, n, m, rfl, by rw [List.append_assoc], rfl, hm2, ?_⟩)))
              have := q _ _ ⟨rfl, rfl⟩
              rw [← List.append_assoc] at this
              exact this
          · exact RunS.bad
        · exact RunS.bad
      · exact RunS.bad
    · exact RunS.bad
/-! for -/
theorem iterO_of (A : At X P w K mg base tb names k) (G : NoB mg) (ge : ∀ a, RunE cls X W a ρ S (r.E names a η)) (iter : Expr) : RunI cls X W tg iter ρ S (iterO r names tg iter η) := by
  unfold iterO
  split
  · split
    · rename_i f _ a _ hh
      simp only [Bool.and_eq_true, Bool.not_eq_true', beq_iff_eq] at hh
      obtain ⟨⟨rfl, hg⟩, hs⟩ := hh
      exact runI_range1 A G hg hs (ge a)
    · split
      · rename_i f _ a _ _ hh
        simp only [Bool.and_eq_true, Bool.not_eq_true', beq_iff_eq] at hh
        obtain ⟨⟨⟨rfl, hg⟩, hs⟩, ht⟩ := hh
        cases tg <;> first | (cases ht; done) | skip
        exact runI_enum A G hg hs (ge a)
      · exact runI_plain (ge _)
  · split
    · rename_i f _ a b _ hh
      simp only [Bool.and_eq_true, Bool.not_eq_true', beq_iff_eq] at hh
      obtain ⟨⟨⟨rfl, hg⟩, hs⟩, hs2⟩ := hh
      exact runI_range2 A G hg hs hs2 (ge a) (ge b)
    · split
      · rename_i f _ a b _ _ hh
        simp only [Bool.and_eq_true, Bool.not_eq_true', beq_iff_eq] at hh
        obtain ⟨⟨⟨⟨rfl, hg⟩, hs⟩, hs2⟩, ht⟩ := hh
        cases tg <;> first | (cases ht; done) | skip
        exact runI_zip A G hg hs hs2 (ge a) (ge b)
      · exact runI_plain (ge _)
  · exact runI_plain (ge _)
def forO (bnd : D → En2 → Option En2) (body : En2 → Out Fl) : List D → En2 → Out Fl
  | [], η => .ok (.nx η)
  | d :: ds, η => match bnd d η with
    | none => .bad
    | some η1 => (body η1).bind fun fl => match fl with
      | .nx η2 => forO bnd body ds η2
      | .ct η2 => forO bnd body ds η2
      | .bk η2 => .ok (.nx η2)
      | .rt d => .ok (.rt d)
def forS (C : Cxt) (tg iter : Expr) (body : En2 → Out Fl) (η : En2) : Out Fl := if isSet iter then .bad else (iterO ⟨fun _ a _ => fullE C η a, fun _ _ _ => .bad⟩ C.names tg iter η.e).bind fun ds => forO (bindS C.tb C.names 3 tg) body ds η
theorem RunI.tw {o : Out (List D)} {Zh : List Addr} {σ : L2.St} {H : Hp} {Rr : It → Hp → Prop} (h : RunI cls X W tg iter ρ S o) (E : Ev X.K Zh H σ ρ S) (k : POI cls W X.K Zh σ H S Rr o) : tiW X tg iter σ H Rr := fun pins s I => h Zh pins s σ H Rr I E k
theorem forS_ok {η : En2} {bd : En2 → Out Fl} (B : Bd1 cls X W C P w K mg base k j S0) (s : StR η.o η.e ρ R) (hb : ∀ η ρ R, StR η.o η.e ρ R → RunSs cls X W body ρ S0 R (bd η)) : RunS cls X W (.For tg iter body [] pos) ρ S0 R (forS C tg iter bd η) := by
  unfold forS
  split
  · exact RunS.bad
  · rename_i hset
    have hset : isSet iter = false := by simpa using hset
    have gi := iterO_of (r := ⟨fun _ a _ => fullE C η a, fun _ _ _ => .bad⟩) (η := η.e) (tg := tg) B.A B.G.nob (fun a => fullE_ok B s a) iter
    refine RunS.of (ps_for B.A.own B.A.calm pi_w pg_w pss_w (fun x => folded_no hset)) fun Zh σ H Dn ev kk => ?_
    cases ho : iterO ⟨fun _ a _ => fullE C η a, fun _ _ _ => .bad⟩ C.names tg iter η.e with
    | bad =>
      rw [ho] at kk
      exact kk.elim
    | ex c =>
      rw [ho] at kk gi
      obtain ⟨a, ha, kk⟩ := kk
      exact gi.tw ev ⟨a, ha, fun H' g s' => kk σ H' ρ R (.of rfl g) (ev.next rfl g s')⟩
    | ok ds =>
      rw [ho] at kk gi
      refine gi.tw ev fun J H1 g1 s1 it => ?_
      have ev1 := ev.next rfl g1 s1
      have kk1 : PSt cls W X.K Zh H1 S0 R Dn (forO (bindS C.tb C.names 3 tg) bd ds η) := PSt.next (Step.of rfl g1) kk
      refine ⟨fun i m σ' H' => ∃ ρ' R' η', Step (S0 ++ R) H1 (S0 ++ R') H' ∧ Ev X.K Zh H' σ' ρ' (S0 ++ R') ∧ StR η'.o η'.e ρ' R' ∧ PSt cls W X.K Zh H' S0 R' Dn (forO (bindS C.tb C.names 3 tg) bd (ds.drop i) η') ∧ m = ds.length - i ∧ i ≤ ds.length, ⟨ds.length, ρ, R, η, Step.refl, ev1, s, kk1, rfl, Nat.zero_le _⟩, ?_⟩
      rintro i m σ2 H2 ⟨ρ2, R2, η2, t2, ev2, s2, k2, rfl, hi⟩
      by_cases hlt : i < ds.length
      · refine .inr ⟨it.go i (S0 ++ R2) H2 t2 hlt, fun σ' H' => ∃ ρ' R' η', Step (S0 ++ R) H1 (S0 ++ R') H' ∧ Ev X.K Zh H' σ' ρ' (S0 ++ R') ∧ StR η'.o η'.e ρ' R' ∧ PSt cls W X.K Zh H' S0 R' Dn (forO (bindS C.tb C.names 3 tg) bd (ds.drop (i + 1)) η'), ?_, fun x H3 y => ?_⟩
        · rintro σ' H' ⟨ρ', R', η', a1, a2, a3, a4⟩
          exact ⟨ds.length - (i + 1), by omega, ρ', R', η', a1, a2, a3, a4, rfl, hlt⟩
        · obtain ⟨d, hd, sm, rd⟩ := it.yld i (S0 ++ R2) H2 x H3 [] (fun _ h => nomatch h) t2 ev2.st hlt y
          have e1 : ds.drop i = d :: ds.drop (i + 1) := by
            rw [List.drop_eq_getElem_cons hlt]
            congr 1
            rw [List.getElem?_eq_getElem hlt] at hd
            exact Option.some.inj hd
          rw [e1] at k2
          have ev3 := Same.ev ev2 sm
          have t3 := t2.trans (Same.step sm)
          have k3 := PSt.next (Same.step sm) k2
          unfold forO at k3
          split at k3
          · exact k3.elim
          · rename_i η3 hb3
            refine DG.tw (bindS_ok (S := S0 ++ R2) B.A 3 tg d η2 η3 ρ2 s2 hb3 (fun ρ4 S4 => S4 = S0 ++ R2 ∧ StR η3.o η3.e ρ4 R2) fun ρ4 s4 => ⟨rfl, s4⟩) ev3 rd fun σ4 H4 ρ4 S4 kk4 g4 ev4 _ _ q4 => ?_
            obtain ⟨rfl, s4⟩ := q4
            have t4 := t3.trans (Step.of kk4 g4)
            have k4 := PSt.next (R1 := R2) (Step.of kk4 g4) k3
            refine (hb η3 ρ4 R2 s4).tw ev4 ?_
            revert k4
            cases bd η3 with
            | bad => exact fun k => k
            | ex c => exact fun k => k
            | ok fl =>
              cases fl with
              | nx η5 => exact fun k σ' H' ρ' R' t ev s5 => ⟨ρ', R', η5, t4.trans t, ev, s5, PSt.next t k⟩
              | ct η5 => exact fun k σ' H' ρ' R' t ev s5 => ⟨ρ', R', η5, t4.trans t, ev, s5, PSt.next t k⟩
              | bk η5 => exact fun k => k
              | rt d => exact fun k => k
      · have e1 : i = ds.length := by omega
        refine .inl ⟨by rw [e1]; exact it.stop (S0 ++ R2) H2 t2, ?_⟩
        rw [List.drop_eq_nil_of_le (by omega)] at k2
        exact k2 σ2 H2 ρ2 R2 Step.refl ev2 s2
/-! while -/
def whileO (t : En2 → Out Bool) (body : En2 → Out Fl) : Nat → En2 → Out Fl
  | 0, _ => .bad
  | n + 1, η => (t η).bind fun c => if c then (body η).bind fun fl => match fl with
      | .nx η2 => whileO t body n η2
      | .ct η2 => whileO t body n η2
      | .bk η2 => .ok (.nx η2)
      | .rt d => .ok (.rt d)
    else .ok (.nx η)
theorem whileO_ok {c : Expr} {η : En2} {bd : En2 → Out Fl} {n : Nat} (B : Bd1 cls X W C P w K mg base k j S0) (s : StR η.o η.e ρ R) (hb : ∀ η ρ R, StR η.o η.e ρ R → RunSs cls X W body ρ S0 R (bd η)) : RunS cls X W (.While c body [] pos) ρ S0 R (whileO (fun η => CT C c η.e) bd n η) :=
  RunS.of (ps_while B.A.own pt_w pss_w) fun Zh σ H Dn ev kk => by
    refine ⟨fun m σ' H' => ∃ ρ' R' η', Step (S0 ++ R) H (S0 ++ R') H' ∧ Ev X.K Zh H' σ' ρ' (S0 ++ R') ∧ StR η'.o η'.e ρ' R' ∧ PSt cls W X.K Zh H' S0 R' Dn (whileO (fun η => CT C c η.e) bd m η'), ⟨n, ρ, R, η, Step.refl, ev, s, kk⟩, ?_⟩
    rintro m σ1 H1 ⟨ρ1, R1, η1, t1, ev1, s1, k1⟩
    cases m with
    | zero => exact k1.elim
    | succ m =>
      unfold whileO at k1
      have ht := B.t s1 c
      cases hc : CT C c η1.e with
      | bad =>
        rw [hc] at k1
        exact k1.elim
      | ex cc =>
        rw [hc] at k1 ht
        obtain ⟨a, ha, k1⟩ := k1
        exact ht.tw ev1 ⟨a, ha, fun H' g s' => k1 σ1 H' ρ1 R1 (.of rfl g) (ev1.next rfl g s')⟩
      | ok b =>
        rw [hc] at k1 ht
        refine ht.tw ev1 fun H2 g2 s2 => ?_
        have ev2 := ev1.next rfl g2 s2
        have t2 := t1.trans (Step.of rfl g2)
        have k2 := PSt.next (R1 := R1) (Step.of rfl g2) k1
        cases b with
        | true =>
          refine ⟨fun σ' H' => ∃ m', m' < m + 1 ∧ ∃ ρ' R' η', Step (S0 ++ R) H (S0 ++ R') H' ∧ Ev X.K Zh H' σ' ρ' (S0 ++ R') ∧ StR η'.o η'.e ρ' R' ∧ PSt cls W X.K Zh H' S0 R' Dn (whileO (fun η => CT C c η.e) bd m' η'), fun σ' H' h => h, ?_⟩
          refine (hb η1 ρ1 R1 s1).tw ev2 ?_
          have k3 : PSt cls W X.K Zh H2 S0 R1 Dn ((bd η1).bind fun fl => match fl with
              | .nx η2 => whileO (fun η => CT C c η.e) bd m η2
              | .ct η2 => whileO (fun η => CT C c η.e) bd m η2
              | .bk η2 => .ok (.nx η2)
              | .rt d => .ok (.rt d)) := k2
          revert k3
          cases bd η1 with
          | bad => exact fun k => k
          | ex c => exact fun k => k
          | ok fl =>
            cases fl with
            | nx η5 => exact fun k σ' H' ρ' R' t ev s5 => ⟨m, Nat.lt_succ_self m, ρ', R', η5, t2.trans t, ev, s5, PSt.next t k⟩
            | ct η5 => exact fun k σ' H' ρ' R' t ev s5 => ⟨m, Nat.lt_succ_self m, ρ', R', η5, t2.trans t, ev, s5, PSt.next t k⟩
            | bk η5 => exact fun k => k
            | rt d => exact fun k => k
        | false =>
          have k3 : PSt cls W X.K Zh H2 S0 R1 Dn (.ok (.nx η1)) := k2
          exact k3 σ1 H2 ρ1 R1 Step.refl ev2 s1
/-! a list that is gone through is no longer own -/
theorem unown {Zh : List Addr} {H : Hp} {σ : L2.St} {i : Nat} {l : List D} {pp : Addr} {o : List Nat} {ηe : En} (E : Ev K Zh H σ ρ (S0 ++ R)) (s : StR o ηe ρ R) (hi : i ∈ o) (hη : ηe[i]? = some (some (.lst l))) (hρ : ρ[i]? = some (some (.cell pp))) (hm : (pp, l) ∈ R) :
    ∃ ρ' R', Ev K Zh H σ ρ' (S0 ++ R') ∧ StR (without i o) ηe ρ' R' ∧ Step (S0 ++ R) H (S0 ++ R') H := by
  obtain ⟨Al, Bl, rfl⟩ := List.append_of_mem hm
  have hlt : i < ρ.length := (List.getElem?_eq_some_iff.mp hρ).1
  have sub : ∀ q, q ∈ keys (S0 ++ (Al ++ Bl)) → q ∈ keys (S0 ++ (Al ++ (pp, l) :: Bl)) := fun q hq => by
    simp only [keys, List.map_append, List.map_cons, List.mem_append, List.mem_cons] at hq ⊢
    rcases hq with h | h | h
    · exact .inl h
    · exact .inr (.inl h)
    · exact .inr (.inr (.inr h))
  have subZ : ∀ q, q ∈ keys (S0 ++ (Al ++ Bl)) ++ Zh → q ∈ keys (S0 ++ (Al ++ (pp, l) :: Bl)) ++ Zh := fun q hq => by
    rcases List.mem_append.mp hq with h | h
    · exact List.mem_append_left _ (sub q h)
    · exact List.mem_append_right _ h
  have subR : ∀ x, x ∈ S0 ++ (Al ++ Bl) → x ∈ S0 ++ (Al ++ (pp, l) :: Bl) := fun x hx => by
    simp only [List.mem_append, List.mem_cons] at hx ⊢
    rcases hx with h | h | h
    · exact .inl h
    · exact .inr (.inl h)
    · exact .inr (.inr (.inr h))
  have nd := E.st.nd
  have ndp : pp ∉ keys (S0 ++ (Al ++ Bl)) ∧ (keys (S0 ++ (Al ++ Bl))).Nodup := by
    have e1 : keys (S0 ++ (Al ++ (pp, l) :: Bl)) = (keys S0 ++ keys Al) ++ pp :: keys Bl := by simp [keys]
    have e2 : keys (S0 ++ (Al ++ Bl)) = (keys S0 ++ keys Al) ++ keys Bl := by simp [keys]
    rw [e1] at nd
    rw [e2]
    rw [List.nodup_append] at nd
    obtain ⟨n1, n2, n3⟩ := nd
    rw [List.nodup_cons] at n2
    refine ⟨fun z => ?_, List.nodup_append.mpr ⟨n1, n2.2, fun x hx y hy => n3 x hx y (List.mem_cons_of_mem _ hy)⟩⟩
    rcases List.mem_append.mp z with z | z
    · exact n3 pp z pp List.mem_cons_self rfl
    · exact n2.1 z
  have pk : pp ∈ keys (S0 ++ (Al ++ (pp, l) :: Bl)) := by simp [keys]
  obtain ⟨ws, hw, rw'⟩ := E.st.st pp l (List.mem_append_right _ hm)
  refine ⟨ρ.set i (some (.lst l)), Al ++ Bl, ⟨⟨ndp.2, fun q m hq => ?_, fun q hq => ?_⟩, by rw [List.length_set]; exact E.len, fun j d hd => ?_⟩, ⟨by rw [List.length_set]; exact s.l, fun j d hj hd => ?_, fun j hj => ?_, fun a b q ha hb ea eb => ?_, fun q m hq => ?_⟩, ⟨Grow.refl, fun q hq => .inl (sub q hq)⟩⟩
  · obtain ⟨vs, a, b⟩ := E.st.st q m (subR _ hq)
    exact ⟨vs, a, b.shrink subZ⟩
  · obtain ⟨a, b⟩ := E.st.hid q hq
    exact ⟨fun z => a (sub q z), b⟩
  · by_cases e : i = j
    · subst e
      rw [List.getElem?_set_self hlt] at hd
      cases hd
      obtain ⟨v, e1, r⟩ := E.var i _ hρ
      refine ⟨v, e1, ?_⟩
      rw [r.cell]
      unfold Rep
      refine ⟨pp, ws, rfl, fun z => ?_, hw, rw'.shrink subZ⟩
      rcases List.mem_append.mp z with z | z
      · exact ndp.1 z
      · exact (E.st.hid pp z).1 pk
    · rw [List.getElem?_set_ne e] at hd
      obtain ⟨v, e1, r⟩ := E.var j d hd
      exact ⟨v, e1, r.shrink subZ⟩
  · by_cases e : i = j
    · subst e
      rw [hη] at hd
      cases hd
      exact List.getElem?_set_self hlt
    · rw [List.getElem?_set_ne e]
      exact s.v j d (fun z => hj (mem_without.mpr ⟨z, e⟩)) hd
  · obtain ⟨hjo, e⟩ := mem_without.mp hj
    obtain ⟨l', p', a, b, c⟩ := s.o j hjo
    refine ⟨l', p', a, by rw [List.getElem?_set_ne e]; exact b, ?_⟩
    simp only [List.mem_append, List.mem_cons] at c ⊢
    rcases c with h | h | h
    · exact .inl h
    · cases h
      exact absurd (s.nd i j pp hi hjo hρ b) e
    · exact .inr h
  · obtain ⟨a1, a2⟩ := mem_without.mp ha
    obtain ⟨b1, b2⟩ := mem_without.mp hb
    rw [List.getElem?_set_ne a2] at ea
    rw [List.getElem?_set_ne b2] at eb
    exact s.nd a b q a1 b1 ea eb
  · refine s.fl q m ?_
    simp only [List.mem_append, List.mem_cons] at hq ⊢
    rcases hq with h | h
    · exact .inl h
    · exact .inr (.inr h)
/-- a list that is gone through is no longer own -/
def drop1 (C : Cxt) (e : Expr) (η : En2) : En2 := match ownName C η e with
  | some (i, _) => ⟨η.e, without i η.o⟩
  | none => η
theorem drop1_ok {η : En2} {Zh : List Addr} {σ : L2.St} {H : Hp} (B : Bd1 cls X W C P w K mg base k j S0) (ev : Ev X.K Zh H σ ρ (S0 ++ R)) (s : StR η.o η.e ρ R) (e : Expr) :
    ∃ ρ' R', Ev X.K Zh H σ ρ' (S0 ++ R') ∧ StR (drop1 C e η).o (drop1 C e η).e ρ' R' ∧ Step (S0 ++ R) H (S0 ++ R') H := by
  unfold drop1
  split
  · rename_i i l ho
    obtain ⟨hi, hη, x, px, p, rfl, hρ, hm, hde⟩ := ownName_ok B s ho
    have hK := B.A.K
    subst hK
    exact unown ev s hi hη hρ hm
  · exact ⟨ρ, R, ev, s, Step.refl⟩
def forW (C : Cxt) (tg iter : Expr) (body : En2 → Out Fl) (η : En2) : Out Fl := match iter with
  | .Call (.Name f _) [a, b] [] _ => if f == "zip" then forS C tg iter body (drop1 C b (drop1 C a η)) else forS C tg iter body η
  | .Call (.Name f _) [a] [] _ => if f == "enumerate" then forS C tg iter body (drop1 C a η) else forS C tg iter body η
  | e => forS C tg e body (drop1 C e η)
theorem forW_ok {η : En2} {bd : En2 → Out Fl} (B : Bd1 cls X W C P w K mg base k j S0) (s : StR η.o η.e ρ R) (hb : ∀ η ρ R, StR η.o η.e ρ R → RunSs cls X W body ρ S0 R (bd η)) : RunS cls X W (.For tg iter body [] pos) ρ S0 R (forW C tg iter bd η) := by
  unfold forW
  split
  · split
    · rename_i f fp a b cp _
      intro Zh pins sh σ H Dn I ev kk
      obtain ⟨ρ1, R1, ev1, s1, t1⟩ := drop1_ok B ev s a
      obtain ⟨ρ2, R2, ev2, s2, t2⟩ := drop1_ok B ev1 s1 b
      exact forS_ok B s2 hb Zh pins sh σ H Dn I ev2 (PSt.next t2 (PSt.next t1 kk))
    · exact forS_ok B s hb
  · split
    · rename_i f fp a cp _
      intro Zh pins sh σ H Dn I ev kk
      obtain ⟨ρ1, R1, ev1, s1, t1⟩ := drop1_ok B ev s a
      exact forS_ok B s1 hb Zh pins sh σ H Dn I ev1 (PSt.next t1 kk)
    · exact forS_ok B s hb
  · intro Zh pins sh σ H Dn I ev kk
    obtain ⟨ρ1, R1, ev1, s1, t1⟩ := drop1_ok B ev s iter
    exact forS_ok B s1 hb Zh pins sh σ H Dn I ev1 (PSt.next t1 kk)
end
end Ar
namespace Ar
open PySem PySem.Spec PyProof.Rows L2
/-! ### bodies -/
def stepS (C : Cxt) (body : List Stmt → En2 → Out Fl) (st : Stmt) (η : En2) : Out Fl := match st with
  | .Assign ts e _ => match ts with
    | [.Name x py] => if isComp e && !cfB (C.names.lookup x) then asgLc C x py e η else asgO C x e η
    | [.Subscript o i _] => storeO C o i e η
    | [tg] => if isTupX e then parO C tg e η else asgT C tg e η
    | _ => .bad
  | .AugAssign t op e _ => augO C t op e η
  | .Return (some e) _ => retO C e η
  | .Return none _ => .ok (.rt .non)
  | .Raise x none _ => raiseO C x
  | .Expr e _ => exprO C e η
  | .If c a b _ => (CT C c η.e).bind fun k => if k then body a η else body b η
  | .For tg it b [] _ => forW C tg it (body b) η
  | .While c b [] _ => whileO (fun η => CT C c η.e) (body b) 3000 η
  | .Pass _ => .ok (.nx η)
  | .Break _ => .ok (.bk η)
  | .Continue _ => .ok (.ct η)
  | _ => .bad
def seqS (f : Stmt → En2 → Out Fl) : List Stmt → En2 → Out Fl
  | [], η => .ok (.nx η)
  | st :: sts, η => (f st η).bind fun fl => match fl with
    | .nx η1 => seqS f sts η1
    | fl => .ok fl
def evSs (C : Cxt) : Nat → List Stmt → En2 → Out Fl
  | 0, _, _ => .bad
  | n + 1, sts, η => seqS (stepS C (evSs C n)) sts η
section
variable {cls : Cls} {X : Cx} {W : WX} {C : Cxt} {P : Program} {w : World} {K : PySem.W.Frag} {mg : Str → Option Value} {base : Heap} {tb : List (Str × Nat)} {names : List (Str × NameKind)} {k j : Nat} {S S0 R : Sto} {ρ : Ro} {own : List Nat} {η : En} {e a b c : Expr} {es : List Expr} {pos p py tpos : Pos} {tg iter : Expr} {T : IT} {r : Rc} {body : List Stmt} {st : Stmt}
theorem stepS_ok {bd : List Stmt → En2 → Out Fl} (B : Bd1 cls X W C P w K mg base k j S0) (hb : ∀ sts η ρ R, StR η.o η.e ρ R → RunSs cls X W sts ρ S0 R (bd sts η)) {η : En2} (s : StR η.o η.e ρ R) : RunS cls X W st ρ S0 R (stepS C bd st η) := by
  unfold stepS
  split
  · split
    · split
      · exact asgLc_ok B s
      · exact asgO_ok B s
    · exact storeO_ok B s
    · split
      · exact parO_ok B s
      · exact asgT_ok B s
    · exact RunS.bad
  · exact augO_ok B s
  · exact retO_ok B s
  · exact RunS.of ps_retN fun Zh σ H Dn ev kk => kk .non H .non R Step.refl ev.st rep_non (.inl ⟨rfl, rfl⟩) s.fl
  · exact raiseO_ok B
  · exact exprO_ok B s
  · exact runS_if (B.t s _) (hb _ η ρ R s) (hb _ η ρ R s)
  · exact forW_ok B s fun η ρ R s => hb _ η ρ R s
  · exact whileO_ok B s fun η ρ R s => hb _ η ρ R s
  · exact RunS.of ps_pass fun Zh σ H Dn ev kk => kk σ H ρ R Step.refl ev s
  · exact RunS.of ps_break fun Zh σ H Dn ev kk => kk σ H ρ R Step.refl ev s
  · exact RunS.of ps_continue fun Zh σ H Dn ev kk => kk σ H ρ R Step.refl ev s
  · exact RunS.bad
theorem seqS_ok {f : Stmt → En2 → Out Fl} (hf : ∀ st η ρ R, StR η.o η.e ρ R → RunS cls X W st ρ S0 R (f st η)) : ∀ (sts : List Stmt) (η : En2) (ρ : Ro) (R : Sto), StR η.o η.e ρ R → RunSs cls X W sts ρ S0 R (seqS f sts η)
  | [], η, ρ, R, s => runSs_nil s
  | st :: sts, η, ρ, R, s => runSs_cons (hf st η ρ R s) fun η1 ρ1 R1 s1 => seqS_ok hf sts η1 ρ1 R1 s1
theorem evSs_ok (B : Bd1 cls X W C P w K mg base k j S0) : ∀ (n : Nat) (sts : List Stmt) (η : En2) (ρ : Ro) (R : Sto), StR η.o η.e ρ R → RunSs cls X W sts ρ S0 R (evSs C n sts η)
  | 0, _, _, _, _, _ => RunSs.bad
  | n + 1, sts, η, ρ, R, s => seqS_ok (fun st η ρ R s => stepS_ok B (evSs_ok B n) s) sts η ρ R s
/-! back to the judgements of old -/
theorem RunSs.rtOf {d : D} {E : DEnds} (h : RunSs cls X W body ρ S0 R (.ok (.rt d))) (q : ∀ d' R', RetI d d' R' → FlatS R' → E.rt d' (S0 ++ R')) : DSs X body ρ (S0 ++ R) E := fun Zh pins s σ H Dn I ev kk => h Zh pins s σ H Dn I ev fun v H' d' R' t s' r ri f => kk.rt v H' d' (S0 ++ R') t s' r (q d' R' ri f)
theorem RunSs.nxOf {η : En2} {E : DEnds} (h : RunSs cls X W body ρ S0 R (.ok (.nx η))) (q : ∀ ρ' R', StR η.o η.e ρ' R' → E.nx ρ' (S0 ++ R')) : DSs X body ρ (S0 ++ R) E := fun Zh pins s σ H Dn I ev kk => h Zh pins s σ H Dn I ev fun σ' H' ρ' R' t ev' s' => kk.nx σ' H' ρ' (S0 ++ R') t ev' (q ρ' R' s')
theorem RunSs.exOf {c : Str} {a : Addr} {Θ : XiS} (h : RunSs cls X W body ρ S0 R (.ex c)) (ha : cls c = some a) (q : ∀ ρ' R', Θ (.ref a) ρ' (S0 ++ R')) : DRSs X W body ρ (S0 ++ R) Θ := fun Zh pins s σ H Dn I ev kk => h Zh pins s σ H Dn I ev ⟨a, ha, fun σ' H' ρ' R' t ev' => kk _ σ' H' ρ' (S0 ++ R') t ev' (q ρ' R')⟩
end
/-! ### functions -/
structure FI where
  nm : Str
  np : Nat
  tb : List (Str × Nat)
  names : List (Str × NameKind)
  N : Nat
  body : List Stmt
def startE (args : List D) (N : Nat) : En2 := ⟨args.map some ++ List.replicate (N - args.length) none, []⟩
def outF : Out Fl → Out D
  | .ok (.rt d) => .ok d
  | .ok (.nx _) => .ok .non
  | .ok _ => .bad
  | .ex c => .ex c
  | .bad => .bad
def cxtOf (T : IT) (exs : List Str) (fi : FI) : Cxt := ⟨T, fi.tb, fi.names, evs T fi.tb 40, exs⟩
def runF (T : IT) (exs : List Str) (fi : FI) (args : List D) : Out D := if Nat.beq args.length fi.np then outF (evSs (cxtOf T exs fi) 30 fi.body (startE args fi.N)) else .bad
structure FnFact (K : PySem.W.Frag) (mg : Str → Option Value) (fi : FI) : Prop where
  ex : ∃ st N ps, Has K mg fi.nm st ps ∧ FnScope N ps (defScope st) ∧ ps.length = fi.np ∧ (defScope st).names = fi.names ∧ tbOk N fi.tb = true ∧ defBody st = fi.body ∧ N.length = fi.N
section
variable {cls : Cls} {T : IT} {P : Program} {w : World} {K : PySem.W.Frag} {mg : Str → Option Value} {base : Heap} {n : Nat} {exs : List Str} {fi : FI}
theorem start_str {ds : List D} {N : Nat} : StR (startE ds N).o (startE ds N).e (ds.map some ++ List.replicate (N - ds.length) none) [] where
  l := rfl
  v := fun i d _ h => h
  o := fun i h => (List.not_mem_nil h).elim
  nd := fun i _ _ h => (List.not_mem_nil h).elim
  fl := fun _ _ h => (List.not_mem_nil h).elim
structure Clss (cls : Cls) (K : PySem.W.Frag) (mg : Str → Option Value) (exs : List Str) : Prop where
  ok : ∀ c, exs.contains c = true → ∃ a, cls c = some a ∧ ExcK K mg c a
theorem mkBd {X : Cx} {W : WX} {S0 : Sto} (A : At X P w K mg base fi.tb fi.names n) (tk : Takes X W) (F : CallOk cls T P w K mg base n) (G : GlobOk T w K mg) (f0 : FlatS S0) (cx : Clss cls K mg exs) : Bd1 cls X W (cxtOf T exs fi) P w K mg base n n S0 :=
  ⟨A, tk, good_evs F (Nat.le_refl n) G 40, F, Nat.le_refl n, G, f0, cx.ok⟩
theorem runF_fn (H : FnFact K mg fi) (F : CallOk cls T P w K mg base n) (G : GlobOk T w K mg) (cx : Clss cls K mg exs) {call : Str → List D → Out D} (hc : ∀ ds, call fi.nm ds = runF T exs fi ds) :
    Fn P w K mg base fi.nm fi.np (n + 1) (cRun call fi.nm) ∧ FnN P w K mg base fi.nm fi.np (n + 1) (cRunN call fi.nm) ∧ FnR P w K mg base fi.nm fi.np (n + 1) (cRunR cls call fi.nm) := by
  obtain ⟨st, N, ps, hh, sc, hps, hnm, htb, hbd, hN⟩ := H.ex
  have inner : ∀ {ds : List D} {o : Out D}, call fi.nm ds = o → o ≠ .bad → ∃ f, evSs (cxtOf T exs fi) 30 fi.body (startE ds fi.N) = f ∧ outF f = o := fun {ds o} h hb => by
    rw [hc] at h
    unfold runF at h
    split at h
    · exact ⟨_, rfl, h⟩
    · exact absurd h.symm hb
  refine ⟨hh.fn sc hps hnm htb fun X A ds S Φ hl h => ?_, hh.fnN sc hps hnm htb fun X A ds S Φ hl h => ?_, hh.fnR sc hps hnm htb fun X W A tk ds S Ξ hl h => ?_⟩
  · obtain ⟨d, hd, hnl, hS, q⟩ := h
    obtain ⟨f, hf, ho⟩ := inner hd (fun z => nomatch z)
    have B := mkBd (W := fun _ _ _ _ => False) A takes0 F G hS cx
    have r := evSs_ok B 30 fi.body (startE ds fi.N) _ [] (start_str (ds := ds) (N := fi.N))
    rw [hf, ← hbd, ← hN] at r
    unfold outF at ho
    split at ho <;> cases ho
    · have := r.rtOf (E := { nx := fun _ S' => RetP S Φ .non S', rt := RetP S Φ }) fun d' R' ri _ => by
        rcases ri with ⟨_, rfl⟩ | ⟨l, p, rfl, _, _⟩
        · exact RetP.mk rfl q
        · cases hnl
      rw [List.append_nil] at this
      exact this
    · have := r.nxOf (E := { nx := fun _ S' => RetP S Φ .non S', rt := RetP S Φ }) fun ρ' R' _ => RetP.mk rfl q
      rw [List.append_nil] at this
      exact this
  · obtain ⟨l, hd, hS, q⟩ := h
    obtain ⟨f, hf, ho⟩ := inner hd (fun z => nomatch z)
    have B := mkBd (W := fun _ _ _ _ => False) A takes0 F G hS cx
    have r := evSs_ok B 30 fi.body (startE ds fi.N) _ [] (start_str (ds := ds) (N := fi.N))
    rw [hf, ← hbd, ← hN] at r
    unfold outF at ho
    split at ho <;> cases ho
    have := r.rtOf (E := { nx := fun _ _ => False, rt := RetC S Φ }) fun d' R' ri _ => by
      rcases ri with ⟨h, _⟩ | ⟨l, p, e, rfl, hm⟩
      · cases h
      · cases e
        exact RetC.cell rfl hm q
    rw [List.append_nil] at this
    exact this
  · obtain ⟨c, a, hd, ha, hS, q⟩ := h
    obtain ⟨f, hf, ho⟩ := inner hd (fun z => nomatch z)
    have B := mkBd A tk F G hS cx
    have r := evSs_ok B 30 fi.body (startE ds fi.N) _ [] (start_str (ds := ds) (N := fi.N))
    rw [hf, ← hbd, ← hN] at r
    unfold outF at ho
    split at ho <;> cases ho
    have := r.exOf (Θ := fun c _ S' => ∃ S2 R, S' = S2 ++ R ∧ keys S2 = keys S ∧ Ξ c S2) ha fun ρ' R' => ⟨S, R', rfl, rfl, q⟩
    rw [List.append_nil] at this
    exact this
end
end Ar
namespace Ar
open PySem PySem.Spec PyProof.Rows L2
/-! ### all functions of a text -/
abbrev SpF := (Str → List D → Out D) → List D → Out D
structure Tab where
  fis : List FI
  sps : List (Str × Nat × SpF)
  gv : List (Str × D)
  gd : List (Str × List (Str × D))
  kw : List (Str × List Str × List Nat)
  exs : List Str
def findF : List FI → Str → Option FI
  | [], _ => none
  | f :: fs, x => if x == f.nm then some f else findF fs x
def Tab.ar (t : Tab) : List (Str × Nat) := t.fis.map (fun f => (f.nm, f.np)) ++ t.sps.map fun s => (s.1, s.2.1)
def Tab.call (t : Tab) : Nat → Str → List D → Out D
  | 0 => fun _ _ => .bad
  | n + 1 => fun x ds => match findF t.fis x with
    | some fi => runF ⟨t.call n, t.ar, t.gv, t.gd, t.kw⟩ t.exs fi ds
    | none => match t.sps.lookup x with
      | some s => if Nat.beq ds.length s.1 then s.2 (t.call n) ds else .bad
      | none => .bad
def Tab.T (t : Tab) (n : Nat) : IT := ⟨t.call n, t.ar, t.gv, t.gd, t.kw⟩
theorem find_mem : ∀ {fs : List FI} {x : Str} {f : FI}, findF fs x = some f → f ∈ fs ∧ f.nm = x
  | [], _, _, h => by cases h
  | g :: fs, x, f, h => by
    unfold findF at h
    split at h
    · rename_i e
      cases h
      exact ⟨List.mem_cons_self, (eq_of_beq e).symm⟩
    · obtain ⟨a, b⟩ := find_mem h
      exact ⟨List.mem_cons_of_mem _ a, b⟩
theorem find_look {l : List (Str × Nat)} : ∀ {fs : List FI} {x : Str}, (fs.map (fun f => (f.nm, f.np)) ++ l).lookup x = match findF fs x with | some f => some f.np | none => l.lookup x
  | [], _ => rfl
  | g :: fs, x => by
    show List.lookup x ((g.nm, g.np) :: (fs.map (fun f => (f.nm, f.np)) ++ l)) = _
    rw [List.lookup_cons]
    unfold findF
    cases e : (x == g.nm) with
    | true => rfl
    | false => exact find_look
theorem sps_look {x : Str} : ∀ {l : List (Str × Nat × SpF)}, (l.map fun s => (s.1, s.2.1)).lookup x = (l.lookup x).map (·.1)
  | [] => rfl
  | s :: l => by
    obtain ⟨y, n, g⟩ := s
    show List.lookup x ((y, n) :: (l.map fun s => (s.1, s.2.1))) = _
    rw [List.lookup_cons, List.lookup_cons]
    cases e : (x == y) with
    | true => rfl
    | false => exact sps_look
section
variable {cls : Cls} {t : Tab} {P : Program} {w : World} {K : PySem.W.Frag} {mg : Str → Option Value} {base : Heap}
theorem fn_zero {lev : Nat} {x : Str} {st : Stmt} {ps : List Str} {n : Nat} {B : Spec} (h : Has K mg x st ps) (hn : ps.length = n) (hB : ∀ ds S Φ, ¬ B ds S Φ) : Fn P w K mg base x n lev B := by
  obtain ⟨f, fd, F, hm, hb⟩ := h
  refine ⟨f, fd, ps, ⟨fun vs H Q E q => ?_, fun A outer s H args us vs Q E _ _ _ _ q => ?_⟩, hm, F.kp, hb, hn, .of F⟩
  · obtain ⟨_, Zh, ds, S, Φ, _, _, q, _⟩ := q
    exact absurd q (hB _ _ _)
  · obtain ⟨_, Zh, ds, S, Φ, _, _, q, _⟩ := q
    exact absurd q (hB _ _ _)
theorem fnN_zero {lev : Nat} {x : Str} {st : Stmt} {ps : List Str} {n : Nat} {B : SpecN} (h : Has K mg x st ps) (hn : ps.length = n) (hB : ∀ ds S Φ, ¬ B ds S Φ) : FnN P w K mg base x n lev B := by
  obtain ⟨f, fd, F, hm, hb⟩ := h
  refine ⟨f, fd, ps, ⟨fun vs H Q E q => ?_, fun A outer s H args us vs Q E _ _ _ _ q => ?_⟩, hm, F.kp, hb, hn, .of F⟩
  · obtain ⟨_, Zh, ds, S, Φ, _, _, q, _⟩ := q
    exact absurd q (hB _ _ _)
  · obtain ⟨_, Zh, ds, S, Φ, _, _, q, _⟩ := q
    exact absurd q (hB _ _ _)
theorem fnR_zero {lev : Nat} {x : Str} {st : Stmt} {ps : List Str} {n : Nat} {B : SpecR} (h : Has K mg x st ps) (hn : ps.length = n) (hB : ∀ ds S Φ, ¬ B ds S Φ) : FnR P w K mg base x n lev B := by
  obtain ⟨f, fd, F, hm, hb⟩ := h
  refine ⟨f, fd, ps, ⟨fun vs H Q E q => ?_, fun A outer s H args us vs Q E _ _ _ _ q => ?_⟩, hm, F.kp, hb, hn, .of F⟩
  · obtain ⟨_, Zh, ds, S, Φ, _, _, q, _⟩ := q
    exact absurd q (hB _ _ _)
  · obtain ⟨_, Zh, ds, S, Φ, _, _, q, _⟩ := q
    exact absurd q (hB _ _ _)
/-- a function told by hand -/
structure SpOk (cls : Cls) (t : Tab) (P : Program) (w : World) (K : PySem.W.Frag) (mg : Str → Option Value) (base : Heap) (x : Str) (np : Nat) (g : SpF) : Prop where
  has : ∃ st ps, Has K mg x st ps ∧ ps.length = np
  ok : ∀ n call, CallOk cls (t.T n) P w K mg base n → (∀ ds, call x ds = if Nat.beq ds.length np then g (t.call n) ds else .bad) → Fn P w K mg base x np (n + 1) (cRun call x) ∧ FnN P w K mg base x np (n + 1) (cRunN call x) ∧ FnR P w K mg base x np (n + 1) (cRunR cls call x)
theorem tab_ok (hF : ∀ fi, fi ∈ t.fis → FnFact K mg fi) (hsp : ∀ x np g, t.sps.lookup x = some (np, g) → SpOk cls t P w K mg base x np g) (G : GlobOk (t.T 0) w K mg) (cx : Clss cls K mg t.exs) : ∀ n, CallOk cls (t.T n) P w K mg base n := by
  intro n
  induction n with
  | zero =>
    have has : ∀ x n, t.ar.lookup x = some n → ∃ st ps, Has K mg x st ps ∧ ps.length = n := fun x n h => by
      unfold Tab.ar at h
      rw [find_look] at h
      split at h
      · rename_i f hf
        cases h
        obtain ⟨hm, rfl⟩ := find_mem hf
        obtain ⟨st, N, ps, a, _, b, _⟩ := (hF f hm).ex
        exact ⟨st, ps, a, b⟩
      · rw [sps_look] at h
        cases e : t.sps.lookup x with
        | none => rw [e] at h; cases h
        | some s =>
          rw [e] at h
          cases h
          exact (hsp x s.1 s.2 e).has
    refine ⟨fun x n h => ?_, fun x n h => ?_, fun x n h => ?_⟩
    · obtain ⟨st, ps, a, b⟩ := has x n h
      exact fn_zero a b fun ds S Φ q => by
        obtain ⟨d, q, _⟩ := q
        cases q
    · obtain ⟨st, ps, a, b⟩ := has x n h
      exact fnN_zero a b fun ds S Φ q => by
        obtain ⟨d, q, _⟩ := q
        cases q
    · obtain ⟨st, ps, a, b⟩ := has x n h
      exact fnR_zero a b fun ds S Φ q => by
        obtain ⟨d, _, q, _⟩ := q
        cases q
  | succ n ih =>
    have G' : GlobOk (t.T n) w K mg := ⟨G.nob, G.gv, G.gd, G.kw⟩
    have all : ∀ x m, t.ar.lookup x = some m → Fn P w K mg base x m (n + 1) (cRun (t.call (n + 1)) x) ∧ FnN P w K mg base x m (n + 1) (cRunN (t.call (n + 1)) x) ∧ FnR P w K mg base x m (n + 1) (cRunR cls (t.call (n + 1)) x) := fun x m h => by
      unfold Tab.ar at h
      rw [find_look] at h
      split at h
      · rename_i f hf
        cases h
        obtain ⟨hm, e⟩ := find_mem hf
        subst e
        refine runF_fn (T := t.T n) (exs := t.exs) (hF f hm) ih G' cx fun ds => ?_
        show (match findF t.fis f.nm with | some fi => runF ⟨t.call n, t.ar, t.gv, t.gd, t.kw⟩ t.exs fi ds | none => _) = _
        rw [hf]
        rfl
      · rename_i hf
        rw [sps_look] at h
        cases e : t.sps.lookup x with
        | none => rw [e] at h; cases h
        | some s =>
          rw [e] at h
          cases h
          refine (hsp x s.1 s.2 e).ok n (t.call (n + 1)) ih fun ds => ?_
          show (match findF t.fis x with | some fi => runF ⟨t.call n, t.ar, t.gv, t.gd, t.kw⟩ t.exs fi ds | none => match t.sps.lookup x with | some s => if Nat.beq ds.length s.1 then s.2 (t.call n) ds else .bad | none => .bad) = _
          rw [hf, e]
    exact ⟨fun x m h => (all x m h).1, fun x m h => (all x m h).2.1, fun x m h => (all x m h).2.2⟩
end
end Ar
namespace Ar
open PySem PySem.Spec PyProof.Rows L2
theorem Has.fnNS {P : Program} {w : World} {K : PySem.W.Frag} {mg : Str → Option Value} {base : Heap} {tb : List (Str × Nat)} {x : Str} {st : Stmt} {N ps : List Str} {k n : Nat} {names : List (Str × NameKind)} {B : SpecN} (F : Has K mg x st ps) (Sc : FnScope N ps (defScope st)) (hn : ps.length = n) (hnm : (defScope st).names = names) (ht : tbOk N tb = true)
    (body : ∀ X, At X P w K mg base tb names k → X.stack = X.env :: X.outer → X.env.frame = some X.env.locals → ∀ ds S Φ, ds.length = n → B ds S Φ → DSs X (defBody st) (ds.map some ++ List.replicate (N.length - ds.length) none) S { nx := fun _ _ => False, rt := RetC S Φ }) : FnN P w K mg base x n (k + 1) B := by
  obtain ⟨f, fd, F, hm, hb⟩ := F
  refine ⟨f, fd, ps, F.ok Sc (fun vs H Q E h => by rw [h.1, hn]) (fun cdv A outer s H vs Q E hr h => ?_), hm, F.kp, hb, hn, .of F⟩
  obtain ⟨hl, Zh, ds, S, Φ, hS, hR, hB, hP⟩ := h
  have hat := at_def (P := P) (w := w) (K := K) (mg := mg) (base := base) (qual := x) (f := f) (cd := cdv) (A := A) (outer := outer) (s := s) (H := H) (E := E) (tbOk_of ht) (tbOk_cov ht) Sc hr
  rw [hnm] at hat
  have b := body _ hat rfl rfl ds S Φ (by rw [← hR.length]; exact hl) hB
  refine ⟨_, pss_w, b.tw (ev_start hS hR) ?_⟩
  refine ⟨fun σ' H' ρ' S' t ev q => q.elim, fun v H' d S' t s' r q => ?_, fun _ _ _ _ _ _ q => q.elim, fun _ _ _ _ _ _ q => q.elim⟩
  cases q with
  | cell h m q =>
    rename_i p l S2 R
    obtain ⟨vs, h1, h2⟩ := s'.st p l (List.mem_append_right _ m)
    rw [r.cell]
    have pk : p ∈ keys (S2 ++ R) := by
      rw [keys_append]
      exact List.mem_append_right _ (List.mem_map.mpr ⟨_, m, rfl⟩)
    have nd := s'.nd
    rw [keys_append, List.nodup_append] at nd
    have pn : p ∉ keys S2 := fun z => nd.2.2 p z p (List.mem_map.mpr ⟨_, m, rfl⟩) rfl
    have hpn : H p = none := (t.2 p pk).resolve_left (by rw [← h]; exact pn)
    have sub : ∀ q, q ∈ keys S2 ++ ([p] ++ Zh) → q ∈ keys (S2 ++ R) ++ Zh := fun q hq => by
      rcases List.mem_append.mp hq with z | z
      · exact List.mem_append_left _ (by rw [keys_append]; exact List.mem_append_left _ z)
      · rcases List.mem_append.mp z with z | z
        · rw [List.mem_singleton.mp z]
          exact List.mem_append_left _ pk
        · exact List.mem_append_right _ z
    refine hP p vs H' l S2 h t.1 ⟨s'.drop.nd, fun q m hm => ?_, fun q hq => ?_⟩ hpn h1 (by rw [← h]; exact h2.shrink sub) q
    · obtain ⟨ws, a, b⟩ := s'.st q m (List.mem_append_left _ hm)
      exact ⟨ws, a, b.shrink sub⟩
    · rcases List.mem_append.mp hq with z | z
      · rw [List.mem_singleton.mp z]
        exact ⟨pn, vs, h1⟩
      · exact s'.drop.hid q z
/-! ### writes -/
def tagOf (c : Str) : Option Str := if c == "Unfit" then some "unfit" else if c == "CanNot" then some "cannot" else if c == "TooMany" then some "many" else none
def caughtO : Out D → Out D
  | .ok _ => .ok (.lst [.str "told"])
  | .ex c => match tagOf c with
    | some t => .ok (.lst (toldL t))
    | none => .bad
  | .bad => .bad
section
variable {cls : Cls} {T : IT} {X : Cx} {ρ : Ro} {S : Sto} {Φ : D → Sto → Prop} {P : Program} {w : World} {K : PySem.W.Frag} {mg : Str → Option Value} {base : Heap} {tb : List (Str × Nat)} {names : List (Str × NameKind)} {k j : Nat} {pos p p1 p2 p3 p4 : Pos} {e : Expr} {η : En} {o : Out D}
def CGo (E : DEnds) (it ie : Nat) (ρ : Ro) (S : Sto) : Out D → Prop
  | .ok _ => E.nx ρ S
  | .ex c => ∃ t, tagOf c = some t ∧ ∀ c1, E.nx ((ρ.set it (some (.cell c1))).set ie none) (S ++ [(c1, toldL t)])
  | .bad => False
theorem ds_caught {U C TM : Addr} {E : DEnds} {it ie kk1 kk2 : Nat} {j0 j1 j2 : Nat} {q1 q2 q3 h1 h2 h3 r1 r2 r3 u1 u2 u3 u4 u5 u6 u7 u8 u9 s1 s2 s3 s4 s5 s6 s7 s8 v1 v2 v3 v4 v5 v6 v7 l1 l2 l3 m1 m2 m3 x1 x2 x3 y1 y2 z1 z2 z3 : Pos} (A : At X P w K mg base tb names k) (F : CallOk cls T P w K mg base j) (hj : j ≤ k) (G : GlobOk T w K mg) (M : Excs K mg U C TM) (hU : cls "Unfit" = some U) (hC : cls "CanNot" = some C) (hT : cls "TooMany" = some TM)
    (hs : X.stack = X.env :: X.outer) (hf : X.env.frame = some X.env.locals) (vt : Stv tb names "told_so" it) (ve : Var tb names "error" ie) (ne : it ≠ ie) (le : Lcv tb names "error" ie)
    (gU : Glo names "Unfit") (gC : Glo names "CanNot") (gT : Glo names "TooMany") (gV : Glo names "ValueError") (gL : Glo names "LookupError") (gi : Glo names "isinstance") (hit : it < ρ.length) (hie : ie < ρ.length)
    (hsw : swapsWith e none pos.line X.env = pure false)
    (ho : (evs T tb 40).E names e η = o) (hη : EnL η ρ) (hS : FlatS S)
    (h : CGo E it ie ρ S o) :
    DS X (.Try [.Expr e pos] [
      .ExceptHandler (some (.Name "Unfit" q1)) (some "error") [.Assign [.Name "told_so" h1] (.List [.Constant (.str "unfit") j0 r1, .Call (.Name "isinstance" u1) [.Name "error" u2, .Name "ValueError" u3] [] u4, .Call (.Name "isinstance" u5) [.Name "error" u6, .Tuple [.Name "CanNot" u7, .Name "TooMany" u8, .Name "LookupError" u9] kk1 y1] [] l1] m1) x1] z1,
      .ExceptHandler (some (.Name "CanNot" q2)) (some "error") [.Assign [.Name "told_so" h2] (.List [.Constant (.str "cannot") j1 r2, .Call (.Name "isinstance" s1) [.Name "error" s2, .Name "ValueError" s3] [] s4, .Call (.Name "isinstance" s5) [.Name "error" s6, .Tuple [.Name "TooMany" s7, .Name "LookupError" s8] kk2 y2] [] l2] m2) x2] z2,
      .ExceptHandler (some (.Name "TooMany" q3)) (some "error") [.Assign [.Name "told_so" h3] (.List [.Constant (.str "many") j2 r3, .Call (.Name "isinstance" v1) [.Name "error" v2, .Name "ValueError" v3] [] v4, .Call (.Name "isinstance" v5) [.Name "error" v6, .Name "LookupError" v7] [] l3] m3) x3] z3] [] [] p) ρ S E := by
  have g := good_evs (tb := tb) F hj G 40
  have run : ∀ Y W, At Y P w K mg base tb names k → Takes Y W → RunE cls Y W e ρ S o := fun Y W A tk => by
    have z := g.e Y W names e η ρ S A tk hη hS
    rw [ho] at z
    exact z
  refine ds_try3 A G.nob M hs hf vt ve ne le gU gC gT gV gL gi hit hie hsw ?_
  cases o with
  | bad => exact (show False from h).elim
  | ok d => exact .inl fun Y W A tk => (run Y W A tk).deOf (show E.nx ρ S from h)
  | ex c =>
    obtain ⟨t, ht, q⟩ := h
    unfold tagOf at ht
    split at ht
    · rename_i e1
      have e1 := eq_of_beq e1
      subst e1
      cases ht
      exact .inr ⟨U, _, .inl ⟨rfl, rfl⟩, fun Y W A tk => (run Y W A tk).drOf hU ⟨rfl, q⟩⟩
    · split at ht
      · rename_i e1
        have e1 := eq_of_beq e1
        subst e1
        cases ht
        exact .inr ⟨C, _, .inr (.inl ⟨rfl, rfl⟩), fun Y W A tk => (run Y W A tk).drOf hC ⟨rfl, q⟩⟩
      · split at ht
        · rename_i e1
          have e1 := eq_of_beq e1
          subst e1
          cases ht
          exact .inr ⟨TM, _, .inr (.inr ⟨rfl, rfl⟩), fun Y W A tk => (run Y W A tk).drOf hT ⟨rfl, q⟩⟩
        · cases ht
end
end Ar
namespace Ar
open PySem PySem.Spec PyProof.Rows L2
/-! ### a law's own frame: values alone, draws by their lists -/
inductive PFl where | nx (us : List (Nat × D)) | rt (d : D)
def updE : List (Nat × D) → En → En
  | [], η => η
  | (i, d) :: us, η => updE us (η.set i (some d))
theorem updE_append : ∀ {us vs : List (Nat × D)} {η : En}, updE (us ++ vs) η = updE vs (updE us η)
  | [], _, _ => rfl
  | (i, d) :: us, vs, η => by
    show updE (us ++ vs) (η.set i (some d)) = updE vs (updE us (η.set i (some d)))
    exact updE_append
def asgLcP (T : IT) (tb : List (Str × Nat)) (names : List (Str × NameKind)) (ti : Nat) (x : Str) (py : Pos) (e : Expr) (η : En) : Out PFl := match e with
  | .ListComp elt gens scope pos => match tb.lookup x with
    | none => .bad
    | some i => if locB names x && !Nat.beq i ti && (py.line == pos.line) && !(scope.names.any fun (n, k) => n == x && (k == .local || k == .cell)) then match compO tb (evs T tb 40) names elt gens scope η with
        | .ok (.lst l) => .ok (.nx [(i, .lst l)])
        | _ => .bad
      else .bad
  | _ => .bad
def pairB (names : List (Str × NameKind)) (ti i j : Nat) (px py : Pos) (x y : Str) (a b : Expr) : Bool := ((locB names x && locB names y && par2B px py x y a b && !Nat.beq i j) || ((cfB (names.lookup x) || cfB (names.lookup y)) && stB (names.lookup x) && stB (names.lookup y))) && !Nat.beq i ti && !Nat.beq j ti
def evP0 (T : IT) (tb : List (Str × Nat)) (names : List (Str × NameKind)) (ti : Nat) (st : Stmt) (η : En) : Out PFl := match st with
  | .Assign [.Name x py] e _ => if isComp e then asgLcP T tb names ti x py e η else match tb.lookup x with
    | none => .bad
    | some i => if stB (names.lookup x) && !Nat.beq i ti then match (evs T tb 40).E names e η with
        | .ok d => .ok (.nx [(i, d)])
        | _ => .bad
      else .bad
  | .Assign [.Tuple [.Name x px, .Name y py] _ _] (.Tuple [a, b] _ _) _ => match tb.lookup x, tb.lookup y with
    | some i, some j => if pairB names ti i j px py x y a b && noStar [a, b] then match evA (evs T tb 40) names [a, b] η with
        | .ok [c, d] => .ok (.nx [(i, c), (j, d)])
        | _ => .bad
      else .bad
    | _, _ => .bad
  | .Assign [.Tuple [.Name x px, .Name y py, .Name z pz] _ _] (.Tuple [a, b, c] _ _) _ => match tb.lookup x, tb.lookup y, tb.lookup z with
    | some i, some j, some l => if ((locB names x && locB names y && locB names z && par3B px py pz x y z a b c && (!Nat.beq i j && !Nat.beq i l && !Nat.beq j l)) || ([a, b, c].all (foldedForSure 8) && stB (names.lookup x) && stB (names.lookup y) && stB (names.lookup z))) && !Nat.beq i ti && !Nat.beq j ti && !Nat.beq l ti && noStar [a, b, c] then match evA (evs T tb 40) names [a, b, c] η with
        | .ok [c, d, e] => .ok (.nx [(i, c), (j, d), (l, e)])
        | _ => .bad
      else .bad
    | _, _, _ => .bad
  | .If c _ [] _ => match (evs T tb 40).T names c η with
    | .ok false => .ok (.nx [])
    | _ => .bad
  | .Return (some e) _ => match (evs T tb 40).E names e η with
    | .ok d => .ok (.rt d)
    | _ => .bad
  | _ => .bad
def evPs (f : Stmt → En → Out PFl) : List Stmt → En → Out (List (Nat × D))
  | [], _ => .ok []
  | st :: sts, η => match f st η with
    | .ok (.nx us) => (evPs f sts (updE us η)).bind fun vs => .ok (us ++ vs)
    | _ => .bad
def forP (g : En → Out (List (Nat × D))) (i : Nat) : List D → En → Out (List (Nat × D))
  | [], _ => .ok []
  | d :: ds, η => (g (η.set i (some d))).bind fun us => (forP g i ds (updE us (η.set i (some d)))).bind fun vs => .ok ((i, d) :: (us ++ vs))
def evP (T : IT) (tb : List (Str × Nat)) (names : List (Str × NameKind)) (ti : Nat) (st : Stmt) (η : En) : Out PFl := match st with
  | .For (.Name x px) iter body [] _ => match tb.lookup x with
    | none => .bad
    | some i => if stB (names.lookup x) && !Nat.beq i ti && !isSet iter then match iterO (evs T tb 40) names (.Name x px) iter η with
        | .ok ds => match forP (evPs (evP0 T tb names ti) body) i ds η with
          | .ok us => .ok (.nx us)
          | _ => .bad
        | _ => .bad
      else .bad
  | st => evP0 T tb names ti st η
/-- draws: the states that may follow -/
def drawE0 (T : IT) (tb : List (Str × Nat)) (names : List (Str × NameKind)) (ti : Nat) (e : Expr) (η : En) : Out (List D) := match e with
  | .Call (.Name f _) [.Name t _, e] [] _ => if t == "tin" && varB tb names "tin" ti && !isStar e then
      if f == "_law_of" && glB names "_law_of" then match (evs T tb 40).E names e η with
        | .ok (.lst l) => if !l.isEmpty && Nat.ble l.length 1000 then .ok l else .bad
        | _ => .bad
      else if f == "_law_take" && glB names "_law_take" then match (evs T tb 40).E names e η with
        | .ok (.int n) => if decide (0 < n) && decide (n ≤ 1000000000) then .ok [.rng 0 (n - 1)] else .bad
        | _ => .bad
      else .bad
    else .bad
  | _ => .bad
def drawE (T : IT) (tb : List (Str × Nat)) (names : List (Str × NameKind)) (ti : Nat) (e : Expr) (η : En) : Out (List D) := match e with
  | .BinOp (.Constant (.int c) _ _) .Add b _ => match drawE0 T tb names ti b η with
    | .ok [.rng lo hi] => .ok [.rng (c + lo) (c + hi)]
    | _ => .bad
  | e => drawE0 T tb names ti e η
/-- values of which one may be a draw within a wide range -/
def drXs (f : Expr → En → Out (D × Nat)) : List Expr → En → Out (List D × Nat)
  | [], _ => .ok ([], 0)
  | e :: es, η => (f e η).bind fun x => (drXs f es η).bind fun y => .ok (x.1 :: y.1, x.2 + y.2)
def drX1 (T : IT) (tb : List (Str × Nat)) (names : List (Str × NameKind)) (ti : Nat) : Nat → Expr → En → Out (D × Nat)
  | 0, _, _ => .bad
  | n + 1, e, η => match (evs T tb 40).E names e η with
    | .ok d => .ok (d, 0)
    | _ => match drawE T tb names ti e η with
      | .ok [d] => .ok (d, 1)
      | _ => match e with
        | .Tuple es _ _ => if noStar es && Nat.ble es.length 1000 then (drXs (drX1 T tb names ti n) es η).bind fun x => .ok (.tup x.1, x.2) else .bad
        | .List es _ => if noStar es && Nat.ble es.length 1000 then (drXs (drX1 T tb names ti n) es η).bind fun x => .ok (.lst x.1, x.2) else .bad
        | .Call (.Name f _) (a :: es) [] _ => match T.ar.lookup f with
          | some k => if Nat.beq (a :: es).length k && noStar (a :: es) && glB names f then (drXs (drX1 T tb names ti n) (a :: es) η).bind fun x => (T.call f x.1).nx.bind fun d => .ok (d, x.2) else .bad
          | none => .bad
        | _ => .bad
def drawO (T : IT) (tb : List (Str × Nat)) (names : List (Str × NameKind)) (ti : Nat) (st : Stmt) (η : En) : Out (List (List (Nat × D))) := match st with
  | .Assign [.Name x _] e _ => if isComp e then .bad else match tb.lookup x with
    | some i => if stB (names.lookup x) && !Nat.beq i ti then match drawE T tb names ti e η with
        | .ok l => .ok (l.map fun d => [(i, d)])
        | _ => match drX1 T tb names ti 6 e η with
          | .ok (d, 1) => .ok [[(i, d)]]
          | _ => .bad
      else .bad
    | none => .bad
  | .Assign [.Tuple [.Name x px, .Name y py] _ _] (.Tuple [a, b] _ _) _ => if noStar [a, b] then match tb.lookup x, tb.lookup y with
      | some i, some j => if pairB names ti i j px py x y a b then match drawE T tb names ti a η with
          | .ok l => ((evs T tb 40).E names b η).nx.bind fun d2 => .ok (l.map fun d => [(i, d), (j, d2)])
          | _ => ((evs T tb 40).E names a η).nx.bind fun d2 => (drawE T tb names ti b η).bind fun l => .ok (l.map fun d => [(i, d2), (j, d)])
        else .bad
      | _, _ => .bad
    else .bad
  | _ => .bad
def takeO (tb : List (Str × Nat)) (names : List (Str × NameKind)) (ti : Nat) (st : Stmt) : Out (Nat × Int) := match st with
  | .Assign [.Name x _] (.Call (.Name f _) [.Name t _, .Constant (.int n) _ _] [] _) _ => if f == "_law_take" && t == "tin" && glB names "_law_take" && varB tb names "tin" ti then match tb.lookup x with
      | some i => if stB (names.lookup x) && !Nat.beq i ti && decide (0 < n) && decide (n ≤ 1000000000) then .ok (i, n) else .bad
      | none => .bad
    else .bad
  | _ => .bad
/-- what is known of the frame -/
structure LSt (ti : Nat) (c : Addr) (η : En) (ρ : Ro) : Prop where
  e : EnL η ρ
  c : ρ[ti]? = some (some (.cell c))
theorem LSt.set {ti : Nat} {c : Addr} {η : En} {ρ : Ro} {i : Nat} {d : D} (h : LSt ti c η ρ) (hi : Nat.beq i ti = false) : LSt ti c (η.set i (some d)) (ρ.set i (some d)) := ⟨h.e.set, by
  rw [List.getElem?_set_ne (fun e => by
    subst e
    rw [Nat.beq_refl] at hi
    cases hi)]
  exact h.c⟩
section
variable {cls : Cls} {X : Cx} {W : WX} {ρ : Ro} {S : Sto} {e a b c : Expr} {es : List Expr} {pos p tpos : Pos} {tg iter : Expr} {P : Program} {w : World} {K : PySem.W.Frag} {mg : Str → Option Value} {base : Heap} {tb : List (Str × Nat)} {names : List (Str × NameKind)} {k j : Nat} {T : IT} {r : Rc} {η : En} {st : Stmt} {E : DEnds} {ti : Nat} {cell : Addr}
theorem compO_diG (g : Good cls P w K mg base tb k r) (A : At X P w K mg base tb names k) (G : NoB mg) (tk : Takes X W) (hη : EnL η ρ) (hS : FlatS S) {elt : Expr} {gens : List Comprehension} {scope : Scope} {l : List D} (h2 : compO tb r names elt gens scope η = .ok (.lst l)) :
    ∃ tg iter ifs own, gens = [⟨tg, iter, ifs, 0⟩] ∧ scope.kind = .function ∧ blkD tb names scope.names own = true ∧ isSet iter = false ∧ ∀ Ψ : D → Sto → Prop, Ψ (.lst l) S → DI X tg iter ρ S fun ds S1 => ds.length ≤ sizeLine ∧ LcN X scope (okOf own) tg ifs elt ds (wipeR ρ (own.map (·.2))) S1 Ψ := by
  unfold compO at h2
  split at h2
  · rename_i tg iter ifs as
    split at h2
    · rename_i own hown
      split at h2
      · rename_i hh
        simp only [Bool.and_eq_true, Bool.not_eq_true', decide_eq_true_eq] at hh
        obtain ⟨⟨⟨rfl, hk⟩, hb⟩, hset⟩ := hh
        refine ⟨tg, iter, ifs, own, rfl, hk, hb, hset, fun Ψ q => ?_⟩
        have gi := iterO_ok (tg := tg) (iter := iter) g A G tk hη hS
        obtain ⟨ds, h3, h4⟩ := Out.bind_ok h2
        rw [h3] at gi
        split at h4
        · rename_i hlen
          obtain ⟨l', h5, h6⟩ := Out.bind_ok h4
          have h5 := nx_ok h5
          cases h6
          refine gi.diOf ⟨line_of (Nat.le_of_ble_eq_true hlen) (by decide), ?_⟩
          have hw := EnR.wipe hη (own.map (·.2))
          refine lc_run (bnd := bindT tb scope.names (okOf own) 3 tg) (cond := ifsO r scope.names ifs) (el := r.E scope.names elt) hw (fun X' hX d η1 h1 Ψ hΨ => bindT_ok (A.blk hk hX) 3 tg d _ η1 _ hw h1 Ψ hΨ) ?_ (fun X' hX η1 ρ1 y h1 h2 Ψ hΨ => ?_) ds [] _ h5 Ψ (by rw [List.nil_append]; exact q)
          · exact fun η1 ρ1 c1 h1 h2 Ψ hΨ => ifsO_ok g A hk hS h1 h2 hΨ
          · have := g.e X' (fun _ _ _ _ => False) scope.names elt η1 ρ1 S (A.blk hk hX) takes0 h1 hS
            rw [h2] at this
            exact this.deOf hΨ
        · cases h4
      · cases h2
    · cases h2
  · cases h2

theorem vPairF {x y : Str} {i jj : Nat} {px py pt pt2 : Pos} {kt k2} (A : At X P w K mg base tb names k) (hx : tb.lookup x = some i) (hy : tb.lookup y = some jj) (sx : stB (names.lookup x) = true) (sy : stB (names.lookup y) = true) (hcf : (cfB (names.lookup x) || cfB (names.lookup y)) = true)
    (h : DA X [a, b] ρ S fun ds S1 => ∃ c d, ds = [c, d] ∧ E.nx ((ρ.set i (some c)).set jj (some d)) S1) : DS X (.Assign [.Tuple [.Name x px, .Name y py] kt pt] (.Tuple [a, b] k2 pt2) pos) ρ S E := by
  have no : ∀ z, cfB (names.lookup z) = true → (X.env.kindOf z == some .local) = false := fun z hz => by
    rcases A.cf z hz with q | q
    · show (X.env.scope.names.lookup z == some .local) = false
      rw [q]
      rfl
    · show (X.env.scope.names.lookup z == some .local) = false
      rw [q]
      rfl
  rw [Bool.or_eq_true] at hcf
  refine ds_asg (swapsSole_no rfl) (sw_cell2 (hcf.imp (no x) (no y))) rfl (de_tup rfl (h.mono fun ds S1 q => ?_))
  obtain ⟨c, d, rfl, q⟩ := q
  exact dg_tup A rfl rfl ⟨_, rfl, rfl, dgs_cons rfl (dg_name A ⟨i, hx, by rw [sx]; rfl, dgs_cons rfl (dg_name A ⟨jj, hy, by rw [sy]; rfl, dgs_nil q⟩)⟩)⟩
theorem pair_ok {x y : Str} {i jj : Nat} {px py pt pt2 : Pos} {kt k2} (A : At X P w K mg base tb names k) (hx : tb.lookup x = some i) (hy : tb.lookup y = some jj) (hp : pairB names ti i jj px py x y a b = true)
    (h : DA X [a, b] ρ S fun ds S1 => ∃ c d, ds = [c, d] ∧ E.nx ((ρ.set i (some c)).set jj (some d)) S1) : DS X (.Assign [.Tuple [.Name x px, .Name y py] kt pt] (.Tuple [a, b] k2 pt2) pos) ρ S E := by
  unfold pairB at hp
  rw [Bool.and_eq_true, Bool.and_eq_true, Bool.or_eq_true] at hp
  rcases hp.1.1 with hp | hp
  · simp only [Bool.and_eq_true, Bool.not_eq_true'] at hp
    obtain ⟨⟨⟨h1, h2⟩, h3⟩, h4⟩ := hp
    exact vPar A ⟨hx, h1⟩ ⟨hy, h2⟩ h3 (swapsSole_no rfl) h4 h
  · simp only [Bool.and_eq_true] at hp
    exact vPairF A hx hy hp.1.2 hp.2 hp.1.1 h
theorem pair_ti {x y : Str} {i jj : Nat} {px py : Pos} (hp : pairB names ti i jj px py x y a b = true) : Nat.beq i ti = false ∧ Nat.beq jj ti = false := by
  unfold pairB at hp
  rw [Bool.and_eq_true, Bool.and_eq_true, Bool.not_eq_true', Bool.not_eq_true'] at hp
  exact ⟨hp.1.2, hp.2⟩
structure LB (cls : Cls) (X : Cx) (T : IT) (P : Program) (w : World) (K : PySem.W.Frag) (mg : Str → Option Value) (base : Heap) (tb : List (Str × Nat)) (names : List (Str × NameKind)) (k : Nat) : Prop where
  A : At X P w K mg base tb names k
  g : Good cls P w K mg base tb k (evs T tb 40)
  G : GlobOk T w K mg
  F : CallOk cls T P w K mg base k
def PGo (ti : Nat) (cell : Addr) (ρ : Ro) (S : Sto) (E : DEnds) : Out PFl → Prop
  | .ok (.nx us) => ∀ ρ1, (∀ η2, LSt ti cell η2 ρ → LSt ti cell (updE us η2) ρ1) → E.nx ρ1 S
  | .ok (.rt d) => E.rt d S
  | _ => False
theorem evP0_ok (B : LB cls X T P w K mg base tb names k) (hS : FlatS S) (h : LSt ti cell η ρ) (q : PGo ti cell ρ S E (evP0 T tb names ti st η)) : DS X st ρ S E := by
  have ge := fun e => B.g.e X (fun _ _ _ _ => False) names e η ρ S B.A takes0 h.e hS
  have gt := fun e => B.g.t X (fun _ _ _ _ => False) names e η ρ S B.A takes0 h.e hS
  have ga := fun es hn => evA_ok B.g B.A takes0 h.e hS es hn
  unfold evP0 at q
  split at q
  · rename_i x py e pos
    split at q
    · unfold asgLcP at q
      split at q
      · rename_i elt gens scope cpos
        split at q
        · exact (show False from q).elim
        · rename_i i hi
          split at q
          · rename_i hh
            simp only [Bool.and_eq_true, Bool.not_eq_true'] at hh
            obtain ⟨⟨⟨hloc, hti⟩, hl⟩, ha⟩ := hh
            split at q
            · rename_i l hc
              obtain ⟨tg, iter, ifs, own, rfl, hk, hb, hset, hdi⟩ := compO_diG B.g B.A B.G.nob takes0 h.e hS hc
              exact ds_setLc B.A hk hb (fun x => folded_no hset) hl ha hloc ⟨i, hi, hdi _ (q _ fun η2 h => h.set hti)⟩
            · exact (show False from q).elim
          · exact (show False from q).elim
      · exact (show False from q).elim
    · rename_i hcomp
      split at q
      · exact (show False from q).elim
      · rename_i i hi
        split at q
        · rename_i hh
          simp only [Bool.and_eq_true, Bool.not_eq_true'] at hh
          split at q
          · rename_i d hd
            have z := ge e
            rw [hd] at z
            exact ds_set B.A (swaps_no (by simpa using hcomp)) ⟨i, hi, hh.1, z.deOf (q _ fun η2 h => h.set hh.2)⟩
          · exact (show False from q).elim
        · exact (show False from q).elim
  · rename_i x px y py kt pt a b k2 pt2 pos
    split at q
    · rename_i i j hi hj
      split at q
      · rename_i hh
        rw [Bool.and_eq_true] at hh
        obtain ⟨h5, h6⟩ := pair_ti hh.1
        split at q
        · rename_i c d hd
          obtain ⟨z1, z2⟩ := ga _ hh.2
          rw [hd] at z1
          exact pair_ok B.A hi hj hh.1 (z1.daOf rfl ⟨c, d, rfl, q _ fun η2 h => (h.set h5).set h6⟩)
        · exact (show False from q).elim
      · exact (show False from q).elim
    · exact (show False from q).elim
  · rename_i x px y py z pz kt pt a b c k2 pt2 pos
    split at q
    · rename_i i j l hi hj hl
      split at q
      · rename_i hh
        rw [Bool.and_eq_true, Bool.and_eq_true, Bool.and_eq_true, Bool.and_eq_true, Bool.or_eq_true, Bool.not_eq_true', Bool.not_eq_true', Bool.not_eq_true'] at hh
        obtain ⟨⟨⟨⟨h0, h5⟩, h6⟩, h6'⟩, h7⟩ := hh
        split at q
        · rename_i c d e hd
          obtain ⟨z1, z2⟩ := ga _ h7
          rw [hd] at z1
          rcases h0 with h0 | h0
          · simp only [Bool.and_eq_true, Bool.not_eq_true'] at h0
            obtain ⟨⟨⟨⟨h1, h2⟩, h2'⟩, h3⟩, h4⟩ := h0
            exact vPar3 B.A ⟨hi, h1⟩ ⟨hj, h2⟩ ⟨hl, h2'⟩ h3 (swapsSole_no rfl) ⟨h4.1.1, h4.1.2, h4.2⟩ (z1.daOf rfl ⟨c, d, e, rfl, q _ fun η2 h => ((h.set h5).set h6).set h6'⟩)
          · rw [Bool.and_eq_true, Bool.and_eq_true, Bool.and_eq_true] at h0
            obtain ⟨⟨⟨hf, sx⟩, sy⟩, sz'⟩ := h0
            exact ds_asg (swapsSole_no rfl) (sw_fold hf) rfl (de_tup rfl (z1.daOf rfl (dg_tup B.A rfl rfl ⟨_, rfl, rfl, dgs_cons rfl (dg_name B.A ⟨i, hi, by rw [sx]; rfl, dgs_cons rfl (dg_name B.A ⟨j, hj, by rw [sy]; rfl, dgs_cons rfl (dg_name B.A ⟨l, hl, by rw [sz']; rfl, dgs_nil (q _ fun η2 h => ((h.set h5).set h6).set h6')⟩)⟩)⟩)⟩)))
        · exact (show False from q).elim
      · exact (show False from q).elim
    · exact (show False from q).elim
  · rename_i c body pos
    split at q
    · rename_i hc
      have z := gt c
      rw [hc] at z
      exact ds_if (z.dtOf (ds_nil (q _ fun η2 h => h)))
    · exact (show False from q).elim
  · rename_i e pos
    split at q
    · rename_i d hd
      have z := ge e
      rw [hd] at z
      exact ds_ret (z.deOf (show E.rt d S from q))
    · exact (show False from q).elim
  · exact (show False from q).elim
theorem evPs_ok (B : LB cls X T P w K mg base tb names k) (hS : FlatS S) : ∀ {body : List Stmt} {η : En} {ρ : Ro} {us : List (Nat × D)} {E : DEnds}, LSt ti cell η ρ → evPs (evP0 T tb names ti) body η = .ok us → (∀ ρ1, (∀ η2, LSt ti cell η2 ρ → LSt ti cell (updE us η2) ρ1) → E.nx ρ1 S) → DSs X body ρ S E
  | [], η, ρ, us, E, h, he, q => by
    cases he
    exact ds_nil (q ρ fun η2 h => h)
  | st :: sts, η, ρ, us, E, h, he, q => by
    unfold evPs at he
    split at he
    · rename_i us1 h1
      obtain ⟨vs, h2, h3⟩ := Out.bind_ok he
      cases h3
      refine ds_cons (evP0_ok B hS h ?_)
      rw [h1]
      intro ρ1 q1
      refine evPs_ok B hS (q1 _ h) h2 fun ρ2 q2 => q ρ2 fun η2 h => ?_
      rw [updE_append]
      exact q2 _ (q1 _ h)
    · cases he
theorem forP_ok {body : List Stmt} {x : Str} {px : Pos} {i : Nat} (B : LB cls X T P w K mg base tb names k) (hS : FlatS S) (hi : tb.lookup x = some i) (hst : stB (names.lookup x) = true) (hti : Nat.beq i ti = false) : ∀ {ds : List D} {η : En} {ρ : Ro} {us : List (Nat × D)} {E : DEnds}, LSt ti cell η ρ → forP (evPs (evP0 T tb names ti) body) i ds η = .ok us → (∀ ρ1, (∀ η2, LSt ti cell η2 ρ → LSt ti cell (updE us η2) ρ1) → E.nx ρ1 S) → ForD X (.Name x px) body ds ρ S E
  | [], η, ρ, us, E, h, he, q => by
    cases he
    exact q ρ fun η2 h => h
  | d :: ds, η, ρ, us, E, h, he, q => by
    unfold forP at he
    obtain ⟨us1, h1, he⟩ := Out.bind_ok he
    obtain ⟨vs, h2, h3⟩ := Out.bind_ok he
    cases h3
    refine dg_name B.A ⟨i, hi, by rw [hst]; rfl, ?_⟩
    refine evPs_ok B hS (h.set hti) h1 fun ρ2 q2 => ?_
    refine forP_ok B hS hi hst hti (q2 _ (h.set hti)) h2 fun ρ3 q3 => q ρ3 fun η2 h => ?_
    show LSt ti cell (updE (us1 ++ vs) (η2.set i (some d))) ρ3
    rw [updE_append]
    exact q3 _ (q2 _ (h.set hti))
theorem evP_ok (B : LB cls X T P w K mg base tb names k) (hS : FlatS S) (h : LSt ti cell η ρ) (q : PGo ti cell ρ S E (evP T tb names ti st η)) : DS X st ρ S E := by
  unfold evP at q
  split at q
  · rename_i x px iter body pos
    split at q
    · exact (show False from q).elim
    · rename_i i hi
      split at q
      · rename_i hh
        simp only [Bool.and_eq_true, Bool.not_eq_true'] at hh
        obtain ⟨⟨h1, h2⟩, h3⟩ := hh
        split at q
        · rename_i ds hds
          split at q
          · rename_i us hus
            have gi := iterO_ok (tg := .Name x px) (iter := iter) B.g B.A B.G.nob takes0 h.e hS
            rw [hds] at gi
            exact ds_for B.A (fun x => folded_no h3) (gi.diOf (forP_ok B hS hi h1 h2 h hus q))
          · exact (show False from q).elim
        · exact (show False from q).elim
      · exact (show False from q).elim
  · exact evP0_ok B hS h q
theorem varB_of {x : Str} {i : Nat} (h : varB tb names x i = true) : Var tb names x i := by
  unfold varB at h
  rw [Bool.and_eq_true] at h
  exact ⟨of_decide_eq_true h.1, h.2⟩
theorem ix_lst {l : List D} {i : Int} (h0 : 0 ≤ i) (h1 : i < l.length) : ∃ d, d ∈ l ∧ IxD [] (.lst l) (.int i) d := by
  obtain ⟨d, h2, h3⟩ := atI_ok (l := l) h0 h1
  exact ⟨d, List.mem_of_getElem? h2, h3⟩
theorem Tin.flat {b : Nat} {l : List D} {c : Addr} (h : Tin b l) : FlatS [(c, l)] := fun p m hm => by
  obtain ⟨x, y, z, rfl, _⟩ := h
  cases List.mem_singleton.mp hm
  rfl
theorem DE.loose {lo hi : Int} {Φ : D → Sto → Prop} (h : DE X e ρ S fun d S1 => ∃ r, d = .int r ∧ lo ≤ r ∧ r ≤ hi ∧ Φ (.rng lo hi) S1) : DE X e ρ S Φ := fun Zh pins s σ H Q I E P => h Zh pins s σ H Q I E fun v H' d S' k g s' r q => by
  obtain ⟨i, rfl, h1, h2, q⟩ := q
  refine P v H' (.rng lo hi) S' k g s' ?_ q
  rw [r.int]
  exact rep_rng h1 h2
theorem drawE0_ok {lv lv2 : Nat} {lt l : List D} {b : Nat} {Φ : D → Sto → Prop} (A : At X P w K mg base tb names k) (g : Good cls P w K mg base tb k (evs T tb 40)) (hF : Fn P w K mg base "_law_of" 2 lv cOf) (hlv : lv ≤ k) (hF2 : Fn P w K mg base "_law_take" 2 lv2 cTake) (hlv2 : lv2 ≤ k) (ht : Tin b lt) (hb : b ≤ 1000) (h : LSt ti cell η ρ)
    (hd : drawE0 T tb names ti e η = .ok l) (hS : FlatS [(cell, lt)]) (q : ∀ d, d ∈ l → ∀ lt', Tin (b + 1) lt' → Φ d [(cell, lt')]) : DE X e ρ [(cell, lt)] Φ := by
  unfold drawE0 at hd
  split at hd
  · rename_i f fp t tp e cp
    split at hd
    · rename_i hh
      simp only [Bool.and_eq_true, Bool.not_eq_true'] at hh
      obtain ⟨⟨h2, h4⟩, h5⟩ := hh
      have h2 := eq_of_beq h2
      subst h2
      have z := g.e X (fun _ _ _ _ => False) names e η ρ [(cell, lt)] A takes0 h.e hS
      split at hd
      · rename_i h1
        rw [Bool.and_eq_true] at h1
        obtain ⟨h1, h3⟩ := h1
        have h1 := eq_of_beq h1
        subst h1
        split at hd
        · rename_i l' he
          split at hd
          · rename_i hl
            cases hd
            rw [he] at z
            rw [Bool.and_eq_true] at hl
            have hl2 := Nat.le_of_ble_eq_true hl.2
            have hl1 : 0 < l.length := by
              cases l with
              | nil => cases hl.1
              | cons _ _ => exact Nat.succ_pos _
            refine de_call A hF (by rw [Nat.ble_eq.mpr hlv, h3]; rfl) (star_no rfl) (by rw [star1 h5]; rfl) (da_two (star_no rfl) (star1 h5) (vName A (varB_of h4) ⟨_, h.c, z.deOf ?_⟩))
            refine ⟨cell, b, lt, [], .lst l, l.length, rfl, rfl, ht, by omega, trivial, rfl, hl1, by omega, fun r l' h0 hr ht' => ?_⟩
            obtain ⟨d, hd, hi⟩ := ix_lst h0 hr
            exact ⟨d, hi, q d hd l' ht'⟩
          · cases hd
        · cases hd
      · split at hd
        · rename_i h1
          rw [Bool.and_eq_true] at h1
          obtain ⟨h1, h3⟩ := h1
          have h1 := eq_of_beq h1
          subst h1
          split at hd
          · rename_i n he
            split at hd
            · rename_i hn
              rw [Bool.and_eq_true, decide_eq_true_eq, decide_eq_true_eq] at hn
              obtain ⟨h8, h9⟩ := hn
              cases hd
              rw [he] at z
              refine DE.loose (lo := 0) (hi := n - 1) (de_call A hF2 (by rw [Nat.ble_eq.mpr hlv2, h3]; rfl) (star_no rfl) (by rw [star1 h5]; rfl) (da_two (star_no rfl) (star1 h5) (vName A (varB_of h4) ⟨_, h.c, z.deOf ?_⟩)))
              refine ⟨cell, b, lt, [], n, rfl, rfl, ht, by omega, h8, ?_, fun r l' h0 hr ht' => ⟨r, rfl, h0, by omega, q _ (List.mem_singleton.mpr rfl) l' ht'⟩⟩
              constructor
              have : (2 : Nat) ^ 30 ≤ 2 ^ 8000 := Nat.pow_le_pow_right (by decide) (by decide)
              have e : (2 : Nat) ^ 30 = 1073741824 := rfl
              omega
            · cases hd
          · cases hd
        · cases hd
    · cases hd
  · cases hd
theorem drawE_ok {lv lv2 : Nat} {lt l : List D} {b : Nat} {Φ : D → Sto → Prop} (A : At X P w K mg base tb names k) (g : Good cls P w K mg base tb k (evs T tb 40)) (hF : Fn P w K mg base "_law_of" 2 lv cOf) (hlv : lv ≤ k) (hF2 : Fn P w K mg base "_law_take" 2 lv2 cTake) (hlv2 : lv2 ≤ k) (ht : Tin b lt) (hb : b ≤ 1000) (h : LSt ti cell η ρ)
    (hd : drawE T tb names ti e η = .ok l) (hS : FlatS [(cell, lt)]) (q : ∀ d, d ∈ l → ∀ lt', Tin (b + 1) lt' → Φ d [(cell, lt')]) : DE X e ρ [(cell, lt)] Φ := by
  unfold drawE at hd
  split at hd
  · rename_i c kk cp b2 p2
    split at hd
    · rename_i lo hi h0
      cases hd
      refine de_bin (de_int (drawE0_ok A g hF hlv hF2 hlv2 ht hb h h0 hS fun d hd lt' ht' => ?_))
      cases List.mem_singleton.mp hd
      exact rngO_ok (op := .Add) (x := .int c) (y := .rng lo hi) rfl (q _ (List.mem_singleton.mpr rfl) lt' ht')
    · cases hd
  · exact drawE0_ok A g hF hlv hF2 hlv2 ht hb h hd hS q
theorem drXs_ok (B : LB cls X T P w K mg base tb names k) {f : Expr → En → Out (D × Nat)} (hf : ∀ e d c lt b (Φ : D → Sto → Prop), f e η = .ok (d, c) → Tin b lt → b + c ≤ 1001 → FlatS [(cell, lt)] → (∀ lt', Tin (b + c) lt' → FlatS [(cell, lt')] → Φ d [(cell, lt')]) → DE X e ρ [(cell, lt)] Φ) :
    ∀ {es : List Expr} {l : List D} {c b : Nat} {lt : List D} {Φ : List D → Sto → Prop}, noStar es = true → drXs f es η = .ok (l, c) → Tin b lt → b + c ≤ 1001 → FlatS [(cell, lt)] → (∀ lt', Tin (b + c) lt' → FlatS [(cell, lt')] → Φ l [(cell, lt')]) → DA X es ρ [(cell, lt)] Φ
  | [], l, c, b, lt, Φ, _, h, ht, hb, hS, q => by
    cases h
    exact da_nil (q lt ht hS)
  | e :: es, l, c, b, lt, Φ, hs, h, ht, hb, hS, q => by
    obtain ⟨s1, s2⟩ := noStar_cons hs
    unfold drXs at h
    obtain ⟨⟨d, c1⟩, h1, h⟩ := Out.bind_ok h
    obtain ⟨⟨m, c2⟩, h2, h⟩ := Out.bind_ok h
    cases h
    refine da_cons (hf e d c1 lt b _ h1 ht (by dsimp only at hb; omega) hS fun lt1 ht1 hS1 => drXs_ok B hf s2 h2 ht1 (by dsimp only at hb; omega) hS1 fun lt2 ht2 hS2 => ?_) (star_no s1)
    exact q lt2 (by dsimp only; rw [← Nat.add_assoc]; exact ht2) hS2
theorem drX1_ok {lv lv2 : Nat} (B : LB cls X T P w K mg base tb names k) (hF : Fn P w K mg base "_law_of" 2 lv cOf) (hlv : lv ≤ k) (hF2 : Fn P w K mg base "_law_take" 2 lv2 cTake) (hlv2 : lv2 ≤ k) : ∀ (n : Nat) {e : Expr} {d : D} {c b : Nat} {lt : List D} {Φ : D → Sto → Prop}, LSt ti cell η ρ → drX1 T tb names ti n e η = .ok (d, c) → Tin b lt → b + c ≤ 1001 → FlatS [(cell, lt)] → (∀ lt', Tin (b + c) lt' → FlatS [(cell, lt')] → Φ d [(cell, lt')]) → DE X e ρ [(cell, lt)] Φ
  | 0, e, d, c, b, lt, Φ, _, h, _, _, _, _ => by cases h
  | n + 1, e, d, c, b, lt, Φ, hη, h, ht, hb, hS, q => by
    have sub : ∀ e d c lt b (Φ : D → Sto → Prop), drX1 T tb names ti n e η = .ok (d, c) → Tin b lt → b + c ≤ 1001 → FlatS [(cell, lt)] → (∀ lt', Tin (b + c) lt' → FlatS [(cell, lt')] → Φ d [(cell, lt')]) → DE X e ρ [(cell, lt)] Φ := fun e d c lt b Φ h1 h2 h3 h4 h5 => drX1_ok B hF hlv hF2 hlv2 n hη h1 h2 h3 h4 h5
    unfold drX1 at h
    split at h
    · rename_i d0 he
      cases h
      have z := B.g.e X (fun _ _ _ _ => False) names e η ρ [(cell, lt)] B.A takes0 hη.e hS
      rw [he] at z
      exact z.deOf (q lt ht hS)
    · split at h
      · rename_i d0 he
        cases h
        exact drawE_ok B.A B.g hF hlv hF2 hlv2 ht (by omega) hη he hS fun d' hd lt' ht' => by
          cases List.mem_singleton.mp hd
          exact q lt' ht' (Tin.flat ht')
      · split at h
        · rename_i es _ _ _
          split at h
          · rename_i hh
            rw [Bool.and_eq_true] at hh
            obtain ⟨⟨l, c'⟩, h1, h2⟩ := Out.bind_ok h
            cases h2
            exact de_tup hh.2 (drXs_ok B sub hh.1 h1 ht hb hS q)
          · cases h
        · rename_i es _ _
          split at h
          · rename_i hh
            rw [Bool.and_eq_true] at hh
            obtain ⟨⟨l, c'⟩, h1, h2⟩ := Out.bind_ok h
            cases h2
            exact de_lst hh.2 (drXs_ok B sub hh.1 h1 ht hb hS q)
          · cases h
        · rename_i f fp a es cp _ _
          split at h
          · rename_i np hn
            split at h
            · rename_i hh
              rw [Bool.and_eq_true, Bool.and_eq_true] at hh
              obtain ⟨⟨h1, h2⟩, hg⟩ := hh
              obtain ⟨s1, s2⟩ := noStar_cons h2
              obtain ⟨⟨l, c'⟩, h3, h4⟩ := Out.bind_ok h
              obtain ⟨d0, h5, h6⟩ := Out.bind_ok h4
              have h5 := nx_ok h5
              cases h6
              have hk := Nat.ble_eq.mpr (Nat.le_refl k)
              cases hd : isLstD d with
              | false => exact de_call B.A (B.F.v f np hn) (by rw [hk, h1, hg]; rfl) (star_no s1) (star_pl s2) (drXs_ok B sub h2 h3 ht hb hS fun lt' ht' hS' => ⟨d, h5, hd, hS', q lt' ht' hS'⟩)
              | true =>
                cases d <;> first | (cases hd; done) | skip
                case lst => exact .ofN (dn_call B.A (B.F.n f np hn) (by rw [hk, h1, hg]; rfl) (star_no s1) (star_pl s2) (drXs_ok B sub h2 h3 ht hb hS fun lt' ht' hS' => ⟨_, h5, hS', q lt' ht' hS'⟩))
            · cases h
          · cases h
        · cases h
theorem draw_comp {T : IT} {l : List D} (h : drawE T tb names ti e η = .ok l) : isComp e = false := by
  cases e <;> first | rfl | cases h
theorem draw_ok {lv lv2 : Nat} {lt : List D} {b : Nat} (B : LB cls X T P w K mg base tb names k) (hF : Fn P w K mg base "_law_of" 2 lv cOf) (hlv : lv ≤ k) (hF2 : Fn P w K mg base "_law_take" 2 lv2 cTake) (hlv2 : lv2 ≤ k) (ht : Tin b lt) (hb : b ≤ 1000) (hS : FlatS [(cell, lt)]) (h : LSt ti cell η ρ) {ηs : List (List (Nat × D))} (hq : drawO T tb names ti st η = .ok ηs) (q : ∀ us, us ∈ ηs → ∀ ρ1 lt', Tin (b + 1) lt' → (∀ η2, LSt ti cell η2 ρ → LSt ti cell (updE us η2) ρ1) → E.nx ρ1 [(cell, lt')]) : DS X st ρ [(cell, lt)] E := by
  unfold drawO at hq
  split at hq
  · rename_i x px e pos
    split at hq
    · cases hq
    · rename_i hcomp
      split at hq
      · rename_i i hi
        split at hq
        · rename_i h2
          simp only [Bool.and_eq_true, Bool.not_eq_true'] at h2
          split at hq
          · rename_i l h3
            cases hq
            exact ds_set B.A (swaps_no (by simpa using hcomp)) ⟨i, hi, h2.1, drawE_ok B.A B.g hF hlv hF2 hlv2 ht hb h h3 hS fun d hd lt' ht' => q _ (List.mem_map.mpr ⟨d, hd, rfl⟩) _ _ ht' fun η2 h => h.set h2.2⟩
          · split at hq
            · rename_i d h3
              cases hq
              exact ds_set B.A (swaps_no (by simpa using hcomp)) ⟨i, hi, h2.1, drX1_ok B hF hlv hF2 hlv2 6 h h3 ht (by omega) hS fun lt' ht' hS' => q _ (List.mem_singleton.mpr rfl) _ _ ht' fun η2 h => h.set h2.2⟩
            · cases hq
        · cases hq
      · cases hq
  · rename_i x px y py kt pt a b2 k2 pt2 pos
    split at hq
    · rename_i hh
      obtain ⟨s1, s2⟩ := noStar_cons hh
      obtain ⟨s2, _⟩ := noStar_cons s2
      split at hq
      · rename_i i j hi hj
        split at hq
        · rename_i h2
          obtain ⟨h25, h26⟩ := pair_ti h2
          split at hq
          · rename_i l hd
            obtain ⟨d2, hd2, h4⟩ := Out.bind_ok hq
            have hd2 := nx_ok hd2
            cases h4
            refine pair_ok B.A hi hj h2 (da_two (star_no s1) (star1 s2) (drawE_ok B.A B.g hF hlv hF2 hlv2 ht hb h hd hS fun d hd lt' ht' => ?_))
            have z := B.g.e X (fun _ _ _ _ => False) names b2 η ρ [(cell, lt')] B.A takes0 h.e (Tin.flat ht')
            rw [hd2] at z
            exact z.deOf ⟨_, _, rfl, q _ (List.mem_map.mpr ⟨d, hd, rfl⟩) _ _ ht' fun η2 h => (h.set h25).set h26⟩
          · obtain ⟨d2, hd2, h4⟩ := Out.bind_ok hq
            have hd2 := nx_ok hd2
            obtain ⟨l, hd, h4⟩ := Out.bind_ok h4
            cases h4
            have z := B.g.e X (fun _ _ _ _ => False) names a η ρ [(cell, lt)] B.A takes0 h.e hS
            rw [hd2] at z
            refine pair_ok B.A hi hj h2 (da_two (star_no s1) (star1 s2) (z.deOf (drawE_ok B.A B.g hF hlv hF2 hlv2 ht hb h hd hS fun d hd lt' ht' => ?_)))
            exact ⟨_, _, rfl, q _ (List.mem_map.mpr ⟨d, hd, rfl⟩) _ _ ht' fun η2 h => (h.set h25).set h26⟩
        · cases hq
      · cases hq
    · cases hq
  · cases hq
theorem take_ok {lv : Nat} {lt : List D} {b : Nat} (A : At X P w K mg base tb names k) (hF : Fn P w K mg base "_law_take" 2 lv cTake) (hlv : lv ≤ k) (ht : Tin b lt) (hb : b ≤ 1000) (h : LSt ti cell η ρ) {i : Nat} {n : Int} (hq : takeO tb names ti st = .ok (i, n)) (q : ∀ r ρ1 lt', 0 ≤ r → r < n → Tin (b + 1) lt' → (∀ η2, LSt ti cell η2 ρ → LSt ti cell (updE [(i, .int r)] η2) ρ1) → E.nx ρ1 [(cell, lt')]) : DS X st ρ [(cell, lt)] E := by
  unfold takeO at hq
  split at hq
  · rename_i x px f fp t tp n kk np cp pos
    split at hq
    · rename_i hh
      simp only [Bool.and_eq_true, Bool.not_eq_true'] at hh
      obtain ⟨⟨⟨h1, h2⟩, h3⟩, h4⟩ := hh
      have h1 := eq_of_beq h1
      have h2 := eq_of_beq h2
      subst h1 h2
      split at hq
      · rename_i i hi
        split at hq
        · rename_i h5
          simp only [Bool.and_eq_true, Bool.not_eq_true', decide_eq_true_eq] at h5
          obtain ⟨⟨⟨h6, h7⟩, h8⟩, h9⟩ := h5
          cases hq
          refine ds_set A (swaps_no rfl) ⟨i, hi, h6, de_call A hF (by rw [Nat.ble_eq.mpr hlv, h3]; rfl) (star_no rfl) rfl (da_two (star_no rfl) rfl (vName A (varB_of h4) ⟨_, h.c, de_int ?_⟩))⟩
          refine ⟨cell, b, lt, [], n, rfl, rfl, ht, by omega, h8, ?_, fun r l' h0 hr ht' => q r _ _ h0 hr ht' fun η2 h => h.set h7⟩
          constructor
          have : (2 : Nat) ^ 30 ≤ 2 ^ 8000 := Nat.pow_le_pow_right (by decide) (by decide)
          have e : (2 : Nat) ^ 30 = 1073741824 := rfl
          omega
        · cases hq
      · cases hq
    · cases hq
  · cases hq
end
theorem p_step {us : List (Nat × D)} {X : Cx} {S : Sto} {ρ : Ro} {η : En} {cls : Cls} {T : IT} {P : Program} {w : World} {K : PySem.W.Frag} {mg : Str → Option Value} {base : Heap} {tb : List (Str × Nat)} {names : List (Str × NameKind)} {k ti : Nat} {cell : Addr} {E : DEnds} {st : Stmt} (B : LB cls X T P w K mg base tb names k) (hS : FlatS S) (h : LSt ti cell η ρ) (he : evP T tb names ti st η = .ok (.nx us)) (q : ∀ ρ1, (∀ η2, LSt ti cell η2 ρ → LSt ti cell (updE us η2) ρ1) → E.nx ρ1 S) : DS X st ρ S E := evP_ok B hS h (by rw [he]; exact q)
theorem r_step {d : D} {X : Cx} {S : Sto} {ρ : Ro} {η : En} {cls : Cls} {T : IT} {P : Program} {w : World} {K : PySem.W.Frag} {mg : Str → Option Value} {base : Heap} {tb : List (Str × Nat)} {names : List (Str × NameKind)} {k ti : Nat} {cell : Addr} {E : DEnds} {st : Stmt} (B : LB cls X T P w K mg base tb names k) (hS : FlatS S) (h : LSt ti cell η ρ) (he : evP T tb names ti st η = .ok (.rt d)) (q : E.rt d S) : DS X st ρ S E := evP_ok B hS h (by rw [he]; exact q)
/-! less known -/
inductive Wk : En → En → Prop where
  | e {η : En} : Wk [] η
  | n {a b : En} {x : Option D} (h : Wk a b) : Wk (none :: a) (x :: b)
  | s {a b : En} {x : Option D} (h : Wk a b) : Wk (x :: a) (x :: b)
theorem Wk.at {a b : En} (h : Wk a b) : a.length ≤ b.length ∧ ∀ (i : Nat) (d : D), a[i]? = some (some d) → b[i]? = some (some d) := by
  induction h with
  | e => exact ⟨Nat.zero_le _, fun i d h => by simp at h⟩
  | n _ ih => exact ⟨Nat.succ_le_succ ih.1, fun i d h => by
      cases i with
      | zero => simp at h
      | succ i => exact ih.2 i d (by simpa using h)⟩
  | s _ ih => exact ⟨Nat.succ_le_succ ih.1, fun i d h => by
      cases i with
      | zero => simpa using h
      | succ i => exact ih.2 i d (by simpa using h)⟩
theorem LSt.weak {ti : Nat} {c : Addr} {η η' : En} {ρ : Ro} (h : LSt ti c η ρ) (w : Wk η' η) : LSt ti c η' ρ := ⟨⟨fun i d e => h.e.r i d (w.at.2 i d e), Nat.le_trans w.at.1 h.e.l⟩, h.c⟩
theorem lst_none {ti n : Nat} {c : Addr} {ρ : Ro} (hn : n ≤ ρ.length) (h : ρ[ti]? = some (some (.cell c))) : LSt ti c (List.replicate n none) ρ := ⟨⟨fun i d e => (by
  rw [List.getElem?_replicate] at e
  split at e <;> cases e), (by rw [List.length_replicate]; exact hn)⟩, h⟩
/-! equality of data -/
def eqCs : List Nat → List Nat → Bool
  | [], [] => true
  | a :: l, b :: m => Nat.beq a b && eqCs l m
  | _, _ => false
theorem eqCs_ok : ∀ {a b : List Nat}, eqCs a b = true → a = b
  | [], [], _ => rfl
  | a :: l, b :: m, h => by
    unfold eqCs at h
    rw [Bool.and_eq_true] at h
    rw [Nat.eq_of_beq_eq_true h.1, eqCs_ok h.2]
  | [], _ :: _, h => by cases h
  | _ :: _, [], h => by cases h
mutual
def eqD : D → D → Bool
  | .non, .non => true
  | .bl a, .bl b => a == b
  | .int a, .int b => decide (a = b)
  | .str a, .str b => eqCs a.cps.toList b.cps.toList
  | .tup a, .tup b => eqDs a b
  | .lst a, .lst b => eqDs a b
  | .rng a b, .rng c d => decide (a = c) && decide (b = d)
  | _, _ => false
def eqDs : List D → List D → Bool
  | [], [] => true
  | a :: l, b :: m => eqD a b && eqDs l m
  | _, _ => false
end
mutual
theorem eqD_ok : ∀ (a b : D), eqD a b = true → a = b
  | .non, b, h => by cases b <;> first | rfl | cases h
  | .bl a, b, h => by
    cases b <;> first | (cases h; done) | skip
    exact congrArg D.bl (eq_of_beq h)
  | .int a, b, h => by
    cases b <;> first | (cases h; done) | skip
    exact congrArg D.int (of_decide_eq_true h)
  | .str a, b, h => by
    cases b <;> first | (cases h; done) | skip
    rename_i b
    have e := eqCs_ok h
    rw [← Str.eta a, ← Str.eta b, e]
  | .tup a, b, h => by
    cases b <;> first | (cases h; done) | skip
    exact congrArg D.tup (eqDs_ok a _ h)
  | .lst a, b, h => by
    cases b <;> first | (cases h; done) | skip
    exact congrArg D.lst (eqDs_ok a _ h)
  | .frz _, b, h => by cases h
  | .cell _, b, h => by cases h
  | .dct _ _, b, h => by cases h
  | .rng a c, b, h => by
    cases b <;> first | (cases h; done) | skip
    unfold eqD at h
    rw [Bool.and_eq_true] at h
    rw [of_decide_eq_true h.1, of_decide_eq_true h.2]
theorem eqDs_ok : ∀ (a b : List D), eqDs a b = true → a = b
  | [], [], _ => rfl
  | a :: l, b :: m, h => by
    unfold eqDs at h
    rw [Bool.and_eq_true] at h
    rw [eqD_ok a b h.1, eqDs_ok l m h.2]
  | [], _ :: _, h => by cases h
  | _ :: _, [], h => by cases h
end
def eqU : List (Nat × D) → List (Nat × D) → Bool
  | [], [] => true
  | (i, a) :: l, (j, b) :: m => Nat.beq i j && eqD a b && eqU l m
  | _, _ => false
theorem eqU_ok : ∀ {a b : List (Nat × D)}, eqU a b = true → a = b
  | [], [], _ => rfl
  | (i, a) :: l, (j, b) :: m, h => by
    unfold eqU at h
    rw [Bool.and_eq_true, Bool.and_eq_true] at h
    rw [Nat.eq_of_beq_eq_true h.1.1, eqD_ok a b h.1.2, eqU_ok h.2]
  | [], _ :: _, h => by cases h
  | _ :: _, [], h => by cases h
def eqUs : List (List (Nat × D)) → List (List (Nat × D)) → Bool
  | [], [] => true
  | a :: l, b :: m => eqU a b && eqUs l m
  | _, _ => false
theorem eqUs_ok : ∀ {a b : List (List (Nat × D))}, eqUs a b = true → a = b
  | [], [], _ => rfl
  | a :: l, b :: m, h => by
    unfold eqUs at h
    rw [Bool.and_eq_true] at h
    rw [eqU_ok h.1, eqUs_ok h.2]
  | [], _ :: _, h => by cases h
  | _ :: _, [], h => by cases h
def isNx (us : List (Nat × D)) : Out PFl → Bool
  | .ok (.nx vs) => eqU vs us
  | _ => false
theorem isNx_ok {us : List (Nat × D)} {o : Out PFl} (h : isNx us o = true) : o = .ok (.nx us) := by
  unfold isNx at h
  split at h
  · rw [eqU_ok h]
  · cases h
def isRt (d : D) : Out PFl → Bool
  | .ok (.rt e) => eqD e d
  | _ => false
theorem isRt_ok {d : D} {o : Out PFl} (h : isRt d o = true) : o = .ok (.rt d) := by
  unfold isRt at h
  split at h
  · rw [eqD_ok _ _ h]
  · cases h
def isDr (us : List (List (Nat × D))) : Out (List (List (Nat × D))) → Bool
  | .ok vs => eqUs vs us
  | _ => false
theorem isDr_ok {us : List (List (Nat × D))} {o : Out (List (List (Nat × D)))} (h : isDr us o = true) : o = .ok us := by
  unfold isDr at h
  split at h
  · rw [eqUs_ok h]
  · cases h
theorem allD {L : List D} {p : D → Bool} (h : L.all p = true) {d : D} (hd : d ∈ L) : p d = true := List.all_eq_true.mp h d hd
def rangeI : Nat → List D
  | 0 => []
  | n + 1 => rangeI n ++ [.int n]
theorem rangeI_mem {r : Int} : ∀ {n : Nat}, 0 ≤ r → r < n → D.int r ∈ rangeI n
  | 0, h0, h1 => by omega
  | n + 1, h0, h1 => by
    unfold rangeI
    rw [List.mem_append]
    by_cases h : r < n
    · exact .inl (rangeI_mem h0 h)
    · have : r = (n : Int) := by omega
      rw [this]
      exact .inr (List.mem_singleton.mpr rfl)
/-! the body, one statement after another -/
theorem ds_drop {X : Cx} {body : List Stmt} {i : Nat} {d : Stmt} {ρ : Ro} {S : Sto} {E : DEnds} (hi : i < body.length) (h : DS X (body.getD i d) ρ S { E with nx := fun r s => DSs X (body.drop (i + 1)) r s E }) : DSs X (body.drop i) ρ S E := by
  rw [List.drop_eq_getElem_cons hi]
  refine ds_cons ?_
  rw [List.getD_eq_getElem?_getD, List.getElem?_eq_getElem hi] at h
  exact h
end Ar
namespace Ar
open PySem PySem.Spec PyProof.Rows L2
/-! ### tables of facts -/
def clsOf (U C T : Addr) : Cls := fun x => if x == "Unfit" then some U else if x == "CanNot" then some C else if x == "TooMany" then some T else none
section
variable {K : PySem.W.Frag} {mg : Str → Option Value} {w : World}
theorem clss_of {U C T : Addr} (M : Excs K mg U C T) : Clss (clsOf U C T) K mg ["Unfit", "CanNot", "TooMany"] := ⟨fun c h => by
  simp only [List.contains_cons, List.contains_nil, Bool.or_false, Bool.or_eq_true, beq_iff_eq] at h
  rcases h with rfl | rfl | rfl
  · exact ⟨U, rfl, M.u⟩
  · exact ⟨C, rfl, M.c⟩
  · exact ⟨T, rfl, M.t⟩⟩
theorem gv_nil : ∀ x d, List.lookup x ([] : List (Str × D)) = some d → GlobD K mg x d := fun x d h => by cases h
theorem gv_cons {y : Str} {e : D} {l : List (Str × D)} (h1 : GlobD K mg y e) (h2 : ∀ x d, l.lookup x = some d → GlobD K mg x d) : ∀ x d, List.lookup x ((y, e) :: l) = some d → GlobD K mg x d := fun x d h => by
  rw [List.lookup_cons] at h
  cases hx : (x == y) with
  | true =>
    rw [hx] at h
    cases h
    rw [eq_of_beq hx]
    exact h1
  | false =>
    rw [hx] at h
    exact h2 x d h
theorem gd_nil : ∀ x f, List.lookup x ([] : List (Str × List (Str × D))) = some f → DictG K w mg x fun z => f.lookup z := fun x d h => by cases h
theorem gd_cons {y : Str} {e : List (Str × D)} {l : List (Str × List (Str × D))} (h1 : DictG K w mg y fun z => e.lookup z) (h2 : ∀ x f, l.lookup x = some f → DictG K w mg x fun z => f.lookup z) : ∀ x f, List.lookup x ((y, e) :: l) = some f → DictG K w mg x fun z => f.lookup z := fun x d h => by
  rw [List.lookup_cons] at h
  cases hx : (x == y) with
  | true =>
    rw [hx] at h
    cases h
    rw [eq_of_beq hx]
    exact h1
  | false =>
    rw [hx] at h
    exact h2 x d h
theorem kw_nil : ∀ x ks pm, kwFind [] x ks = some pm → KwOk K mg x ks pm := fun x d p h => by cases h
theorem kw_cons {y : Str} {ls : List Str} {pm0 : List Nat} {l : List (Str × List Str × List Nat)} (h1 : KwOk K mg y ls pm0) (h2 : ∀ x ks pm, kwFind l x ks = some pm → KwOk K mg x ks pm) : ∀ x ks pm, kwFind ((y, ls, pm0) :: l) x ks = some pm → KwOk K mg x ks pm := fun x ks pm h => by
  unfold kwFind at h
  split at h
  · rename_i e
    rw [Bool.and_eq_true] at e
    cases h
    rw [eq_of_beq e.1, eq_of_beq e.2]
    exact h1
  · exact h2 x ks pm h
theorem sps_one {y x : Str} {n np : Nat} {g f : SpF} (h : List.lookup x [(y, n, f)] = some (np, g)) : x = y ∧ np = n ∧ g = f := by
  rw [List.lookup_cons] at h
  cases hx : (x == y) with
  | true =>
    rw [hx] at h
    cases h
    exact ⟨eq_of_beq hx, rfl, rfl⟩
  | false =>
    rw [hx] at h
    cases h
def stepsG : List (Str × D) := [("r", .tup [.int 1, .int 0]), ("u", .tup [.int 0, .int 1]), ("l", .tup [.int (-1), .int 0]), ("d", .tup [.int 0, .int (-1)])]
def mirF (z : Str) : Option D := match z.cps.toList with
  | [114] => some (.str ⟨#[108]⟩)
  | [117] => some (.str ⟨#[117]⟩)
  | [108] => some (.str ⟨#[114]⟩)
  | [100] => some (.str ⟨#[100]⟩)
  | _ => none
def mirG : List (Str × D) := [("r", .str ⟨#[108]⟩), ("u", .str ⟨#[117]⟩), ("l", .str ⟨#[114]⟩), ("d", .str ⟨#[100]⟩)]
theorem look4 {z y1 y2 y3 y4 : Str} {d1 d2 d3 d4 d : D} (h : List.lookup z [(y1, d1), (y2, d2), (y3, d3), (y4, d4)] = some d) : (z = y1 ∧ d = d1) ∨ (z = y2 ∧ d = d2) ∨ (z = y3 ∧ d = d3) ∨ (z = y4 ∧ d = d4) := by
  simp only [List.lookup_cons, List.lookup_nil] at h
  split at h
  · rename_i e; cases h; exact .inl ⟨eq_of_beq e, rfl⟩
  split at h
  · rename_i e; cases h; exact .inr (.inl ⟨eq_of_beq e, rfl⟩)
  split at h
  · rename_i e; cases h; exact .inr (.inr (.inl ⟨eq_of_beq e, rfl⟩))
  split at h
  · rename_i e; cases h; exact .inr (.inr (.inr ⟨eq_of_beq e, rfl⟩))
  · cases h
theorem DictG.monoF {x : Str} {f g : Str → Option D} (h : DictG K w mg x f) (hg : ∀ z d, g z = some d → f z = some d) : DictG K w mg x g := by
  obtain ⟨a, hm, q⟩ := h
  exact ⟨a, hm, fun z d hz => q z d (hg z d hz)⟩
theorem mir_d {x : Str} (h : DictG K w mg x mirF) : DictG K w mg x fun z => mirG.lookup z := h.monoF fun z d hz => by
  rcases look4 hz with ⟨rfl, rfl⟩ | ⟨rfl, rfl⟩ | ⟨rfl, rfl⟩ | ⟨rfl, rfl⟩ <;> rfl
theorem steps_d {x : Str} (h : DictG K w mg x stepF) : DictG K w mg x fun z => stepsG.lookup z := h.monoF fun z d hz => by
  rcases look4 hz with ⟨rfl, rfl⟩ | ⟨rfl, rfl⟩ | ⟨rfl, rfl⟩ | ⟨rfl, rfl⟩ <;> rfl
end
/-! a caught call -/
def spCaught : SpF := fun call ds => caughtO (call "_law_asked" ds)
theorem caughtO_lst {o d : Out D} (h : caughtO o = d) : (∃ l, d = .ok (.lst l)) ∨ d = .bad := by
  subst h
  unfold caughtO
  split
  · exact .inl ⟨_, rfl⟩
  · split
    · exact .inl ⟨_, rfl⟩
    · exact .inr rfl
  · exact .inr rfl
end Ar
namespace Ar
open PySem PySem.Spec PyProof.Rows L2
/-! ### try: e / except CanNot: return False -/
def spTry (f : Str) : SpF := fun call ds => match call f ds with
  | .ok _ => .ok (.bl true)
  | .ex c => if c == "CanNot" then .ok (.bl false) else if c == "Unfit" then .ex c else .bad
  | .bad => .bad
section
variable {cls : Cls} {T : IT} {X : Cx} {W : WX} {ρ : Ro} {S : Sto} {P : Program} {w : World} {K : PySem.W.Frag} {mg : Str → Option Value} {base : Heap} {tb : List (Str × Nat)} {names : List (Str × NameKind)} {k : Nat} {pos p : Pos} {e : Expr} {E : DEnds} {Θ : XiS}
theorem ds_try1 {U C TM : Addr} {j0 : Nat} {q1 r1 m1 z1 : Pos} (A : At X P w K mg base tb names k) (M : Excs K mg U C TM) (hs : X.stack = X.env :: X.outer) (hf : X.env.frame = some X.env.locals) (gC : Glo names "CanNot") (hsw : swapsWith e none pos.line X.env = pure false)
    (h : (∀ Y W, At Y P w K mg base tb names k → Takes Y W → DE Y e ρ S fun _ S1 => E.nx ρ S1) ∨ (∀ Y W, At Y P w K mg base tb names k → Takes Y W → DR Y W e ρ S fun c' S1 => c' = .ref C ∧ E.rt (.bl false) S1)) :
    DS X (.Try [.Expr e pos] [.ExceptHandler (some (.Name "CanNot" q1)) none [.Return (some (.Constant (.bool false) j0 r1)) m1] z1] [] [] p) ρ S E := by
  have hK := A.K
  have hm := A.mg
  subst hK hm
  have kC := glB_of gC.g
  let TSu : Addr → Value → Option Addr → TS := fun a cls d => fun D σ H => ∀ oe pn, Zc cls d oe → (∃ vs, oe.data = .fields vs) → ∀ pins s, Inv (X.suite a ((a, oe) :: pn)) pins σ H s → wpAny (model X.prog X.w) (X.suite a ((a, oe) :: pn)).A (execs [.Return (some (.Constant (.bool false) j0 r1)) m1] (X.suite a ((a, oe) :: pn)).env) (SP (X.suite a ((a, oe) :: pn)) pins D) (X.suite a ((a, oe) :: pn)).xe s
  refine DS.of (ps_try_only (tb := fun W => fun D σ H => ∀ pn xe, Takes (X.tr pn xe) W → PassesOwn (model X.prog X.w) X.A X.env xe → ∀ pins s, Inv (X.tr pn xe) pins σ H s → wpAny (model X.prog X.w) X.A (execs [.Expr e pos] X.env) (SP (X.tr pn xe) pins D) xe s) (ts := TSu) hs hf ⟨A.gl _ kC.2, (plain1 kC.1).1, .inl M.c.xg⟩ takes0
    (fun W pn xe tk po => ⟨fun pins s σ H D I h => h pn xe tk po pins s I⟩) (fun a oe cls d pn hz hf => ⟨fun pins s σ H D I h => h oe pn hz hf pins s I⟩)) fun Zh σ H Dn ev kk => ?_
  intro pn xe tk po pins s I
  rcases h with h | h
  · exact (ds_one (ds_expr (X := X.tr pn xe) (E := { nx := E.nx, rt := E.rt, bk := E.bk, ct := E.ct }) hsw ((h _ _ (A.tr po) tk).mono fun d S1 q => q))) Zh pins s σ H Dn I ev kk
  · have d := h _ _ (A.tr (pn := pn) po) tk
    refine (drss_here (sts := []) (drs_expr (X := X.tr pn xe) (Θ := fun c' ρ1 S1 => c' = .ref C ∧ ρ1 = ρ ∧ E.rt (.bl false) S1) hsw (fun Zh pins s σ H Q I e P => d Zh pins s σ H Q I e fun cls H' S' k' g' s' q => P cls H' S' k' g' s' ⟨q.1, rfl, q.2⟩))) Zh pins s σ H Dn I ev ?_
    rintro cls σ' H' ρ' S' stp ev' ⟨rfl, rfl, q⟩
    refine ⟨true, M.cc, fun _ a _ => fun oe pn hz hf pins s I => ?_, fun z => by cases z⟩
    exact (ds_one (ds_ret (X := X.suite a ((a, oe) :: pn)) (E := { nx := fun _ _ => False, rt := E.rt }) (de_bl q))) Zh pins s _ _ _ I ev' ⟨fun _ _ _ _ _ _ q => q.elim, fun v H6 d6 S6 t6 s6 r6 q6 => kk.rt v H6 d6 S6 (stp.trans t6) s6 r6 q6, fun _ _ _ _ _ _ q => q.elim, fun _ _ _ _ _ _ q => q.elim⟩
theorem drs_try1 {U C TM : Addr} {j0 : Nat} {q1 r1 m1 z1 : Pos} (A : At X P w K mg base tb names k) (tk0 : Takes X W) (M : Excs K mg U C TM) (uc : PySem.W.exmOne K (.ref U) (.ref C) = some false) (hs : X.stack = X.env :: X.outer) (hf : X.env.frame = some X.env.locals) (gC : Glo names "CanNot") (hsw : swapsWith e none pos.line X.env = pure false)
    (h : ∀ Y W, At Y P w K mg base tb names k → Takes Y W → DR Y W e ρ S fun c' S1 => c' = .ref U ∧ Θ (.ref U) ρ S1) :
    DRS X W (.Try [.Expr e pos] [.ExceptHandler (some (.Name "CanNot" q1)) none [.Return (some (.Constant (.bool false) j0 r1)) m1] z1] [] [] p) ρ S Θ := by
  have hK := A.K
  have hm := A.mg
  subst hK hm
  have kC := glB_of gC.g
  let TSu : Addr → Value → Option Addr → TS := fun a cls d => fun D σ H => ∀ oe pn, Zc cls d oe → (∃ vs, oe.data = .fields vs) → ∀ pins s, Inv (X.suite a ((a, oe) :: pn)) pins σ H s → wpAny (model X.prog X.w) (X.suite a ((a, oe) :: pn)).A (execs [.Return (some (.Constant (.bool false) j0 r1)) m1] (X.suite a ((a, oe) :: pn)).env) (SP (X.suite a ((a, oe) :: pn)) pins D) (X.suite a ((a, oe) :: pn)).xe s
  refine DRS.of (ps_try_only (tb := fun W => fun D σ H => ∀ pn xe, Takes (X.tr pn xe) W → PassesOwn (model X.prog X.w) X.A X.env xe → ∀ pins s, Inv (X.tr pn xe) pins σ H s → wpAny (model X.prog X.w) X.A (execs [.Expr e pos] X.env) (SP (X.tr pn xe) pins D) xe s) (ts := TSu) hs hf ⟨A.gl _ kC.2, (plain1 kC.1).1, .inl M.c.xg⟩ tk0
    (fun W pn xe tk po => ⟨fun pins s σ H D I h => h pn xe tk po pins s I⟩) (fun a oe cls d pn hz hf => ⟨fun pins s σ H D I h => h oe pn hz hf pins s I⟩)) fun Zh σ H Dn ev kk => ?_
  intro pn xe tk po pins s I
  have d := h _ _ (A.tr (pn := pn) po) tk
  refine (drss_here (sts := []) (drs_expr (X := X.tr pn xe) (Θ := fun c' ρ1 S1 => c' = .ref U ∧ ρ1 = ρ ∧ Θ (.ref U) ρ S1) hsw (fun Zh pins s σ H Q I e P => d Zh pins s σ H Q I e fun cls H' S' k' g' s' q => P cls H' S' k' g' s' ⟨q.1, rfl, q.2⟩))) Zh pins s σ H Dn I ev ?_
  rintro cls σ' H' ρ' S' stp ev' ⟨rfl, rfl, q⟩
  exact ⟨false, uc, fun z => (by cases z), fun _ => kk _ σ' H' ρ' S' stp ev' q⟩
end
theorem sps_two {y y2 x : Str} {n n2 np : Nat} {g f f2 : SpF} (h : List.lookup x [(y, n, f), (y2, n2, f2)] = some (np, g)) : (x = y ∧ np = n ∧ g = f) ∨ (x = y2 ∧ np = n2 ∧ g = f2) := by
  rw [List.lookup_cons] at h
  cases hx : (x == y) with
  | true =>
    rw [hx] at h
    cases h
    exact .inl ⟨eq_of_beq hx, rfl, rfl⟩
  | false =>
    rw [hx] at h
    exact .inr (sps_one h)
theorem Has.fnS {P : Program} {w : World} {K : PySem.W.Frag} {mg : Str → Option Value} {base : Heap} {tb : List (Str × Nat)} {x : Str} {st : Stmt} {N ps : List Str} {k n : Nat} {names : List (Str × NameKind)} {B : Spec} (F : Has K mg x st ps) (Sc : FnScope N ps (defScope st)) (hn : ps.length = n) (hnm : (defScope st).names = names) (ht : tbOk N tb = true)
    (body : ∀ X, At X P w K mg base tb names k → X.stack = X.env :: X.outer → X.env.frame = some X.env.locals → ∀ ds S Φ, ds.length = n → B ds S Φ → DSs X (defBody st) (ds.map some ++ List.replicate (N.length - ds.length) none) S { nx := fun _ S' => RetP S Φ .non S', rt := RetP S Φ }) : Fn P w K mg base x n (k + 1) B := by
  obtain ⟨f, fd, F, hm, hb⟩ := F
  refine ⟨f, fd, ps, F.ok Sc (fun vs H Q E h => by rw [h.1, hn]) (fun cdv A outer s H vs Q E hr h => ?_), hm, F.kp, hb, hn, .of F⟩
  obtain ⟨hl, Zh, ds, S, Φ, hS, hR, hB, hP⟩ := h
  have hat := at_def (P := P) (w := w) (K := K) (mg := mg) (base := base) (qual := x) (f := f) (cd := cdv) (A := A) (outer := outer) (s := s) (H := H) (E := E) (tbOk_of ht) (tbOk_cov ht) Sc hr
  rw [hnm] at hat
  have b := body _ hat rfl rfl ds S Φ (by rw [← hR.length]; exact hl) hB
  refine ⟨_, pss_w, b.tw (ev_start hS hR) ?_⟩
  have fin : ∀ v H' d S', Step S H S' H' → Store K Zh H' S' → Rep K (keys S' ++ Zh) H' d v → RetP S Φ d S' → Q v H' := fun v H' d S' t s' r q => by
    have sub : ∀ {S2 R : Sto}, keys S2 = keys S → ∀ p, p ∈ keys S ++ Zh → p ∈ keys (S2 ++ R) ++ Zh := fun {S2 R} h p m => by
      rw [keys_append, h]
      rcases List.mem_append.mp m with z | z
      · exact List.mem_append_left _ (List.mem_append_left _ z)
      · exact List.mem_append_right _ z
    cases q with
    | mk h q =>
      rename_i S2 R
      exact hP v H' d S2 h t.1 s'.drop (r.shrink (sub h)) q
    | cell h m q =>
      rename_i p l S2 R
      obtain ⟨vs, h1, h2⟩ := s'.st p l (List.mem_append_right _ m)
      refine hP v H' (.lst l) S2 h t.1 s'.drop ?_ q
      rw [r.cell]
      unfold Rep
      refine ⟨p, vs, rfl, fun n => ?_, h1, h2.shrink (sub h)⟩
      have pk : p ∈ keys (S2 ++ R) := by
        rw [keys_append]
        exact List.mem_append_right _ (List.mem_map.mpr ⟨_, m, rfl⟩)
      rcases List.mem_append.mp n with z | z
      · have nd := s'.nd
        rw [keys_append, List.nodup_append] at nd
        exact nd.2.2 p (by rw [h]; exact z) p (List.mem_map.mpr ⟨_, m, rfl⟩) rfl
      · exact (s'.hid p z).1 pk
  exact ⟨fun σ' H' ρ' S' t ev q => fin .non H' .non S' t ev.st rep_non q, fin, fun _ _ _ _ _ _ q => q.elim, fun _ _ _ _ _ _ q => q.elim⟩
theorem Has.fnRS {P : Program} {w : World} {K : PySem.W.Frag} {mg : Str → Option Value} {base : Heap} {tb : List (Str × Nat)} {x : Str} {st : Stmt} {N ps : List Str} {k n : Nat} {names : List (Str × NameKind)} {B : SpecR} (F : Has K mg x st ps) (Sc : FnScope N ps (defScope st)) (hn : ps.length = n) (hnm : (defScope st).names = names) (ht : tbOk N tb = true)
    (body : ∀ X W, At X P w K mg base tb names k → Takes X W → X.stack = X.env :: X.outer → X.env.frame = some X.env.locals → ∀ ds S Ξ, ds.length = n → B ds S Ξ → DRSs X W (defBody st) (ds.map some ++ List.replicate (N.length - ds.length) none) S fun c _ S' => ∃ S2 R, S' = S2 ++ R ∧ keys S2 = keys S ∧ Ξ c S2) : FnR P w K mg base x n (k + 1) B := by
  obtain ⟨f, fd, F, hm, hb⟩ := F
  refine ⟨f, fd, ps, F.okX Sc (fun vs H Q E h => by rw [h.1, hn]) (fun cdv A outer s H vs Q E hr h => ?_), hm, F.kp, hb, hn, .of F⟩
  obtain ⟨hl, Zh, ds, S, Ξ, hS, hR, hB, hP⟩ := h
  have hat := at_defX (P := P) (w := w) (K := K) (mg := mg) (base := base) (qual := x) (f := f) (cd := cdv) (A := A) (outer := outer) (s := s) (H := H) (E := E) (tbOk_of ht) (tbOk_cov ht) Sc hr
  rw [hnm] at hat
  have b := body _ (fun cls d _ H => E cls d H) hat (takes_of rfl rfl rfl rfl) rfl rfl ds S Ξ (by rw [← hR.length]; exact hl) hB
  refine ⟨_, pss_w, b.tw (ev_start hS hR) ?_⟩
  rintro c σ' H' ρ' S' t ev ⟨S2, R, rfl, hk, q⟩
  exact hP c H' S2 hk t.1 ev.st.drop q
end Ar
namespace Ar
open PySem PySem.Spec PyProof.Rows L2

def topS (i : Nat) : Stmt := PySem.Challenge.pw_arearoutes_k32_routes_and_runs_refused.main.body.getD i (.Pass ⟨0, 0, 0, 0⟩)
def tb_is_number : List (Str × Nat) := [("thing", 0)]
def nm_is_number : List (Str × NameKind) := [("thing", .local), ("isinstance", .globalImplicit), ("int", .globalImplicit), ("bool", .globalImplicit)]
def fi_is_number : FI := ⟨"is_number", 1, tb_is_number, nm_is_number, 1, defBody (topS 5)⟩
def tb_is_from : List (Str × Nat) := [("thing", 0), ("least", 1)]
def nm_is_from : List (Str × NameKind) := [("thing", .local), ("least", .local), ("is_number", .globalImplicit)]
def fi_is_from : FI := ⟨"is_from", 2, tb_is_from, nm_is_from, 2, defBody (topS 6)⟩
def tb_is_long : List (Str × Nat) := [("thing", 0), ("length", 1)]
def nm_is_long : List (Str × NameKind) := [("thing", .local), ("length", .local), ("isinstance", .globalImplicit), ("tuple", .globalImplicit), ("len", .globalImplicit)]
def fi_is_long : FI := ⟨"is_long", 2, tb_is_long, nm_is_long, 2, defBody (topS 7)⟩
def tb_tupled : List (Str × Nat) := [("value", 0), ("own", 1)]
def nm_tupled : List (Str × NameKind) := [("value", .local), ("isinstance", .globalImplicit), ("list", .globalImplicit), ("tuple", .globalImplicit)]
def fi_tupled : FI := ⟨"tupled", 1, tb_tupled, nm_tupled, 2, defBody (topS 8)⟩
def tb_sure_number : List (Str × Nat) := [("value", 0)]
def nm_sure_number : List (Str × NameKind) := [("value", .local), ("is_number", .globalImplicit), ("Unfit", .globalImplicit)]
def fi_sure_number : FI := ⟨"sure_number", 1, tb_sure_number, nm_sure_number, 1, defBody (topS 9)⟩
def tb_sure_from : List (Str × Nat) := [("value", 0), ("least", 1)]
def nm_sure_from : List (Str × NameKind) := [("value", .local), ("least", .local), ("is_from", .globalImplicit), ("Unfit", .globalImplicit)]
def fi_sure_from : FI := ⟨"sure_from", 2, tb_sure_from, nm_sure_from, 2, defBody (topS 10)⟩
def tb_is_route : List (Str × Nat) := [("thing", 0), ("letter", 1)]
def nm_is_route : List (Str × NameKind) := [("thing", .local), ("isinstance", .globalImplicit), ("str", .globalImplicit), ("all", .globalImplicit)]
def fi_is_route : FI := ⟨"is_route", 1, tb_is_route, nm_is_route, 2, defBody (topS 17)⟩
def tb_sure_route : List (Str × Nat) := [("value", 0)]
def nm_sure_route : List (Str × NameKind) := [("value", .local), ("is_route", .globalImplicit), ("Unfit", .globalImplicit)]
def fi_sure_route : FI := ⟨"sure_route", 1, tb_sure_route, nm_sure_route, 1, defBody (topS 18)⟩
def tb_turned_letter : List (Str × Nat) := [("letter", 0), ("quarters", 1)]
def nm_turned_letter : List (Str × NameKind) := [("letter", .local), ("quarters", .local), ("LETTERS", .globalImplicit)]
def fi_turned_letter : FI := ⟨"turned_letter", 2, tb_turned_letter, nm_turned_letter, 2, defBody (topS 19)⟩
def tb_turned_in : List (Str × Nat) := [("route", 0), ("quarters", 1), ("letter", 2)]
def nm_turned_in : List (Str × NameKind) := [("route", .local), ("quarters", .cell)]
def fi_turned_in : FI := ⟨"turned_in", 2, tb_turned_in, nm_turned_in, 3, defBody (topS 20)⟩
def tb_turned_route : List (Str × Nat) := [("route", 0), ("quarters", 1), ("own", 2), ("many", 3)]
def nm_turned_route : List (Str × NameKind) := [("route", .local), ("quarters", .local), ("own", .local), ("many", .local), ("sure_route", .globalImplicit), ("sure_number", .globalImplicit), ("turned_in", .globalImplicit)]
def fi_turned_route : FI := ⟨"turned_route", 2, tb_turned_route, nm_turned_route, 4, defBody (topS 21)⟩
def tb_mirrored_route : List (Str × Nat) := [("route", 0), ("letter", 1)]
def nm_mirrored_route : List (Str × NameKind) := [("route", .local), ("sure_route", .globalImplicit)]
def fi_mirrored_route : FI := ⟨"mirrored_route", 1, tb_mirrored_route, nm_mirrored_route, 2, defBody (topS 22)⟩
def tb_back_in : List (Str × Nat) := [("route", 0)]
def nm_back_in : List (Str × NameKind) := [("route", .local), ("turned_in", .globalImplicit)]
def fi_back_in : FI := ⟨"back_in", 1, tb_back_in, nm_back_in, 1, defBody (topS 23)⟩
def tb_walked_back : List (Str × Nat) := [("route", 0)]
def nm_walked_back : List (Str × NameKind) := [("route", .local), ("back_in", .globalImplicit), ("sure_route", .globalImplicit)]
def fi_walked_back : FI := ⟨"walked_back", 1, tb_walked_back, nm_walked_back, 1, defBody (topS 24)⟩
def tb_read_back : List (Str × Nat) := [("route", 0)]
def nm_read_back : List (Str × NameKind) := [("route", .local), ("sure_route", .globalImplicit)]
def fi_read_back : FI := ⟨"read_back", 1, tb_read_back, nm_read_back, 1, defBody (topS 25)⟩
def tb_deed_in : List (Str × Nat) := [("route", 0), ("x", 1), ("y", 2), ("area", 3), ("letter", 4), ("wide", 5), ("high", 6)]
def nm_deed_in : List (Str × NameKind) := [("route", .local), ("x", .local), ("y", .local), ("area", .local), ("letter", .local), ("wide", .local), ("high", .local), ("STEPS", .globalImplicit)]
def fi_deed_in : FI := ⟨"deed_in", 1, tb_deed_in, nm_deed_in, 7, defBody (topS 26)⟩
def tb_deed_of : List (Str × Nat) := [("route", 0)]
def nm_deed_of : List (Str × NameKind) := [("route", .local), ("deed_in", .globalImplicit), ("sure_route", .globalImplicit)]
def fi_deed_of : FI := ⟨"deed_of", 1, tb_deed_of, nm_deed_of, 1, defBody (topS 27)⟩
def tb_corners_of : List (Str × Nat) := [("route", 0), ("found", 1), ("letter", 2)]
def nm_corners_of : List (Str × NameKind) := [("route", .local), ("found", .local), ("letter", .local), ("sure_route", .globalImplicit), ("STEPS", .globalImplicit), ("tuple", .globalImplicit)]
def fi_corners_of : FI := ⟨"corners_of", 1, tb_corners_of, nm_corners_of, 3, defBody (topS 28)⟩
def tb_is_closed : List (Str × Nat) := [("route", 0)]
def nm_is_closed : List (Str × NameKind) := [("route", .local), ("deed_of", .globalImplicit)]
def fi_is_closed : FI := ⟨"is_closed", 1, tb_is_closed, nm_is_closed, 1, defBody (topS 29)⟩
def tb_area_inside : List (Str × Nat) := [("route", 0), ("x", 1), ("y", 2), ("area", 3)]
def nm_area_inside : List (Str × NameKind) := [("route", .local), ("x", .local), ("y", .local), ("area", .local), ("deed_of", .globalImplicit), ("CanNot", .globalImplicit)]
def fi_area_inside : FI := ⟨"area_inside", 1, tb_area_inside, nm_area_inside, 4, defBody (topS 30)⟩
def tb_squares_beside : List (Str × Nat) := [("route", 0), ("x", 1), ("found", 2), ("letter", 3)]
def nm_squares_beside : List (Str × NameKind) := [("route", .local), ("x", .local), ("found", .local), ("letter", .local), ("sure_route", .globalImplicit), ("STEPS", .globalImplicit), ("tuple", .globalImplicit)]
def fi_squares_beside : FI := ⟨"squares_beside", 1, tb_squares_beside, nm_squares_beside, 4, defBody (topS 31)⟩
def tb_bare_in : List (Str × Nat) := [("route", 0), ("found", 1), ("letter", 2)]
def nm_bare_in : List (Str × NameKind) := [("route", .local), ("found", .local), ("letter", .local), ("turned_letter", .globalImplicit)]
def fi_bare_in : FI := ⟨"bare_in", 1, tb_bare_in, nm_bare_in, 3, defBody (topS 32)⟩
def tb_bare : List (Str × Nat) := [("route", 0)]
def nm_bare : List (Str × NameKind) := [("route", .local), ("bare_in", .globalImplicit), ("sure_route", .globalImplicit)]
def fi_bare : FI := ⟨"bare", 1, tb_bare, nm_bare, 1, defBody (topS 33)⟩
def tb_are_runs : List (Str × Nat) := [("thing", 0), ("own", 1), ("one", 2), ("other", 3)]
def nm_are_runs : List (Str × NameKind) := [("thing", .local), ("isinstance", .globalImplicit), ("tuple", .globalImplicit), ("len", .globalImplicit), ("MOST_RUNS", .globalImplicit), ("all", .globalImplicit), ("zip", .globalImplicit)]
def fi_are_runs : FI := ⟨"are_runs", 1, tb_are_runs, nm_are_runs, 4, defBody (topS 34)⟩
def tb_sure_runs : List (Str × Nat) := [("value", 0), ("own", 1)]
def nm_sure_runs : List (Str × NameKind) := [("value", .local), ("own", .local), ("tupled", .globalImplicit), ("are_runs", .globalImplicit), ("Unfit", .globalImplicit)]
def fi_sure_runs : FI := ⟨"sure_runs", 1, tb_sure_runs, nm_sure_runs, 2, defBody (topS 35)⟩
def tb_run_together : List (Str × Nat) := [("rows", 0), ("found", 1), ("letter", 2), ("many", 3)]
def nm_run_together : List (Str × NameKind) := [("rows", .local), ("found", .local), ("letter", .local), ("many", .local), ("tuple", .globalImplicit)]
def fi_run_together : FI := ⟨"run_together", 1, tb_run_together, nm_run_together, 4, defBody (topS 36)⟩
def tb_runs_of : List (Str × Nat) := [("route", 0), ("found", 1), ("letter", 2)]
def nm_runs_of : List (Str × NameKind) := [("route", .local), ("found", .local), ("run_together", .globalImplicit), ("sure_route", .globalImplicit), ("len", .globalImplicit), ("MOST_RUNS", .globalImplicit), ("TooMany", .globalImplicit)]
def fi_runs_of : FI := ⟨"runs_of", 1, tb_runs_of, nm_runs_of, 3, defBody (topS 37)⟩
def tb_route_of : List (Str × Nat) := [("runs", 0), ("own", 1), ("_", 2), ("many", 3), ("letter", 4)]
def nm_route_of : List (Str × NameKind) := [("runs", .local), ("own", .local), ("sure_runs", .globalImplicit), ("sum", .globalImplicit), ("MOST_LETTERS", .globalImplicit), ("TooMany", .globalImplicit)]
def fi_route_of : FI := ⟨"route_of", 1, tb_route_of, nm_route_of, 5, defBody (topS 38)⟩
def tb_deed_by_runs : List (Str × Nat) := [("runs", 0), ("x", 1), ("y", 2), ("area", 3), ("letter", 4), ("many", 5), ("wide", 6), ("high", 7)]
def nm_deed_by_runs : List (Str × NameKind) := [("runs", .local), ("x", .local), ("y", .local), ("area", .local), ("letter", .local), ("many", .local), ("wide", .local), ("high", .local), ("STEPS", .globalImplicit)]
def fi_deed_by_runs : FI := ⟨"deed_by_runs", 1, tb_deed_by_runs, nm_deed_by_runs, 8, defBody (topS 39)⟩
def tb_deed_of_runs : List (Str × Nat) := [("runs", 0)]
def nm_deed_of_runs : List (Str × NameKind) := [("runs", .local), ("deed_by_runs", .globalImplicit), ("sure_runs", .globalImplicit)]
def fi_deed_of_runs : FI := ⟨"deed_of_runs", 1, tb_deed_of_runs, nm_deed_of_runs, 1, defBody (topS 40)⟩
def tb_length_of : List (Str × Nat) := [("runs", 0), ("_", 1), ("many", 2)]
def nm_length_of : List (Str × NameKind) := [("runs", .local), ("sum", .globalImplicit), ("sure_runs", .globalImplicit)]
def fi_length_of : FI := ⟨"length_of", 1, tb_length_of, nm_length_of, 3, defBody (topS 41)⟩
def tb_runs_back : List (Str × Nat) := [("runs", 0), ("letter", 1), ("many", 2)]
def nm_runs_back : List (Str × NameKind) := [("runs", .local), ("tuple", .globalImplicit), ("sure_runs", .globalImplicit)]
def fi_runs_back : FI := ⟨"runs_back", 1, tb_runs_back, nm_runs_back, 3, defBody (topS 42)⟩
def tb_runs_joined : List (Str × Nat) := [("one", 0), ("other", 1), ("near", 2), ("far", 3), ("found", 4)]
def nm_runs_joined : List (Str × NameKind) := [("one", .local), ("other", .local), ("near", .local), ("far", .local), ("found", .local), ("sure_runs", .globalImplicit), ("run_together", .globalImplicit), ("len", .globalImplicit), ("MOST_RUNS", .globalImplicit), ("TooMany", .globalImplicit)]
def fi_runs_joined : FI := ⟨"runs_joined", 2, tb_runs_joined, nm_runs_joined, 5, defBody (topS 43)⟩
def tb_step_after : List (Str × Nat) := [("runs", 0), ("place", 1), ("number", 2), ("own", 3), ("left", 4), ("found", 5), ("letter", 6), ("many", 7)]
def nm_step_after : List (Str × NameKind) := [("runs", .local), ("place", .local), ("number", .local), ("own", .local), ("left", .local), ("found", .local), ("letter", .local), ("many", .local), ("sure_from", .globalImplicit), ("sure_runs", .globalImplicit), ("min", .globalImplicit), ("CanNot", .globalImplicit), ("deed_by_runs", .globalImplicit), ("run_together", .globalImplicit)]
def fi_step_after : FI := ⟨"step_after", 2, tb_step_after, nm_step_after, 8, defBody (topS 44)⟩
def tb__law_same : List (Str × Nat) := [("got", 0), ("due", 1), ("mine", 2), ("its", 3)]
def nm__law_same : List (Str × NameKind) := [("got", .local), ("due", .local), ("isinstance", .globalImplicit), ("list", .globalImplicit), ("tuple", .globalImplicit), ("len", .globalImplicit), ("all", .globalImplicit), ("zip", .globalImplicit), ("bool", .globalImplicit), ("str", .globalImplicit), ("int", .globalImplicit)]
def fi__law_same : FI := ⟨"_law_same", 2, tb__law_same, nm__law_same, 4, defBody (topS 50)⟩
def tb__law_asked : List (Str × Nat) := [("k", 0), ("bits", 1)]
def nm__law_asked : List (Str × NameKind) := [("k", .local), ("bits", .local), ("turned_route", .globalImplicit), ("mirrored_route", .globalImplicit), ("walked_back", .globalImplicit), ("read_back", .globalImplicit), ("bare", .globalImplicit), ("deed_of", .globalImplicit), ("corners_of", .globalImplicit), ("squares_beside", .globalImplicit), ("is_closed", .globalImplicit), ("area_inside", .globalImplicit), ("runs_of", .globalImplicit), ("route_of", .globalImplicit), ("deed_of_runs", .globalImplicit), ("length_of", .globalImplicit), ("runs_back", .globalImplicit), ("runs_joined", .globalImplicit), ("step_after", .globalImplicit)]
def fi__law_asked : FI := ⟨"_law_asked", 2, tb__law_asked, nm__law_asked, 2, defBody (topS 51)⟩
abbrev fisX : List FI := [fi_is_number, fi_is_from, fi_is_long, fi_tupled, fi_sure_number, fi_sure_from, fi_is_route, fi_sure_route, fi_turned_letter, fi_turned_in, fi_turned_route, fi_mirrored_route, fi_back_in, fi_walked_back, fi_read_back, fi_deed_in, fi_deed_of, fi_corners_of, fi_is_closed, fi_area_inside, fi_squares_beside, fi_bare_in, fi_bare, fi_are_runs, fi_sure_runs, fi_run_together, fi_runs_of, fi_route_of, fi_deed_by_runs, fi_deed_of_runs, fi_length_of, fi_runs_back, fi_runs_joined, fi_step_after, fi__law_same, fi__law_asked]
def gvX : List (Str × D) := [("LETTERS", .str "ruld"), ("MOST_LETTERS", .int 2000), ("MOST_RUNS", .int 200)]
def gdX : List (Str × List (Str × D)) := [("STEPS", stepsG), ("MIRRORED", mirG)]
def kwX : List (Str × List Str × List Nat) := [("deed_of", ["route"], [0]), ("corners_of", ["route"], [0]), ("squares_beside", ["route"], [0]), ("turned_route", ["quarters", "route"], [1, 0]), ("mirrored_route", ["route"], [0]), ("walked_back", ["route"], [0]), ("read_back", ["route"], [0]), ("bare", ["route"], [0]), ("is_closed", ["route"], [0]), ("area_inside", ["route"], [0]), ("is_route", ["thing"], [0]), ("are_runs", ["thing"], [0]), ("runs_of", ["route"], [0]), ("route_of", ["runs"], [0]), ("deed_of_runs", ["runs"], [0]), ("length_of", ["runs"], [0]), ("runs_back", ["runs"], [0]), ("runs_joined", ["other", "one"], [1, 0]), ("step_after", ["place", "runs"], [1, 0])]
def tabX : Tab := ⟨fisX, [("_law_caught", 2, spCaught)], gvX, gdX, kwX, ["Unfit", "CanNot", "TooMany"]⟩
def tb_law : List (Str × Nat) := [("script", 0), ("tin", 1), ("unfit_so", 2), ("cannot_so", 3), ("many_so", 4), ("route_so", 5), ("runs_so", 6), ("number_so", 7), ("got", 8), ("word_so", 9), ("long_so", 10), ("rows_so", 11), ("due", 12), ("k", 13)]
def nm_law : List (Str × NameKind) := ("script", .local) :: ("tin", .local) :: ("unfit_so", .local) :: ("cannot_so", .local) :: ("many_so", .local) :: ("route_so", .cell) :: ("runs_so", .cell) :: ("number_so", .local) :: ("got", .local) :: ("word_so", .local) :: ("long_so", .local) :: ("rows_so", .local) :: ("due", .local) :: ("_law_box", .globalImplicit) :: ("_law_cells", .globalImplicit) :: ("_law_of", .globalImplicit) :: ("range", .globalImplicit) :: ("_law_caught", .globalImplicit) :: ("_law_same", .globalImplicit) :: ("len", .globalImplicit) :: ("is_route", .globalImplicit) :: ("are_runs", .globalImplicit) :: ("_law_take", .globalImplicit) :: ("tuple", .globalImplicit) :: ("deed_of", .globalImplicit) :: ("corners_of", .globalImplicit) :: ("squares_beside", .globalImplicit) :: ("turned_route", .globalImplicit) :: ("mirrored_route", .globalImplicit) :: ("walked_back", .globalImplicit) :: ("read_back", .globalImplicit) :: ("bare", .globalImplicit) :: ("is_closed", .globalImplicit) :: ("area_inside", .globalImplicit) :: ("runs_of", .globalImplicit) :: ("route_of", .globalImplicit) :: ("deed_of_runs", .globalImplicit) :: ("length_of", .globalImplicit) :: ("runs_back", .globalImplicit) :: ("runs_joined", .globalImplicit) :: ("step_after", .globalImplicit) :: []
def bodyX : List Stmt := defBody (topS 53)
def stX (j : Nat) : Stmt := bodyX.getD j (.Pass ⟨0, 0, 0, 0⟩)
def TX : IT := tabX.T 22
def evX (j : Nat) (η : En) : Out PFl := evP TX tb_law nm_law 1 (stX j) η
def drX (j : Nat) (η : En) : Out (List (List (Nat × D))) := drawO TX tb_law nm_law 1 (stX j) η
def tkX (j : Nat) : Out (Nat × Int) := takeO tb_law nm_law 1 (stX j)
end Ar
namespace Ar
open PySem PySem.Spec PyProof.Rows L2

def Lc_route_so : List D := [.non, .int 5, .str "x", .str "rux", .tup [.str "r", .str "u"], .lst [.str "ru"], .str "R", .str "r u", .bl true]
def Lc_runs_so : List D := [.non, .int 5, .str "ru", .tup [.tup [.str "r", .int 0]], .tup [.tup [.str "r", .int (-1)]], .tup [.tup [.str "r", .bl true]], .tup [.tup [.str "x", .int 1]], .tup [.tup [.str "ru", .int 1]], .tup [.tup [.str "r", .int 1], .tup [.str "r", .int 2]], .tup [.tup [.str "r"]], .tup [.tup [.str "r", .int 1, .int 2]], .tup [.str "r", .int 1], .tup [.tup [.str "", .int 1]]]
def Lc_number_so : List D := [.non, .str "1", .bl true, .tup [.int 1], .str "x"]
def Lc_word_so : List D := [.str "r", .str "ru", .str "rul", .str "uuld"]
def Lc_long_so : List D := [.rng 2001 100002000]
def got_5 : D := .lst [.lst [.str "unfit", .bl true, .bl false], .lst [.str "unfit", .bl true, .bl false], .lst [.str "unfit", .bl true, .bl false], .lst [.str "unfit", .bl true, .bl false], .lst [.str "unfit", .bl true, .bl false], .lst [.str "unfit", .bl true, .bl false], .lst [.str "unfit", .bl true, .bl false], .lst [.str "unfit", .bl true, .bl false], .lst [.str "unfit", .bl true, .bl false], .lst [.str "unfit", .bl true, .bl false], .lst [.str "unfit", .bl true, .bl false], .lst [.str "unfit", .bl true, .bl false], .lst [.str "unfit", .bl true, .bl false], .lst [.str "unfit", .bl true, .bl false], .lst [.str "unfit", .bl true, .bl false], .lst [.str "unfit", .bl true, .bl false]]
def got_6 : D := .lst [.lst [.str "unfit", .bl true, .bl false], .lst [.str "unfit", .bl true, .bl false], .lst [.str "unfit", .bl true, .bl false], .lst [.str "unfit", .bl true, .bl false], .lst [.str "unfit", .bl true, .bl false], .lst [.str "unfit", .bl true, .bl false], .lst [.str "unfit", .bl true, .bl false], .lst [.str "unfit", .bl true, .bl false], .lst [.str "unfit", .bl true, .bl false], .lst [.str "unfit", .bl true, .bl false], .lst [.str "unfit", .bl true, .bl false], .lst [.str "unfit", .bl true, .bl false], .lst [.str "unfit", .bl true, .bl false], .lst [.str "unfit", .bl true, .bl false], .lst [.str "unfit", .bl true, .bl false], .lst [.str "unfit", .bl true, .bl false], .lst [.str "unfit", .bl true, .bl false], .lst [.str "unfit", .bl true, .bl false]]
def got_7 : D := .lst [.lst [.str "unfit", .bl true, .bl false], .lst [.str "unfit", .bl true, .bl false], .lst [.str "unfit", .bl true, .bl false], .lst [.str "unfit", .bl true, .bl false], .lst [.str "unfit", .bl true, .bl false], .lst [.str "unfit", .bl true, .bl false], .lst [.str "unfit", .bl true, .bl false], .lst [.str "unfit", .bl true, .bl false], .lst [.str "unfit", .bl true, .bl false], .lst [.str "unfit", .bl true, .bl false], .lst [.str "unfit", .bl true, .bl false], .lst [.str "unfit", .bl true, .bl false], .lst [.str "unfit", .bl true, .bl false], .lst [.str "unfit", .bl true, .bl false], .lst [.str "unfit", .bl true, .bl false], .lst [.str "unfit", .bl true, .bl false], .lst [.str "unfit", .bl true, .bl false], .lst [.str "unfit", .bl true, .bl false], .lst [.str "unfit", .bl true, .bl false], .lst [.str "unfit", .bl true, .bl false], .lst [.str "unfit", .bl true, .bl false]]
def got_11 : D := .lst [.lst [.str "cannot", .bl true, .bl false], .lst [.str "cannot", .bl true, .bl false], .lst [.str "cannot", .bl true, .bl false]]
def got_14 : D := .lst [.lst [.str "many", .bl true, .bl false], .lst [.str "many", .bl true, .bl false], .lst [.str "many", .bl true, .bl false], .lst [.str "many", .bl true, .bl false]]
def got_16 : D := .lst [.lst [.str "told"], .lst [.str "told"], .lst [.str "told"], .lst [.str "told"]]
def got_18 : D := .lst [.tup [.int 1, .int 1, .int 2], .tup [.tup [.int 0, .int 0], .tup [.int 1, .int 0], .tup [.int 1, .int 1], .tup [.int 0, .int 1]], .tup [.int 0, .int 0, .int 2, .int (-2)], .str "dr", .str "lur"]
def got_19 : D := .lst [.tup [.int 1, .int 1, .int 2], .tup [.tup [.int 0, .int 0], .tup [.int 1, .int 0], .tup [.int 1, .int 1], .tup [.int 0, .int 1]], .tup [.int 0, .int 0, .int 2, .int (-2)], .str "dr", .str "lur", .str "rdl", .str "lur", .str "ruldl", .bl true, .int (-1)]
def got_21 : D := .lst [.tup [.int 1, .int 1, .int 2], .tup [.tup [.int 0, .int 0], .tup [.int 1, .int 0], .tup [.int 1, .int 1], .tup [.int 0, .int 1]], .tup [.int 0, .int 0, .int 2, .int (-2)], .str "dr", .str "lur", .str "rdl", .str "lur", .str "ruldl", .bl true, .int (-1), .bl true, .bl true, .tup [.tup [.str "r", .int 2], .tup [.str "u", .int 2], .tup [.str "r", .int 1]], .str "rru"]
def got_22 : D := .lst [.tup [.int 1, .int 1, .int 2], .tup [.tup [.int 0, .int 0], .tup [.int 1, .int 0], .tup [.int 1, .int 1], .tup [.int 0, .int 1]], .tup [.int 0, .int 0, .int 2, .int (-2)], .str "dr", .str "lur", .str "rdl", .str "lur", .str "ruldl", .bl true, .int (-1), .bl true, .bl true, .tup [.tup [.str "r", .int 2], .tup [.str "u", .int 2], .tup [.str "r", .int 1]], .str "rru", .tup [.int 0, .int 100000000000000000000, .int 10000000000000000000000000000000000000000], .int 5]
def got_24 : D := .lst [.tup [.int 1, .int 1, .int 2], .tup [.tup [.int 0, .int 0], .tup [.int 1, .int 0], .tup [.int 1, .int 1], .tup [.int 0, .int 1]], .tup [.int 0, .int 0, .int 2, .int (-2)], .str "dr", .str "lur", .str "rdl", .str "lur", .str "ruldl", .bl true, .int (-1), .bl true, .bl true, .tup [.tup [.str "r", .int 2], .tup [.str "u", .int 2], .tup [.str "r", .int 1]], .str "rru", .tup [.int 0, .int 100000000000000000000, .int 10000000000000000000000000000000000000000], .int 5, .tup [.tup [.str "d", .int 3], .tup [.str "l", .int 2]], .tup [.tup [.str "r", .int 3], .tup [.str "d", .int 4]], .tup [.int 2, .int 2, .int 4]]
theorem st_1 : evX 1 [none, none, none, none, none, none, none, none, none, none, none, none, none, none] = .ok (.nx [(2, (.lst [.str "unfit", .bl true, .bl false])), (3, (.lst [.str "cannot", .bl true, .bl false])), (4, (.lst [.str "many", .bl true, .bl false]))]) := isNx_ok (by decide +kernel)
theorem st_2 : drX 2 [none, none, none, none, none, none, none, none, none, none, none, none, none, none] = .ok (Lc_route_so.map fun d => [(5, d)]) := isDr_ok (by decide +kernel)
theorem st_3 : drX 3 [none, none, none, none, none, none, none, none, none, none, none, none, none, none] = .ok (Lc_runs_so.map fun d => [(6, d)]) := isDr_ok (by decide +kernel)
theorem st_4 : drX 4 [none, none, none, none, none, none, none, none, none, none, none, none, none, none] = .ok (Lc_number_so.map fun d => [(7, d)]) := isDr_ok (by decide +kernel)
theorem st_5 {c_route_so : D} (hc_route_so : c_route_so ∈ Lc_route_so) {c_runs_so : D} (hc_runs_so : c_runs_so ∈ Lc_runs_so) : evX 5 [none, none, none, none, none, some c_route_so, some c_runs_so, none, none, none, none, none, none, none] = .ok (.nx [(8, got_5)]) := isNx_ok (allD (allD (by decide +kernel : (Lc_route_so.all fun c_route_so => Lc_runs_so.all fun c_runs_so => isNx [(8, got_5)] (evX 5 [none, none, none, none, none, some c_route_so, some c_runs_so, none, none, none, none, none, none, none])) = true) hc_route_so) hc_runs_so)
theorem st_6 {c_runs_so : D} (hc_runs_so : c_runs_so ∈ Lc_runs_so) : evX 6 [none, none, none, none, none, none, some c_runs_so, none, some got_5, none, none, none, none, none] = .ok (.nx [(8, got_6)]) := isNx_ok (allD (by decide +kernel : (Lc_runs_so.all fun c_runs_so => isNx [(8, got_6)] (evX 6 [none, none, none, none, none, none, some c_runs_so, none, some got_5, none, none, none, none, none])) = true) hc_runs_so)
theorem st_7 {c_number_so : D} (hc_number_so : c_number_so ∈ Lc_number_so) : evX 7 [none, none, none, none, none, none, none, some c_number_so, some got_6, none, none, none, none, none] = .ok (.nx [(8, got_7)]) := isNx_ok (allD (by decide +kernel : (Lc_number_so.all fun c_number_so => isNx [(8, got_7)] (evX 7 [none, none, none, none, none, none, none, some c_number_so, some got_6, none, none, none, none, none])) = true) hc_number_so)
theorem st_8 : evX 8 [none, none, some (.lst [.str "unfit", .bl true, .bl false]), none, none, none, none, none, some got_7, none, none, none, none, none] = .ok (.nx []) := isNx_ok (by decide +kernel)
theorem st_9 {c_route_so : D} (hc_route_so : c_route_so ∈ Lc_route_so) {c_runs_so : D} (hc_runs_so : c_runs_so ∈ Lc_runs_so) : evX 9 [none, none, none, none, none, some c_route_so, some c_runs_so, none, none, none, none, none, none, none] = .ok (.nx []) := isNx_ok (allD (allD (by decide +kernel : (Lc_route_so.all fun c_route_so => Lc_runs_so.all fun c_runs_so => isNx [] (evX 9 [none, none, none, none, none, some c_route_so, some c_runs_so, none, none, none, none, none, none, none])) = true) hc_route_so) hc_runs_so)
theorem st_10 : drX 10 [none, none, none, none, none, none, none, none, none, none, none, none, none, none] = .ok (Lc_word_so.map fun d => [(9, d)]) := isDr_ok (by decide +kernel)
theorem st_11 {c_word_so : D} (hc_word_so : c_word_so ∈ Lc_word_so) : drX 11 [none, none, none, none, none, none, none, none, some got_7, some c_word_so, none, none, none, none] = .ok [[(8, got_11)]] := isDr_ok (allD (by decide +kernel : (Lc_word_so.all fun c_word_so => isDr [[(8, got_11)]] (drX 11 [none, none, none, none, none, none, none, none, some got_7, some c_word_so, none, none, none, none])) = true) hc_word_so)
theorem st_12 : evX 12 [none, none, none, some (.lst [.str "cannot", .bl true, .bl false]), none, none, none, none, some got_11, none, none, none, none, none] = .ok (.nx []) := isNx_ok (by decide +kernel)
theorem st_13 : drX 13 [none, none, none, none, none, none, none, none, none, none, none, none, none, none] = .ok (Lc_long_so.map fun d => [(10, d), (11, (.tup [.tup [.str "r", .int 1], .tup [.str "u", .int 1], .tup [.str "r", .int 1], .tup [.str "u", .int 1], .tup [.str "r", .int 1], .tup [.str "u", .int 1], .tup [.str "r", .int 1], .tup [.str "u", .int 1], .tup [.str "r", .int 1], .tup [.str "u", .int 1], .tup [.str "r", .int 1], .tup [.str "u", .int 1], .tup [.str "r", .int 1], .tup [.str "u", .int 1], .tup [.str "r", .int 1], .tup [.str "u", .int 1], .tup [.str "r", .int 1], .tup [.str "u", .int 1], .tup [.str "r", .int 1], .tup [.str "u", .int 1], .tup [.str "r", .int 1], .tup [.str "u", .int 1], .tup [.str "r", .int 1], .tup [.str "u", .int 1], .tup [.str "r", .int 1], .tup [.str "u", .int 1], .tup [.str "r", .int 1], .tup [.str "u", .int 1], .tup [.str "r", .int 1], .tup [.str "u", .int 1], .tup [.str "r", .int 1], .tup [.str "u", .int 1], .tup [.str "r", .int 1], .tup [.str "u", .int 1], .tup [.str "r", .int 1], .tup [.str "u", .int 1], .tup [.str "r", .int 1], .tup [.str "u", .int 1], .tup [.str "r", .int 1], .tup [.str "u", .int 1], .tup [.str "r", .int 1], .tup [.str "u", .int 1], .tup [.str "r", .int 1], .tup [.str "u", .int 1], .tup [.str "r", .int 1], .tup [.str "u", .int 1], .tup [.str "r", .int 1], .tup [.str "u", .int 1], .tup [.str "r", .int 1], .tup [.str "u", .int 1], .tup [.str "r", .int 1], .tup [.str "u", .int 1], .tup [.str "r", .int 1], .tup [.str "u", .int 1], .tup [.str "r", .int 1], .tup [.str "u", .int 1], .tup [.str "r", .int 1], .tup [.str "u", .int 1], .tup [.str "r", .int 1], .tup [.str "u", .int 1], .tup [.str "r", .int 1], .tup [.str "u", .int 1], .tup [.str "r", .int 1], .tup [.str "u", .int 1], .tup [.str "r", .int 1], .tup [.str "u", .int 1], .tup [.str "r", .int 1], .tup [.str "u", .int 1], .tup [.str "r", .int 1], .tup [.str "u", .int 1], .tup [.str "r", .int 1], .tup [.str "u", .int 1], .tup [.str "r", .int 1], .tup [.str "u", .int 1], .tup [.str "r", .int 1], .tup [.str "u", .int 1], .tup [.str "r", .int 1], .tup [.str "u", .int 1], .tup [.str "r", .int 1], .tup [.str "u", .int 1], .tup [.str "r", .int 1], .tup [.str "u", .int 1], .tup [.str "r", .int 1], .tup [.str "u", .int 1], .tup [.str "r", .int 1], .tup [.str "u", .int 1], .tup [.str "r", .int 1], .tup [.str "u", .int 1], .tup [.str "r", .int 1], .tup [.str "u", .int 1], .tup [.str "r", .int 1], .tup [.str "u", .int 1], .tup [.str "r", .int 1], .tup [.str "u", .int 1], .tup [.str "r", .int 1], .tup [.str "u", .int 1], .tup [.str "r", .int 1], .tup [.str "u", .int 1], .tup [.str "r", .int 1], .tup [.str "u", .int 1], .tup [.str "r", .int 1], .tup [.str "u", .int 1], .tup [.str "r", .int 1], .tup [.str "u", .int 1], .tup [.str "r", .int 1], .tup [.str "u", .int 1], .tup [.str "r", .int 1], .tup [.str "u", .int 1], .tup [.str "r", .int 1], .tup [.str "u", .int 1], .tup [.str "r", .int 1], .tup [.str "u", .int 1], .tup [.str "r", .int 1], .tup [.str "u", .int 1], .tup [.str "r", .int 1], .tup [.str "u", .int 1], .tup [.str "r", .int 1], .tup [.str "u", .int 1], .tup [.str "r", .int 1], .tup [.str "u", .int 1], .tup [.str "r", .int 1], .tup [.str "u", .int 1], .tup [.str "r", .int 1], .tup [.str "u", .int 1], .tup [.str "r", .int 1], .tup [.str "u", .int 1], .tup [.str "r", .int 1], .tup [.str "u", .int 1], .tup [.str "r", .int 1], .tup [.str "u", .int 1], .tup [.str "r", .int 1], .tup [.str "u", .int 1], .tup [.str "r", .int 1], .tup [.str "u", .int 1], .tup [.str "r", .int 1], .tup [.str "u", .int 1], .tup [.str "r", .int 1], .tup [.str "u", .int 1], .tup [.str "r", .int 1], .tup [.str "u", .int 1], .tup [.str "r", .int 1], .tup [.str "u", .int 1], .tup [.str "r", .int 1], .tup [.str "u", .int 1], .tup [.str "r", .int 1], .tup [.str "u", .int 1], .tup [.str "r", .int 1], .tup [.str "u", .int 1], .tup [.str "r", .int 1], .tup [.str "u", .int 1], .tup [.str "r", .int 1], .tup [.str "u", .int 1], .tup [.str "r", .int 1], .tup [.str "u", .int 1], .tup [.str "r", .int 1], .tup [.str "u", .int 1], .tup [.str "r", .int 1], .tup [.str "u", .int 1], .tup [.str "r", .int 1], .tup [.str "u", .int 1], .tup [.str "r", .int 1], .tup [.str "u", .int 1], .tup [.str "r", .int 1], .tup [.str "u", .int 1], .tup [.str "r", .int 1], .tup [.str "u", .int 1], .tup [.str "r", .int 1], .tup [.str "u", .int 1], .tup [.str "r", .int 1], .tup [.str "u", .int 1], .tup [.str "r", .int 1], .tup [.str "u", .int 1], .tup [.str "r", .int 1], .tup [.str "u", .int 1], .tup [.str "r", .int 1], .tup [.str "u", .int 1], .tup [.str "r", .int 1], .tup [.str "u", .int 1], .tup [.str "r", .int 1], .tup [.str "u", .int 1], .tup [.str "r", .int 1], .tup [.str "u", .int 1], .tup [.str "r", .int 1], .tup [.str "u", .int 1], .tup [.str "r", .int 1], .tup [.str "u", .int 1], .tup [.str "r", .int 1], .tup [.str "u", .int 1], .tup [.str "r", .int 1], .tup [.str "u", .int 1], .tup [.str "r", .int 1], .tup [.str "u", .int 1], .tup [.str "r", .int 1], .tup [.str "u", .int 1], .tup [.str "r", .int 1], .tup [.str "u", .int 1], .tup [.str "r", .int 1], .tup [.str "u", .int 1], .tup [.str "r", .int 1], .tup [.str "u", .int 1]]))]) := isDr_ok (by decide +kernel)
theorem st_14 {c_long_so : D} (hc_long_so : c_long_so ∈ Lc_long_so) : evX 14 [none, none, none, none, none, none, none, none, some got_11, none, some c_long_so, some (.tup [.tup [.str "r", .int 1], .tup [.str "u", .int 1], .tup [.str "r", .int 1], .tup [.str "u", .int 1], .tup [.str "r", .int 1], .tup [.str "u", .int 1], .tup [.str "r", .int 1], .tup [.str "u", .int 1], .tup [.str "r", .int 1], .tup [.str "u", .int 1], .tup [.str "r", .int 1], .tup [.str "u", .int 1], .tup [.str "r", .int 1], .tup [.str "u", .int 1], .tup [.str "r", .int 1], .tup [.str "u", .int 1], .tup [.str "r", .int 1], .tup [.str "u", .int 1], .tup [.str "r", .int 1], .tup [.str "u", .int 1], .tup [.str "r", .int 1], .tup [.str "u", .int 1], .tup [.str "r", .int 1], .tup [.str "u", .int 1], .tup [.str "r", .int 1], .tup [.str "u", .int 1], .tup [.str "r", .int 1], .tup [.str "u", .int 1], .tup [.str "r", .int 1], .tup [.str "u", .int 1], .tup [.str "r", .int 1], .tup [.str "u", .int 1], .tup [.str "r", .int 1], .tup [.str "u", .int 1], .tup [.str "r", .int 1], .tup [.str "u", .int 1], .tup [.str "r", .int 1], .tup [.str "u", .int 1], .tup [.str "r", .int 1], .tup [.str "u", .int 1], .tup [.str "r", .int 1], .tup [.str "u", .int 1], .tup [.str "r", .int 1], .tup [.str "u", .int 1], .tup [.str "r", .int 1], .tup [.str "u", .int 1], .tup [.str "r", .int 1], .tup [.str "u", .int 1], .tup [.str "r", .int 1], .tup [.str "u", .int 1], .tup [.str "r", .int 1], .tup [.str "u", .int 1], .tup [.str "r", .int 1], .tup [.str "u", .int 1], .tup [.str "r", .int 1], .tup [.str "u", .int 1], .tup [.str "r", .int 1], .tup [.str "u", .int 1], .tup [.str "r", .int 1], .tup [.str "u", .int 1], .tup [.str "r", .int 1], .tup [.str "u", .int 1], .tup [.str "r", .int 1], .tup [.str "u", .int 1], .tup [.str "r", .int 1], .tup [.str "u", .int 1], .tup [.str "r", .int 1], .tup [.str "u", .int 1], .tup [.str "r", .int 1], .tup [.str "u", .int 1], .tup [.str "r", .int 1], .tup [.str "u", .int 1], .tup [.str "r", .int 1], .tup [.str "u", .int 1], .tup [.str "r", .int 1], .tup [.str "u", .int 1], .tup [.str "r", .int 1], .tup [.str "u", .int 1], .tup [.str "r", .int 1], .tup [.str "u", .int 1], .tup [.str "r", .int 1], .tup [.str "u", .int 1], .tup [.str "r", .int 1], .tup [.str "u", .int 1], .tup [.str "r", .int 1], .tup [.str "u", .int 1], .tup [.str "r", .int 1], .tup [.str "u", .int 1], .tup [.str "r", .int 1], .tup [.str "u", .int 1], .tup [.str "r", .int 1], .tup [.str "u", .int 1], .tup [.str "r", .int 1], .tup [.str "u", .int 1], .tup [.str "r", .int 1], .tup [.str "u", .int 1], .tup [.str "r", .int 1], .tup [.str "u", .int 1], .tup [.str "r", .int 1], .tup [.str "u", .int 1], .tup [.str "r", .int 1], .tup [.str "u", .int 1], .tup [.str "r", .int 1], .tup [.str "u", .int 1], .tup [.str "r", .int 1], .tup [.str "u", .int 1], .tup [.str "r", .int 1], .tup [.str "u", .int 1], .tup [.str "r", .int 1], .tup [.str "u", .int 1], .tup [.str "r", .int 1], .tup [.str "u", .int 1], .tup [.str "r", .int 1], .tup [.str "u", .int 1], .tup [.str "r", .int 1], .tup [.str "u", .int 1], .tup [.str "r", .int 1], .tup [.str "u", .int 1], .tup [.str "r", .int 1], .tup [.str "u", .int 1], .tup [.str "r", .int 1], .tup [.str "u", .int 1], .tup [.str "r", .int 1], .tup [.str "u", .int 1], .tup [.str "r", .int 1], .tup [.str "u", .int 1], .tup [.str "r", .int 1], .tup [.str "u", .int 1], .tup [.str "r", .int 1], .tup [.str "u", .int 1], .tup [.str "r", .int 1], .tup [.str "u", .int 1], .tup [.str "r", .int 1], .tup [.str "u", .int 1], .tup [.str "r", .int 1], .tup [.str "u", .int 1], .tup [.str "r", .int 1], .tup [.str "u", .int 1], .tup [.str "r", .int 1], .tup [.str "u", .int 1], .tup [.str "r", .int 1], .tup [.str "u", .int 1], .tup [.str "r", .int 1], .tup [.str "u", .int 1], .tup [.str "r", .int 1], .tup [.str "u", .int 1], .tup [.str "r", .int 1], .tup [.str "u", .int 1], .tup [.str "r", .int 1], .tup [.str "u", .int 1], .tup [.str "r", .int 1], .tup [.str "u", .int 1], .tup [.str "r", .int 1], .tup [.str "u", .int 1], .tup [.str "r", .int 1], .tup [.str "u", .int 1], .tup [.str "r", .int 1], .tup [.str "u", .int 1], .tup [.str "r", .int 1], .tup [.str "u", .int 1], .tup [.str "r", .int 1], .tup [.str "u", .int 1], .tup [.str "r", .int 1], .tup [.str "u", .int 1], .tup [.str "r", .int 1], .tup [.str "u", .int 1], .tup [.str "r", .int 1], .tup [.str "u", .int 1], .tup [.str "r", .int 1], .tup [.str "u", .int 1], .tup [.str "r", .int 1], .tup [.str "u", .int 1], .tup [.str "r", .int 1], .tup [.str "u", .int 1], .tup [.str "r", .int 1], .tup [.str "u", .int 1], .tup [.str "r", .int 1], .tup [.str "u", .int 1], .tup [.str "r", .int 1], .tup [.str "u", .int 1], .tup [.str "r", .int 1], .tup [.str "u", .int 1], .tup [.str "r", .int 1], .tup [.str "u", .int 1], .tup [.str "r", .int 1], .tup [.str "u", .int 1], .tup [.str "r", .int 1], .tup [.str "u", .int 1], .tup [.str "r", .int 1], .tup [.str "u", .int 1], .tup [.str "r", .int 1], .tup [.str "u", .int 1], .tup [.str "r", .int 1], .tup [.str "u", .int 1], .tup [.str "r", .int 1], .tup [.str "u", .int 1], .tup [.str "r", .int 1], .tup [.str "u", .int 1], .tup [.str "r", .int 1], .tup [.str "u", .int 1]]), none, none] = .ok (.nx [(8, got_14)]) := isNx_ok (allD (by decide +kernel : (Lc_long_so.all fun c_long_so => isNx [(8, got_14)] (evX 14 [none, none, none, none, none, none, none, none, some got_11, none, some c_long_so, some (.tup [.tup [.str "r", .int 1], .tup [.str "u", .int 1], .tup [.str "r", .int 1], .tup [.str "u", .int 1], .tup [.str "r", .int 1], .tup [.str "u", .int 1], .tup [.str "r", .int 1], .tup [.str "u", .int 1], .tup [.str "r", .int 1], .tup [.str "u", .int 1], .tup [.str "r", .int 1], .tup [.str "u", .int 1], .tup [.str "r", .int 1], .tup [.str "u", .int 1], .tup [.str "r", .int 1], .tup [.str "u", .int 1], .tup [.str "r", .int 1], .tup [.str "u", .int 1], .tup [.str "r", .int 1], .tup [.str "u", .int 1], .tup [.str "r", .int 1], .tup [.str "u", .int 1], .tup [.str "r", .int 1], .tup [.str "u", .int 1], .tup [.str "r", .int 1], .tup [.str "u", .int 1], .tup [.str "r", .int 1], .tup [.str "u", .int 1], .tup [.str "r", .int 1], .tup [.str "u", .int 1], .tup [.str "r", .int 1], .tup [.str "u", .int 1], .tup [.str "r", .int 1], .tup [.str "u", .int 1], .tup [.str "r", .int 1], .tup [.str "u", .int 1], .tup [.str "r", .int 1], .tup [.str "u", .int 1], .tup [.str "r", .int 1], .tup [.str "u", .int 1], .tup [.str "r", .int 1], .tup [.str "u", .int 1], .tup [.str "r", .int 1], .tup [.str "u", .int 1], .tup [.str "r", .int 1], .tup [.str "u", .int 1], .tup [.str "r", .int 1], .tup [.str "u", .int 1], .tup [.str "r", .int 1], .tup [.str "u", .int 1], .tup [.str "r", .int 1], .tup [.str "u", .int 1], .tup [.str "r", .int 1], .tup [.str "u", .int 1], .tup [.str "r", .int 1], .tup [.str "u", .int 1], .tup [.str "r", .int 1], .tup [.str "u", .int 1], .tup [.str "r", .int 1], .tup [.str "u", .int 1], .tup [.str "r", .int 1], .tup [.str "u", .int 1], .tup [.str "r", .int 1], .tup [.str "u", .int 1], .tup [.str "r", .int 1], .tup [.str "u", .int 1], .tup [.str "r", .int 1], .tup [.str "u", .int 1], .tup [.str "r", .int 1], .tup [.str "u", .int 1], .tup [.str "r", .int 1], .tup [.str "u", .int 1], .tup [.str "r", .int 1], .tup [.str "u", .int 1], .tup [.str "r", .int 1], .tup [.str "u", .int 1], .tup [.str "r", .int 1], .tup [.str "u", .int 1], .tup [.str "r", .int 1], .tup [.str "u", .int 1], .tup [.str "r", .int 1], .tup [.str "u", .int 1], .tup [.str "r", .int 1], .tup [.str "u", .int 1], .tup [.str "r", .int 1], .tup [.str "u", .int 1], .tup [.str "r", .int 1], .tup [.str "u", .int 1], .tup [.str "r", .int 1], .tup [.str "u", .int 1], .tup [.str "r", .int 1], .tup [.str "u", .int 1], .tup [.str "r", .int 1], .tup [.str "u", .int 1], .tup [.str "r", .int 1], .tup [.str "u", .int 1], .tup [.str "r", .int 1], .tup [.str "u", .int 1], .tup [.str "r", .int 1], .tup [.str "u", .int 1], .tup [.str "r", .int 1], .tup [.str "u", .int 1], .tup [.str "r", .int 1], .tup [.str "u", .int 1], .tup [.str "r", .int 1], .tup [.str "u", .int 1], .tup [.str "r", .int 1], .tup [.str "u", .int 1], .tup [.str "r", .int 1], .tup [.str "u", .int 1], .tup [.str "r", .int 1], .tup [.str "u", .int 1], .tup [.str "r", .int 1], .tup [.str "u", .int 1], .tup [.str "r", .int 1], .tup [.str "u", .int 1], .tup [.str "r", .int 1], .tup [.str "u", .int 1], .tup [.str "r", .int 1], .tup [.str "u", .int 1], .tup [.str "r", .int 1], .tup [.str "u", .int 1], .tup [.str "r", .int 1], .tup [.str "u", .int 1], .tup [.str "r", .int 1], .tup [.str "u", .int 1], .tup [.str "r", .int 1], .tup [.str "u", .int 1], .tup [.str "r", .int 1], .tup [.str "u", .int 1], .tup [.str "r", .int 1], .tup [.str "u", .int 1], .tup [.str "r", .int 1], .tup [.str "u", .int 1], .tup [.str "r", .int 1], .tup [.str "u", .int 1], .tup [.str "r", .int 1], .tup [.str "u", .int 1], .tup [.str "r", .int 1], .tup [.str "u", .int 1], .tup [.str "r", .int 1], .tup [.str "u", .int 1], .tup [.str "r", .int 1], .tup [.str "u", .int 1], .tup [.str "r", .int 1], .tup [.str "u", .int 1], .tup [.str "r", .int 1], .tup [.str "u", .int 1], .tup [.str "r", .int 1], .tup [.str "u", .int 1], .tup [.str "r", .int 1], .tup [.str "u", .int 1], .tup [.str "r", .int 1], .tup [.str "u", .int 1], .tup [.str "r", .int 1], .tup [.str "u", .int 1], .tup [.str "r", .int 1], .tup [.str "u", .int 1], .tup [.str "r", .int 1], .tup [.str "u", .int 1], .tup [.str "r", .int 1], .tup [.str "u", .int 1], .tup [.str "r", .int 1], .tup [.str "u", .int 1], .tup [.str "r", .int 1], .tup [.str "u", .int 1], .tup [.str "r", .int 1], .tup [.str "u", .int 1], .tup [.str "r", .int 1], .tup [.str "u", .int 1], .tup [.str "r", .int 1], .tup [.str "u", .int 1], .tup [.str "r", .int 1], .tup [.str "u", .int 1], .tup [.str "r", .int 1], .tup [.str "u", .int 1], .tup [.str "r", .int 1], .tup [.str "u", .int 1], .tup [.str "r", .int 1], .tup [.str "u", .int 1], .tup [.str "r", .int 1], .tup [.str "u", .int 1], .tup [.str "r", .int 1], .tup [.str "u", .int 1], .tup [.str "r", .int 1], .tup [.str "u", .int 1], .tup [.str "r", .int 1], .tup [.str "u", .int 1], .tup [.str "r", .int 1], .tup [.str "u", .int 1], .tup [.str "r", .int 1], .tup [.str "u", .int 1], .tup [.str "r", .int 1], .tup [.str "u", .int 1], .tup [.str "r", .int 1], .tup [.str "u", .int 1], .tup [.str "r", .int 1], .tup [.str "u", .int 1], .tup [.str "r", .int 1], .tup [.str "u", .int 1]]), none, none])) = true) hc_long_so)
theorem st_15 : evX 15 [none, none, none, none, some (.lst [.str "many", .bl true, .bl false]), none, none, none, some got_14, none, none, none, none, none] = .ok (.nx []) := isNx_ok (by decide +kernel)
theorem st_16 : evX 16 [none, none, none, none, none, none, none, none, some got_14, none, none, some (.tup [.tup [.str "r", .int 1], .tup [.str "u", .int 1], .tup [.str "r", .int 1], .tup [.str "u", .int 1], .tup [.str "r", .int 1], .tup [.str "u", .int 1], .tup [.str "r", .int 1], .tup [.str "u", .int 1], .tup [.str "r", .int 1], .tup [.str "u", .int 1], .tup [.str "r", .int 1], .tup [.str "u", .int 1], .tup [.str "r", .int 1], .tup [.str "u", .int 1], .tup [.str "r", .int 1], .tup [.str "u", .int 1], .tup [.str "r", .int 1], .tup [.str "u", .int 1], .tup [.str "r", .int 1], .tup [.str "u", .int 1], .tup [.str "r", .int 1], .tup [.str "u", .int 1], .tup [.str "r", .int 1], .tup [.str "u", .int 1], .tup [.str "r", .int 1], .tup [.str "u", .int 1], .tup [.str "r", .int 1], .tup [.str "u", .int 1], .tup [.str "r", .int 1], .tup [.str "u", .int 1], .tup [.str "r", .int 1], .tup [.str "u", .int 1], .tup [.str "r", .int 1], .tup [.str "u", .int 1], .tup [.str "r", .int 1], .tup [.str "u", .int 1], .tup [.str "r", .int 1], .tup [.str "u", .int 1], .tup [.str "r", .int 1], .tup [.str "u", .int 1], .tup [.str "r", .int 1], .tup [.str "u", .int 1], .tup [.str "r", .int 1], .tup [.str "u", .int 1], .tup [.str "r", .int 1], .tup [.str "u", .int 1], .tup [.str "r", .int 1], .tup [.str "u", .int 1], .tup [.str "r", .int 1], .tup [.str "u", .int 1], .tup [.str "r", .int 1], .tup [.str "u", .int 1], .tup [.str "r", .int 1], .tup [.str "u", .int 1], .tup [.str "r", .int 1], .tup [.str "u", .int 1], .tup [.str "r", .int 1], .tup [.str "u", .int 1], .tup [.str "r", .int 1], .tup [.str "u", .int 1], .tup [.str "r", .int 1], .tup [.str "u", .int 1], .tup [.str "r", .int 1], .tup [.str "u", .int 1], .tup [.str "r", .int 1], .tup [.str "u", .int 1], .tup [.str "r", .int 1], .tup [.str "u", .int 1], .tup [.str "r", .int 1], .tup [.str "u", .int 1], .tup [.str "r", .int 1], .tup [.str "u", .int 1], .tup [.str "r", .int 1], .tup [.str "u", .int 1], .tup [.str "r", .int 1], .tup [.str "u", .int 1], .tup [.str "r", .int 1], .tup [.str "u", .int 1], .tup [.str "r", .int 1], .tup [.str "u", .int 1], .tup [.str "r", .int 1], .tup [.str "u", .int 1], .tup [.str "r", .int 1], .tup [.str "u", .int 1], .tup [.str "r", .int 1], .tup [.str "u", .int 1], .tup [.str "r", .int 1], .tup [.str "u", .int 1], .tup [.str "r", .int 1], .tup [.str "u", .int 1], .tup [.str "r", .int 1], .tup [.str "u", .int 1], .tup [.str "r", .int 1], .tup [.str "u", .int 1], .tup [.str "r", .int 1], .tup [.str "u", .int 1], .tup [.str "r", .int 1], .tup [.str "u", .int 1], .tup [.str "r", .int 1], .tup [.str "u", .int 1], .tup [.str "r", .int 1], .tup [.str "u", .int 1], .tup [.str "r", .int 1], .tup [.str "u", .int 1], .tup [.str "r", .int 1], .tup [.str "u", .int 1], .tup [.str "r", .int 1], .tup [.str "u", .int 1], .tup [.str "r", .int 1], .tup [.str "u", .int 1], .tup [.str "r", .int 1], .tup [.str "u", .int 1], .tup [.str "r", .int 1], .tup [.str "u", .int 1], .tup [.str "r", .int 1], .tup [.str "u", .int 1], .tup [.str "r", .int 1], .tup [.str "u", .int 1], .tup [.str "r", .int 1], .tup [.str "u", .int 1], .tup [.str "r", .int 1], .tup [.str "u", .int 1], .tup [.str "r", .int 1], .tup [.str "u", .int 1], .tup [.str "r", .int 1], .tup [.str "u", .int 1], .tup [.str "r", .int 1], .tup [.str "u", .int 1], .tup [.str "r", .int 1], .tup [.str "u", .int 1], .tup [.str "r", .int 1], .tup [.str "u", .int 1], .tup [.str "r", .int 1], .tup [.str "u", .int 1], .tup [.str "r", .int 1], .tup [.str "u", .int 1], .tup [.str "r", .int 1], .tup [.str "u", .int 1], .tup [.str "r", .int 1], .tup [.str "u", .int 1], .tup [.str "r", .int 1], .tup [.str "u", .int 1], .tup [.str "r", .int 1], .tup [.str "u", .int 1], .tup [.str "r", .int 1], .tup [.str "u", .int 1], .tup [.str "r", .int 1], .tup [.str "u", .int 1], .tup [.str "r", .int 1], .tup [.str "u", .int 1], .tup [.str "r", .int 1], .tup [.str "u", .int 1], .tup [.str "r", .int 1], .tup [.str "u", .int 1], .tup [.str "r", .int 1], .tup [.str "u", .int 1], .tup [.str "r", .int 1], .tup [.str "u", .int 1], .tup [.str "r", .int 1], .tup [.str "u", .int 1], .tup [.str "r", .int 1], .tup [.str "u", .int 1], .tup [.str "r", .int 1], .tup [.str "u", .int 1], .tup [.str "r", .int 1], .tup [.str "u", .int 1], .tup [.str "r", .int 1], .tup [.str "u", .int 1], .tup [.str "r", .int 1], .tup [.str "u", .int 1], .tup [.str "r", .int 1], .tup [.str "u", .int 1], .tup [.str "r", .int 1], .tup [.str "u", .int 1], .tup [.str "r", .int 1], .tup [.str "u", .int 1], .tup [.str "r", .int 1], .tup [.str "u", .int 1], .tup [.str "r", .int 1], .tup [.str "u", .int 1], .tup [.str "r", .int 1], .tup [.str "u", .int 1], .tup [.str "r", .int 1], .tup [.str "u", .int 1], .tup [.str "r", .int 1], .tup [.str "u", .int 1], .tup [.str "r", .int 1], .tup [.str "u", .int 1], .tup [.str "r", .int 1], .tup [.str "u", .int 1], .tup [.str "r", .int 1], .tup [.str "u", .int 1], .tup [.str "r", .int 1], .tup [.str "u", .int 1], .tup [.str "r", .int 1], .tup [.str "u", .int 1], .tup [.str "r", .int 1], .tup [.str "u", .int 1], .tup [.str "r", .int 1], .tup [.str "u", .int 1]]), none, none] = .ok (.nx [(8, got_16)]) := isNx_ok (by decide +kernel)
theorem st_17 : evX 17 [none, none, none, none, none, none, none, none, some got_16, none, none, none, none, none] = .ok (.nx []) := isNx_ok (by decide +kernel)
theorem st_18 : evX 18 [none, none, none, none, none, none, none, none, some got_16, none, none, none, none, none] = .ok (.nx [(8, got_18)]) := isNx_ok (by decide +kernel)
theorem st_19 : evX 19 [none, none, none, none, none, none, none, none, some got_18, none, none, none, none, none] = .ok (.nx [(8, got_19)]) := isNx_ok (by decide +kernel)
theorem st_20 : evX 20 [none, none, none, none, none, none, none, none, none, none, none, none, none, none] = .ok (.nx [(12, (.lst [.tup [.int 1, .int 1, .int 2], .tup [.tup [.int 0, .int 0], .tup [.int 1, .int 0], .tup [.int 1, .int 1], .tup [.int 0, .int 1]], .tup [.int 0, .int 0, .int 2, .int (-2)], .str "dr", .str "lur", .str "rdl", .str "lur", .str "ruldl", .bl true, .int (-1)]))]) := isNx_ok (by decide +kernel)
theorem st_21 : evX 21 [none, none, none, none, none, none, none, none, some got_19, none, none, none, none, none] = .ok (.nx [(8, got_21)]) := isNx_ok (by decide +kernel)
theorem st_22 : evX 22 [none, none, none, none, none, none, none, none, some got_21, none, none, none, none, none] = .ok (.nx [(8, got_22)]) := isNx_ok (by decide +kernel)
theorem st_23 : evX 23 [none, none, none, none, none, none, none, none, none, none, none, none, some (.lst [.tup [.int 1, .int 1, .int 2], .tup [.tup [.int 0, .int 0], .tup [.int 1, .int 0], .tup [.int 1, .int 1], .tup [.int 0, .int 1]], .tup [.int 0, .int 0, .int 2, .int (-2)], .str "dr", .str "lur", .str "rdl", .str "lur", .str "ruldl", .bl true, .int (-1)]), none] = .ok (.nx [(12, (.lst [.tup [.int 1, .int 1, .int 2], .tup [.tup [.int 0, .int 0], .tup [.int 1, .int 0], .tup [.int 1, .int 1], .tup [.int 0, .int 1]], .tup [.int 0, .int 0, .int 2, .int (-2)], .str "dr", .str "lur", .str "rdl", .str "lur", .str "ruldl", .bl true, .int (-1), .bl true, .bl true, .tup [.tup [.str "r", .int 2], .tup [.str "u", .int 2], .tup [.str "r", .int 1]], .str "rru", .tup [.int 0, .int 100000000000000000000, .int 10000000000000000000000000000000000000000], .int 5]))]) := isNx_ok (by decide +kernel)
theorem st_24 : evX 24 [none, none, none, none, none, none, none, none, some got_22, none, none, none, none, none] = .ok (.nx [(8, got_24)]) := isNx_ok (by decide +kernel)
theorem st_25 : evX 25 [none, none, none, none, none, none, none, none, some got_24, none, none, none, some (.lst [.tup [.int 1, .int 1, .int 2], .tup [.tup [.int 0, .int 0], .tup [.int 1, .int 0], .tup [.int 1, .int 1], .tup [.int 0, .int 1]], .tup [.int 0, .int 0, .int 2, .int (-2)], .str "dr", .str "lur", .str "rdl", .str "lur", .str "ruldl", .bl true, .int (-1), .bl true, .bl true, .tup [.tup [.str "r", .int 2], .tup [.str "u", .int 2], .tup [.str "r", .int 1]], .str "rru", .tup [.int 0, .int 100000000000000000000, .int 10000000000000000000000000000000000000000], .int 5]), none] = .ok (.rt (.bl true)) := isRt_ok (by decide +kernel)
end Ar
namespace Ar
open PySem PySem.Spec PyProof.Rows L2

structure Mod (K : PySem.W.Frag) (w : World) (mg : Str → Option Value) : Prop where
  nob : NoB mg
  h_is_number : Has K mg "is_number" (topS 5) ["thing"]
  h_is_from : Has K mg "is_from" (topS 6) ["thing", "least"]
  h_is_long : Has K mg "is_long" (topS 7) ["thing", "length"]
  h_tupled : Has K mg "tupled" (topS 8) ["value"]
  h_sure_number : Has K mg "sure_number" (topS 9) ["value"]
  h_sure_from : Has K mg "sure_from" (topS 10) ["value", "least"]
  h_is_route : Has K mg "is_route" (topS 17) ["thing"]
  h_sure_route : Has K mg "sure_route" (topS 18) ["value"]
  h_turned_letter : Has K mg "turned_letter" (topS 19) ["letter", "quarters"]
  h_turned_in : Has K mg "turned_in" (topS 20) ["route", "quarters"]
  h_turned_route : Has K mg "turned_route" (topS 21) ["route", "quarters"]
  h_mirrored_route : Has K mg "mirrored_route" (topS 22) ["route"]
  h_back_in : Has K mg "back_in" (topS 23) ["route"]
  h_walked_back : Has K mg "walked_back" (topS 24) ["route"]
  h_read_back : Has K mg "read_back" (topS 25) ["route"]
  h_deed_in : Has K mg "deed_in" (topS 26) ["route"]
  h_deed_of : Has K mg "deed_of" (topS 27) ["route"]
  h_corners_of : Has K mg "corners_of" (topS 28) ["route"]
  h_is_closed : Has K mg "is_closed" (topS 29) ["route"]
  h_area_inside : Has K mg "area_inside" (topS 30) ["route"]
  h_squares_beside : Has K mg "squares_beside" (topS 31) ["route"]
  h_bare_in : Has K mg "bare_in" (topS 32) ["route"]
  h_bare : Has K mg "bare" (topS 33) ["route"]
  h_are_runs : Has K mg "are_runs" (topS 34) ["thing"]
  h_sure_runs : Has K mg "sure_runs" (topS 35) ["value"]
  h_run_together : Has K mg "run_together" (topS 36) ["rows"]
  h_runs_of : Has K mg "runs_of" (topS 37) ["route"]
  h_route_of : Has K mg "route_of" (topS 38) ["runs"]
  h_deed_by_runs : Has K mg "deed_by_runs" (topS 39) ["runs"]
  h_deed_of_runs : Has K mg "deed_of_runs" (topS 40) ["runs"]
  h_length_of : Has K mg "length_of" (topS 41) ["runs"]
  h_runs_back : Has K mg "runs_back" (topS 42) ["runs"]
  h_runs_joined : Has K mg "runs_joined" (topS 43) ["one", "other"]
  h_step_after : Has K mg "step_after" (topS 44) ["runs", "place"]
  h__law_box : Has K mg "_law_box" (topS 46) ["script", "k"]
  h__law_take : Has K mg "_law_take" (topS 47) ["tin", "below_so"]
  h__law_cells : Has K mg "_law_cells" (topS 48) ["script", "most_so"]
  h__law_of : Has K mg "_law_of" (topS 49) ["tin", "goods_so"]
  h__law_same : Has K mg "_law_same" (topS 50) ["got", "due"]
  h__law_asked : Has K mg "_law_asked" (topS 51) ["k", "bits"]
  h__law_caught : Has K mg "_law_caught" (topS 52) ["k", "bits"]
  h_law : Has K mg "law" (topS 53) ["script"]
  gl_LETTERS : GlobD K mg "LETTERS" (.str "ruld")
  gl_STEPS : DictG K w mg "STEPS" stepF
  gl_MIRRORED : DictG K w mg "MIRRORED" mirF
  gl_MOST_LETTERS : GlobD K mg "MOST_LETTERS" (.int 2000)
  gl_MOST_RUNS : GlobD K mg "MOST_RUNS" (.int 200)
  kw_0 : KwOk K mg "deed_of" ["route"] [0]
  kw_1 : KwOk K mg "corners_of" ["route"] [0]
  kw_2 : KwOk K mg "squares_beside" ["route"] [0]
  kw_3 : KwOk K mg "turned_route" ["quarters", "route"] [1, 0]
  kw_4 : KwOk K mg "mirrored_route" ["route"] [0]
  kw_5 : KwOk K mg "walked_back" ["route"] [0]
  kw_6 : KwOk K mg "read_back" ["route"] [0]
  kw_7 : KwOk K mg "bare" ["route"] [0]
  kw_8 : KwOk K mg "is_closed" ["route"] [0]
  kw_9 : KwOk K mg "area_inside" ["route"] [0]
  kw_10 : KwOk K mg "is_route" ["thing"] [0]
  kw_11 : KwOk K mg "are_runs" ["thing"] [0]
  kw_12 : KwOk K mg "runs_of" ["route"] [0]
  kw_13 : KwOk K mg "route_of" ["runs"] [0]
  kw_14 : KwOk K mg "deed_of_runs" ["runs"] [0]
  kw_15 : KwOk K mg "length_of" ["runs"] [0]
  kw_16 : KwOk K mg "runs_back" ["runs"] [0]
  kw_17 : KwOk K mg "runs_joined" ["other", "one"] [1, 0]
  kw_18 : KwOk K mg "step_after" ["place", "runs"] [1, 0]
  excs : ∃ U C T, Excs K mg U C T

local macro_rules | `(tactic| walk_at "dnat") => `(tactic| first | assumption | omega | exact Nat.le_of_ble_eq_true rfl)
local macro_rules | `(tactic| walk_at "dk2") => `(tactic| first
  | ((with_reducible apply cTake_i); (with_reducible assumption); (walk_at "dnat"); (walk_at "dnat"); (walk_at "bd"))
  | ((with_reducible apply cWhole_i); (with_reducible assumption); (walk_at "dnat"); (walk_at "dnat"); (walk_at "bd"))
  | ((with_reducible apply cDeed_i); (with_reducible assumption); (walk_at "dnat"); (walk_at "dnat"); (walk_at "bd"))
  | ((with_reducible refine cRoute2_i ?_ ?_ ?_ ?_ ?_); (assumption); (walk_at "dnat"); (assumption); (walk_at "dnat"))
  | ((with_reducible refine cRoute_i ?_ ?_ ?_); (assumption); (walk_at "dnat"))
  | ((with_reducible refine cSureDeeds_i _ ?_ ?_); (walk_at "dnat"))
  | refine ⟨_, ⟨_, List.mem_cons_self, rfl⟩, ?_⟩)

local macro_rules | `(tactic| walk_at "bd") => `(tactic| focus ((with_reducible apply Bd.fit); (repeat' (first | with_reducible assumption | with_reducible apply Bd.add | with_reducible apply Bd.sub | with_reducible apply Bd.mul | with_reducible apply Bd.neg | with_reducible apply Bd.ediv | with_reducible apply Bd.emod | decide | exact Bd.lit (n := 64) rfl | exact Bd.lit (n := 300) rfl)); (all_goals (exact rfl))))
local macro_rules | `(tactic| walk_at "dok") => `(tactic| first | exact trivial | assumption | exact rfl)
local macro_rules | `(tactic| walk_at "dm") => `(tactic| first | (exact Bd.okL (Bd.lit rfl)) | (exact Bd.okR (Bd.lit rfl)) | (exact Bd.okR (by with_reducible assumption)) | (refine Bd.ok (n := 60000000) (m := 60000000) ?_ ?_ rfl <;> walk_at "bd"))
local macro_rules | `(tactic| walk_at "dty") => `(tactic| first | with_reducible exact tyInt | with_reducible exact tyBool | with_reducible exact tyStr | with_reducible exact tyTuple | with_reducible exact tyList)
local macro_rules | `(tactic| walk_at "dk") => `(tactic| first
  | ((with_reducible refine cIsNumber_i ?_ ?_); (walk_at "dok"))
  | ((with_reducible refine cIsLong_i ?_ ?_); (walk_at "dok"))
  | ((with_reducible refine cTupled_i ?_ ?_); (walk_at "dok"))
  | ((with_reducible refine cPlain1_i ?_ ?_); (walk_at "dok"))
  | ((with_reducible refine cRowOf_i ?_ ?_); (walk_at "dok"))
  | ((with_reducible refine cSureDeed_i  ?_))
  | ((with_reducible refine cSureNumber_i  ?_))
  | ((with_reducible refine cD1_i ?_ ?_ ?_ ?_); (walk_at "bd"); (walk_at "bd"); (walk_at "bd"))
  | ((with_reducible refine cD2_i ?_ ?_ ?_ ?_ ?_ ?_ ?_); (walk_at "bd"); (walk_at "bd"); (walk_at "bd"); (walk_at "bd"); (walk_at "bd"); (walk_at "bd"))
  | ((with_reducible refine cDI_i ?_ ?_ ?_ ?_ ?_); (walk_at "bd"); (walk_at "bd"); (walk_at "bd"); (walk_at "bd"))
  | ((with_reducible refine cI1_i ?_ ?_); (walk_at "bd"))
  | walk_at "dk2")
local macro_rules | `(tactic| walk_at "dlen") => `(tactic| first | with_reducible assumption | ((first | (with_reducible refine le_line6 ?_) | (with_reducible refine lt_line6 ?_)); (focus ((try simp only [List.length_map, List.length_append, List.length_cons, List.length_nil, rangeD_len]); (first | done | omega)))))
local macro_rules | `(tactic| walk_at "dnorm") => `(tactic| ((try dsimp only [wipeR, List.map, List.set]); (try exact rfl)))
local macro_rules | `(tactic| walk_at "dS") => `(tactic| ((fail_if_success (with_reducible refine asg_list ?_)); first
  | with_reducible refine ds_retCN ?_
  | with_reducible refine ds_ret ?_
  | ((with_reducible refine vPar3 (by assumption) (by assumption) (by assumption) (by assumption) ?_ ?_ ?_ ?_); (decide +kernel); (exact rfl); (exact ⟨rfl, rfl, rfl⟩))
  | ((with_reducible refine vPar (by assumption) (by assumption) (by assumption) ?_ ?_ ?_ ?_); (decide +kernel); (exact rfl); (exact rfl))
  | ((with_reducible refine vAsgF ?_ ?_ ?_ ?_); (decide +kernel); (exact rfl); (exact rfl))
  | ((with_reducible refine vAsgC (by assumption) ?_ ?_ ?_ ?_); (decide +kernel); (exact rfl); (exact rfl))
  | ((with_reducible refine vSet (by assumption) (by assumption) ?_ ?_); (exact rfl))
  | ((with_reducible refine ds_store ?_ ?_ ?_ ?_ ?_); (exact rfl); (exact rfl); (exact rfl); (exact fun _ => rfl))
  | ((with_reducible refine ds_asg ?_ ?_ ?_ ?_); (exact rfl); (exact rfl); (exact rfl))
  | (with_reducible refine ds_if ?_)
  | ((with_reducible refine vAug (by assumption) (by assumption) ?_); (refine ⟨_, rfl, ?_⟩))
  | ((with_reducible refine ds_expr ?_ ?_); (exact rfl))))
local macro_rules | `(tactic| walk_at "dG") => `(tactic| first
  | ((with_reducible refine vG (by assumption) (by assumption) ?_ ?_); (exact rfl))
  | ((with_reducible refine dg_tup (n := _) (by assumption) rfl ?_ ?_); (exact rfl); (refine ⟨_, rfl, rfl, ?_⟩)))
local macro_rules | `(tactic| walk_at "dC") => `(tactic| first
  | ((with_reducible refine vIsi (by assumption) (by assumption) (by walk_at "dty") (by assumption) (by assumption) ?_ ?_); (exact rfl))
  | ((with_reducible refine vIsi2 (by assumption) (by assumption) (by walk_at "dty") (by walk_at "dty") (by assumption) (by assumption) (by assumption) ?_ ?_); (exact rfl))
  | ((with_reducible refine vCall (by assumption) (by assumption) (by assumption) ?_ ?_ ?_ ?_); (exact rfl); (exact rfl); (exact rfl))
  | ((with_reducible refine de_append ?_ ?_ ?_ ?_ ?_); (exact rfl); (exact rfl); (exact rfl); (exact rfl))
  | ((with_reducible refine de_extend ?_ ?_ ?_ ?_ ?_); (exact rfl); (exact rfl); (exact rfl); (exact rfl))
  | ((with_reducible refine de_join ?_ ?_ ?_ ?_); (exact rfl); (exact rfl); (exact rfl))
  | ((with_reducible refine de_sindex ?_ ?_ ?_ ?_); (exact rfl); (exact rfl); (exact rfl))
  | ((with_reducible refine de_len (by assumption) (by assumption) (Glo.g (by assumption)) ?_ ?_); (exact rfl))
  | ((with_reducible refine de_abs (by assumption) (by assumption) (Glo.g (by assumption)) ?_ ?_); (exact rfl))
  | ((with_reducible refine de_intI (by assumption) (by assumption) (Glo.g (by assumption)) ?_ ?_); (exact rfl))
  | ((with_reducible refine de_tupleOf (by assumption) (by assumption) (Glo.g (by assumption)) ?_ ?_); (exact rfl))
  | ((with_reducible refine de_all (by assumption) (by assumption) (Glo.g (by assumption)) ?_ ?_); (exact rfl))
  | ((with_reducible refine de_any (by assumption) (by assumption) (Glo.g (by assumption)) ?_ ?_); (exact rfl)))
local macro_rules | `(tactic| walk_at "dE") => `(tactic| first
  | ((with_reducible refine vName (by assumption) (by assumption) ?_); (refine ⟨_, rfl, ?_⟩))
  | ((with_reducible refine de_glob (by assumption) (by assumption) (Glo.g (by assumption)) ?_))
  | (with_reducible refine de_int ?_)
  | ((with_reducible refine de_callId ?_); walk_at "dC")
  | (with_reducible refine de_bin ?_)
  | ((with_reducible refine de_cmp ?_ ?_); (exact rfl))
  | (with_reducible refine de_revS ?_)
  | (with_reducible refine de_slLo ?_)
  | (with_reducible refine de_slHi ?_)
  | (with_reducible refine de_slLH ?_)
  | ((with_reducible refine de_kd (by assumption) (by assumption) (Glo.g (by assumption)) ?_ ?_); (exact fun _ _ => rfl))
  | ((with_reducible refine de_ix ?_ ?_); (exact fun _ _ => rfl))
  | ((with_reducible refine de_tup ?_ ?_); (exact rfl))
  | (with_reducible refine de_neg ?_)
  | (with_reducible refine de_if ?_)
  | (with_reducible refine de_bl ?_)
  | (with_reducible refine de_str ?_)
  | (with_reducible refine de_non ?_)
  | (with_reducible refine de_not ?_)
  | (with_reducible refine de_and ?_)
  | (with_reducible refine de_or ?_)
  | (with_reducible refine de_bool1 ?_)
  | ((with_reducible refine de_lst ?_ ?_); (exact rfl)))
local macro_rules | `(tactic| walk_at "dT") => `(tactic| first
  | (with_reducible refine dt_bool ?_)
  | (with_reducible refine dt_not ?_)
  | ((with_reducible refine dt_cmp ?_ ?_); (exact rfl))
  | ((with_reducible refine dt_truth ?_ ?_); (exact fun _ => rfl)))
local macro_rules | `(tactic| walk_at "dW") => `(tactic| first
  | (with_reducible refine dw_and ?_)
  | (with_reducible refine dw_or ?_)
  | (with_reducible refine dw_and1 ?_)
  | (with_reducible refine dw_or1 ?_))
local macro_rules | `(tactic| walk_at "dO") => `(tactic| first
  | with_reducible refine do_add ?_
  | with_reducible refine do_sub ?_
  | ((with_reducible refine do_cat ?_ ?_); (exact sz rfl))
  | ((with_reducible refine do_mulX ?_ ?_); (walk_at "dm"))
  | ((with_reducible refine do_fdiv ?_ ?_); (exact Bd.div (by decide) (Bd.lit (n := 9000) rfl) rfl))
  | ((with_reducible refine do_fdiv ?_ ?_); (exact Bd.div (by assumption) (by assumption) rfl))
  | ((with_reducible refine do_mod ?_ ?_); (first | (exact (by decide)) | assumption | omega))
  | with_reducible refine do_p8 ?_
  | with_reducible refine do_p18 ?_
  | with_reducible refine do_p7 ?_
  | with_reducible refine do_p20 ?_
  | with_reducible refine do_p29 ?_
  | with_reducible refine do_eqI ?_
  | with_reducible refine do_neI ?_
  | with_reducible refine do_lt ?_
  | with_reducible refine do_le ?_
  | with_reducible refine do_gt ?_
  | with_reducible refine do_ge ?_
  | with_reducible refine do_isN ?_
  | with_reducible refine do_notN ?_
  | with_reducible refine do_inS ?_
  | with_reducible refine do_eqB ?_
  | with_reducible refine do_neB ?_
  | with_reducible refine do_eqS ?_
  | with_reducible refine do_neS ?_
  | with_reducible refine do_eqT3 (by assumption) ?_
  | with_reducible refine do_neNil (by assumption) ?_
  | with_reducible refine do_iadd ?_
  | with_reducible refine do_isub ?_)
local macro_rules | `(tactic| walk_at "dw") => `(tactic| first
  | ((with_reducible refine de_id ?_); walk_at "dE")
  | ((with_reducible refine do_id ?_); walk_at "dO")
  | ((with_reducible refine da_cons ?_ ?_); rotate_left; (exact rfl))
  | ((with_reducible refine dn_lst ?_ ?_); (exact rfl))
  | (with_reducible refine da_nil ?_)
  | ((with_reducible refine ds_id ?_); walk_at "dS")
  | with_reducible refine ds_cons ?_
  | with_reducible refine ds_nil ?_
  | with_reducible refine ds_one ?_
  | ((with_reducible refine dt_id ?_); walk_at "dT")
  | ((with_reducible refine dw_id ?_); walk_at "dW")
  | ((with_reducible refine dg_id ?_); walk_at "dG")
  | ((with_reducible refine dgs_cons ?_ ?_); (exact rfl))
  | (with_reducible refine dgs_nil ?_)
  | with_reducible refine nx_mk ?_
  | with_reducible refine rt_mk ?_
  | ((with_reducible apply nx_norm); (walk_at "dnorm"))
  | ((with_reducible apply nxG_norm); (walk_at "dnorm"))
  | with_reducible refine RetP.same ?_
  | ((with_reducible refine RetP.here ?_ ?_); (exact rfl))
  | ((with_reducible refine vRange1 (by assumption) (by assumption) (by assumption) ?_ ?_); (exact rfl))
  | ((with_reducible refine rng_and ?_ ?_); (exact ⟨by omega, by omega⟩))
  | ((with_reducible refine len_and ?_ ?_); (walk_at "dlen"))
  | ((with_reducible refine le_and ?_ ?_); (walk_at "dlen"))
  | ((with_reducible refine okc_and ?_ ?_); (walk_at "dok"))
  | ((with_reducible refine ite_t ?_ ?_); (exact rfl))
  | ((with_reducible refine ite_f ?_ ?_); (exact rfl))
  | ((with_reducible refine ite_t ?_ ?_); (with_reducible assumption))
  | ((with_reducible refine ite_f ?_ ?_); (with_reducible assumption))
  | walk_at "dk"
  | refine ⟨_, rfl, ?_⟩
  | refine ⟨_, _, rfl, rfl, ?_⟩
  | refine ⟨_, _, rfl, ⟨by with_reducible assumption, rfl⟩, ?_⟩
  | refine ⟨_, _, rfl, ?_⟩
  | refine ⟨_, _, _, rfl, ?_⟩
  | refine ⟨_, ⟨sz rfl, _, rfl, rfl⟩, ?_⟩
  | refine ⟨_, ⟨sz rfl, rfl⟩, ?_⟩
  | refine .inl ⟨_, rfl, ?_⟩
  | refine .inr ⟨_, rfl, ?_⟩
  | refine ⟨_, _, _, _, rfl, rfl, ?_⟩)

theorem sc__law_take : FnScope ["tin", "below_so", "drawn_so", "once_so", "wide_so", "twice_so"] ["tin", "below_so"] (defScope (topS 47)) := ⟨rfl, rfl, rfl, by decide +kernel, rfl, by decide +kernel, by decide +kernel⟩
def tb__law_take : List (Str × Nat) := [("tin", 0), ("below_so", 1), ("drawn_so", 2), ("once_so", 3), ("wide_so", 4), ("twice_so", 5)]
def nm__law_take : List (Str × NameKind) := [("tin", .local), ("below_so", .local), ("drawn_so", .local), ("once_so", .local), ("wide_so", .local), ("twice_so", .local), ("int", .globalImplicit)]
theorem ok__law_take {P : Program} {w : World} {K : PySem.W.Frag} {mg : Str → Option Value} {base : Heap} (M : Mod K w mg) : Fn P w K mg base "_law_take" 2 1 (cTake) := by
  refine (M.h__law_take).fn (tb := tb__law_take) sc__law_take rfl (names := nm__law_take) rfl (by decide +kernel) fun X A ds S Φ hl h => ?_
  have G := M.nob
  have v_tin := A.var "tin" 0 (by decide +kernel)
  have s_tin := A.stv "tin" 0 (by decide +kernel)
  have l_tin := A.lcv "tin" 0 (by decide +kernel)
  have v_below_so := A.var "below_so" 1 (by decide +kernel)
  have s_below_so := A.stv "below_so" 1 (by decide +kernel)
  have l_below_so := A.lcv "below_so" 1 (by decide +kernel)
  have v_drawn_so := A.var "drawn_so" 2 (by decide +kernel)
  have s_drawn_so := A.stv "drawn_so" 2 (by decide +kernel)
  have l_drawn_so := A.lcv "drawn_so" 2 (by decide +kernel)
  have v_once_so := A.var "once_so" 3 (by decide +kernel)
  have s_once_so := A.stv "once_so" 3 (by decide +kernel)
  have l_once_so := A.lcv "once_so" 3 (by decide +kernel)
  have v_wide_so := A.var "wide_so" 4 (by decide +kernel)
  have s_wide_so := A.stv "wide_so" 4 (by decide +kernel)
  have l_wide_so := A.lcv "wide_so" 4 (by decide +kernel)
  have v_twice_so := A.var "twice_so" 5 (by decide +kernel)
  have s_twice_so := A.stv "twice_so" 5 (by decide +kernel)
  have l_twice_so := A.lcv "twice_so" 5 (by decide +kernel)
  have g_int := A.glo "int" (by decide +kernel)
  obtain ⟨p, b, l, R, n, rfl, rfl, ⟨a, q, c, rfl, ha, hq, hqb, hc, hcb⟩, hb, hn, hnb, h⟩ := h
  have hc1 : Bd 31 (c + 1) := ⟨by have e : (2 : Nat) ^ 31 = 2147483648 := rfl; omega⟩
  (change DSs X _ [some (.cell p), some (.int n), none, none, none, none] _ _; (first | refine ds_one ?_ | refine ds_cons ?_))
  repeat walk_at "dw"
  refine ite_c (fun e => ?_) (fun e => ?_)
  · have e := of_decide_eq_true e
    repeat walk_at "dw"
    refine ⟨_, [], _, _, _, _, rfl, rfl, rfl, rfl, ?_⟩
    refine (?_ : DEnds.nx _ _ ((p, [.int (a / n), .int q, .int c]) :: R))
    repeat walk_at "dw"
    exact h _ _ (Int.emod_nonneg _ (by omega)) (Int.emod_lt_of_pos _ hn) ⟨_, _, _, rfl, Int.ediv_nonneg ha (by omega), hq, hqb, hc, by omega⟩
  · repeat walk_at "dw"
    refine ⟨_, [], _, _, _, _, rfl, rfl, rfl, rfl, ?_⟩
    refine (?_ : DEnds.nx _ _ ((p, [.int a, .int q, .int (c + 1)]) :: R))
    repeat walk_at "dw"
    exact h _ _ (Int.emod_nonneg _ (by omega)) (Int.emod_lt_of_pos _ hn) ⟨_, _, _, rfl, ha, hq, hqb, by omega, by omega⟩

theorem sc__law_of : FnScope ["tin", "goods_so"] ["tin", "goods_so"] (defScope (topS 49)) := ⟨rfl, rfl, rfl, by decide +kernel, rfl, by decide +kernel, by decide +kernel⟩
def tb__law_of : List (Str × Nat) := [("tin", 0), ("goods_so", 1)]
def nm__law_of : List (Str × NameKind) := [("tin", .local), ("goods_so", .local), ("_law_take", .globalImplicit), ("len", .globalImplicit)]
theorem ok__law_of {P : Program} {w : World} {K : PySem.W.Frag} {mg : Str → Option Value} {base : Heap} (M : Mod K w mg) : Fn P w K mg base "_law_of" 2 2 (cOf) := by
  have d__law_take := ok__law_take (P := P) (w := w) (base := base) M
  refine (M.h__law_of).fn (tb := tb__law_of) sc__law_of rfl (names := nm__law_of) rfl (by decide +kernel) fun X A ds S Φ hl h => ?_
  have G := M.nob
  have v_tin := A.var "tin" 0 (by decide +kernel)
  have s_tin := A.stv "tin" 0 (by decide +kernel)
  have l_tin := A.lcv "tin" 0 (by decide +kernel)
  have v_goods_so := A.var "goods_so" 1 (by decide +kernel)
  have s_goods_so := A.stv "goods_so" 1 (by decide +kernel)
  have l_goods_so := A.lcv "goods_so" 1 (by decide +kernel)
  have g__law_take := A.glo "_law_take" (by decide +kernel)
  have g_len := A.glo "len" (by decide +kernel)
  obtain ⟨p, b, l, R, g, n, rfl, rfl, ht, hb, hok, hlen, h0, h1, h⟩ := h
  have h0' : (0 : Int) < (n : Int) := by omega
  have hb' : Bd 20 (n : Int) := ⟨by have e : (2 : Nat) ^ 20 = 1048576 := rfl; omega⟩
  (change DSs X _ [some (.cell p), some (g)] _ _; (first | refine ds_one ?_ | refine ds_cons ?_))
  repeat walk_at "dw"
  refine ⟨n, hlen.nil, ?_⟩
  repeat walk_at "dw"
  intro r l' r0 r1 ht'
  obtain ⟨e, he, hq⟩ := h r l' r0 r1 ht'
  refine ⟨e, he.nil, ?_⟩
  repeat walk_at "dw"
  exact hq

theorem sc__law_box : FnScope ["script", "k", "bit_so"] ["script", "k"] (defScope (topS 46)) := ⟨rfl, rfl, rfl, by decide +kernel, rfl, by decide +kernel, by decide +kernel⟩
def tb__law_box : List (Str × Nat) := [("script", 0), ("k", 1), ("bit_so", 2)]
def nm__law_box : List (Str × NameKind) := [("script", .local), ("k", .local), ("bit_so", .local), ("len", .globalImplicit), ("abs", .globalImplicit), ("int", .globalImplicit)]
theorem ok__law_box {P : Program} {w : World} {K : PySem.W.Frag} {mg : Str → Option Value} {base : Heap} (M : Mod K w mg) : FnN P w K mg base "_law_box" 2 1 (cBoxN) := by
  refine (M.h__law_box).fnN (tb := tb__law_box) sc__law_box rfl (names := nm__law_box) rfl (by decide +kernel) fun X A ds S Φ hl h => ?_
  have G := M.nob
  have v_script := A.var "script" 0 (by decide +kernel)
  have s_script := A.stv "script" 0 (by decide +kernel)
  have l_script := A.lcv "script" 0 (by decide +kernel)
  have v_k := A.var "k" 1 (by decide +kernel)
  have s_k := A.stv "k" 1 (by decide +kernel)
  have l_k := A.lcv "k" 1 (by decide +kernel)
  have v_bit_so := A.var "bit_so" 2 (by decide +kernel)
  have s_bit_so := A.stv "bit_so" 2 (by decide +kernel)
  have l_bit_so := A.lcv "bit_so" 2 (by decide +kernel)
  have g_len := A.glo "len" (by decide +kernel)
  have g_abs := A.glo "abs" (by decide +kernel)
  have g_int := A.glo "int" (by decide +kernel)
  obtain ⟨is, k, rfl, h0, h1, hlen, h⟩ := h
  (change DSs X _ [some (.lst (is.map D.int)), some (.int k), none] _ _; (first | refine ds_one ?_ | refine ds_cons ?_))
  repeat walk_at "dw"
  have end_ : ∀ bit : Int, Tin 0 [.int ((if bit < 0 then -bit else bit) * (if decide (1000000000000000000 ≤ (if bit < 0 then -bit else bit)) = true then 1 else 0)), .int (bit % 2305843009213693951 + 39373 * k + 9301032), .int 0] := fun bit => by
    refine ⟨_, _, _, rfl, Int.mul_nonneg (by split <;> omega) (by split <;> omega), ?_, ?_, by omega, by omega⟩
    · have := Int.emod_nonneg bit (b := 2305843009213693951) (by decide)
      omega
    · have h2 := Int.emod_nonneg bit (b := 2305843009213693951) (by decide)
      have h3 := Int.emod_lt_of_pos bit (b := 2305843009213693951) (by decide)
      refine ⟨?_⟩
      have e : (2 : Nat) ^ 80 = 1208925819614629174706176 := rfl
      omega
  have hfit : ∀ bit : Int, Bd 64 (if decide (1000000000000000000 ≤ (if bit < 0 then -bit else bit)) = true then 1 else 0) := fun bit => Bd.ofBool
  refine ite_c (fun e => ?_) (fun e => ?_)
  · obtain ⟨x, hx, hat⟩ := atI_ok (l := is.map D.int) h0 (of_decide_eq_true e)
    obtain ⟨bit, rfl⟩ := int_mem hx
    repeat walk_at "dw"
    refine ⟨_, hat, ?_⟩
    have hfb := hfit bit
    repeat walk_at "dw"
    intro c
    exact RetC.cell rfl (List.mem_singleton.mpr rfl) (h _ (end_ bit))
  · have hfb := hfit 0
    repeat walk_at "dw"
    intro c
    exact RetC.cell rfl (List.mem_singleton.mpr rfl) (h _ (end_ 0))

theorem sc__law_cells : FnScope ["script", "most_so", "cells_so", "k", "bit_so", "at_so"] ["script", "most_so"] (defScope (topS 48)) := ⟨rfl, rfl, rfl, by decide +kernel, rfl, by decide +kernel, by decide +kernel⟩
def tb__law_cells : List (Str × Nat) := [("script", 0), ("most_so", 1), ("cells_so", 2), ("k", 3), ("bit_so", 4), ("at_so", 5)]
def nm__law_cells : List (Str × NameKind) := [("script", .local), ("most_so", .local), ("cells_so", .local), ("k", .local), ("bit_so", .local), ("at_so", .local), ("list", .globalImplicit), ("enumerate", .globalImplicit), ("int", .globalImplicit)]
theorem ok__law_cells {P : Program} {w : World} {K : PySem.W.Frag} {mg : Str → Option Value} {base : Heap} (M : Mod K w mg) : Fn P w K mg base "_law_cells" 2 1 (cCells) := by
  refine (M.h__law_cells).fn (tb := tb__law_cells) sc__law_cells rfl (names := nm__law_cells) rfl (by decide +kernel) fun X A ds S Φ hl h => ?_
  have G := M.nob
  have v_script := A.var "script" 0 (by decide +kernel)
  have s_script := A.stv "script" 0 (by decide +kernel)
  have l_script := A.lcv "script" 0 (by decide +kernel)
  have v_most_so := A.var "most_so" 1 (by decide +kernel)
  have s_most_so := A.stv "most_so" 1 (by decide +kernel)
  have l_most_so := A.lcv "most_so" 1 (by decide +kernel)
  have v_cells_so := A.var "cells_so" 2 (by decide +kernel)
  have s_cells_so := A.stv "cells_so" 2 (by decide +kernel)
  have l_cells_so := A.lcv "cells_so" 2 (by decide +kernel)
  have v_k := A.var "k" 3 (by decide +kernel)
  have s_k := A.stv "k" 3 (by decide +kernel)
  have l_k := A.lcv "k" 3 (by decide +kernel)
  have v_bit_so := A.var "bit_so" 4 (by decide +kernel)
  have s_bit_so := A.stv "bit_so" 4 (by decide +kernel)
  have l_bit_so := A.lcv "bit_so" 4 (by decide +kernel)
  have v_at_so := A.var "at_so" 5 (by decide +kernel)
  have s_at_so := A.stv "at_so" 5 (by decide +kernel)
  have l_at_so := A.lcv "at_so" 5 (by decide +kernel)
  have g_list := A.glo "list" (by decide +kernel)
  have g_enumerate := A.glo "enumerate" (by decide +kernel)
  have g_int := A.glo "int" (by decide +kernel)
  obtain ⟨is, n, rfl, h0, h1, hlen, h⟩ := h
  (change DSs X _ [some (.frz (is.map D.int)), some (.int n), none, none, none, none] _ _; (first | refine ds_one ?_ | refine ds_cons ?_))
  refine vCell A (by assumption) ?_ ?_
  exact rfl
  refine DN.mono (Φ := fun l S1 => S1 = S ∧ ∃ js : List Int, l = js.map D.int ∧ js.length ≤ 63 ∧ (n.toNat < is.length → js.length = n.toNat)) ?_ ?_
  · refine dn_or (dn_listOf A G (Glo.g (by assumption)) ?_ ?_)
    exact rfl
    obtain ⟨js, hj, hjl⟩ := cut_hi (is := is) (n := n) (by omega)
    repeat walk_at "dw"
    rw [hj]
    refine ite_c (fun e => ?_) (fun e => ?_)
    · exact ⟨rfl, js, rfl, by omega, by omega⟩
    · refine dn_or1 ?_
      repeat walk_at "dw"
      refine ⟨rfl, [0], rfl, by decide, fun q => ?_⟩
      have : js.length = 0 := by
        cases js with
        | nil => rfl
        | cons a js => cases e
      omega
  rintro l S1 ⟨rfl, js, rfl, hj1, hj2⟩ c
  repeat walk_at "dw"
  refine ds_for A (fun _ => rfl) ?_
  refine di_enum A (G.no _ rfl) g_enumerate.g rfl rfl ?_
  obtain ⟨ks, hk, hkl⟩ := cut_mid (is := is) (n := n) (m := 63) (by omega)
  repeat walk_at "dw"
  rw [hk]
  refine ⟨_, .lst _, ?_⟩
  refine for_ind (fun ds ρ S' => ∃ (ms : List Int) (w1 w2 w3 : Option D), (∀ d, d ∈ ds → (∃ (i : Nat) (x : Int), d = .tup [.int (i : Int), .int x] ∧ i < 64) ∧ (ms.length : Int) = n) ∧ ρ = [some (.frz (is.map D.int)), some (.int n), some (.cell c), w1, w2, w3] ∧ S' = S1 ++ [(c, ms.map D.int)] ∧ ms.length ≤ 63) ?_ ?_ ?_
  · rintro d ds ρ S' ⟨ms, w1, w2, w3, hd, rfl, rfl, hm⟩
    obtain ⟨⟨i, x, rfl, hi⟩, hmn⟩ := hd d List.mem_cons_self
    have hib : Bd 64 ((i : Int) + 2) := ⟨by have e : (2 : Nat) ^ 64 = 18446744073709551616 := rfl; omega⟩
    have a0 := Int.emod_nonneg (i : Int) (b := n) (by omega)
    have a1 := Int.emod_lt_of_pos (i : Int) (b := n) h0
    obtain ⟨y, hy, hat⟩ := atI_ok (l := ms.map D.int) a0 (by rw [List.length_map]; omega)
    obtain ⟨y, rfl⟩ := int_mem hy
    have hix := ixN_ok (n := (ms.map D.int).length) a0 (by rw [List.length_map]; omega)
    repeat walk_at "dw"
    refine ⟨_, ⟨_, List.mem_append_right _ List.mem_cons_self, hat⟩, ?_⟩
    repeat walk_at "dw"
    refine ⟨_, _, _, [], _, _, rfl, rfl, rfl, hix, ?_⟩
    repeat walk_at "dw"
    refine .mk ⟨ms.set ((i : Int) % n).toNat (y + x * ((i : Int) + 2)), _, _, _, fun d hd2 => ?_, rfl, by rw [List.map_set], by rw [List.length_set]; exact hm⟩
    rw [List.length_set]
    exact hd d (List.mem_cons_of_mem _ hd2)
  · rintro ρ S' ⟨ms, w1, w2, w3, hd, rfl, rfl, hm⟩
    repeat walk_at "dw"
    exact RetP.cell rfl (List.mem_singleton.mpr rfl) (h ms hm)
  · refine ⟨js, _, _, _, fun d hd => ?_, rfl, rfl, hj1⟩
    obtain ⟨i, x, e, h3, h4⟩ := enum_ints hd
    have : is.length - n.toNat ≠ 0 := by omega
    exact ⟨⟨i, x, e, by omega⟩, by omega⟩

theorem sc_is_number : FnScope ["thing"] ["thing"] (defScope (topS 5)) := ⟨rfl, rfl, rfl, by decide +kernel, rfl, by decide +kernel, by decide +kernel⟩
theorem ff_is_number {K : PySem.W.Frag} {w : World} {mg : Str → Option Value} (M : Mod K w mg) : FnFact K mg fi_is_number := ⟨_, _, _, M.h_is_number, sc_is_number, rfl, rfl, by decide +kernel, rfl, rfl⟩
theorem sc_is_from : FnScope ["thing", "least"] ["thing", "least"] (defScope (topS 6)) := ⟨rfl, rfl, rfl, by decide +kernel, rfl, by decide +kernel, by decide +kernel⟩
theorem ff_is_from {K : PySem.W.Frag} {w : World} {mg : Str → Option Value} (M : Mod K w mg) : FnFact K mg fi_is_from := ⟨_, _, _, M.h_is_from, sc_is_from, rfl, rfl, by decide +kernel, rfl, rfl⟩
theorem sc_is_long : FnScope ["thing", "length"] ["thing", "length"] (defScope (topS 7)) := ⟨rfl, rfl, rfl, by decide +kernel, rfl, by decide +kernel, by decide +kernel⟩
theorem ff_is_long {K : PySem.W.Frag} {w : World} {mg : Str → Option Value} (M : Mod K w mg) : FnFact K mg fi_is_long := ⟨_, _, _, M.h_is_long, sc_is_long, rfl, rfl, by decide +kernel, rfl, rfl⟩
theorem sc_tupled : FnScope ["value", "own"] ["value"] (defScope (topS 8)) := ⟨rfl, rfl, rfl, by decide +kernel, rfl, by decide +kernel, by decide +kernel⟩
theorem ff_tupled {K : PySem.W.Frag} {w : World} {mg : Str → Option Value} (M : Mod K w mg) : FnFact K mg fi_tupled := ⟨_, _, _, M.h_tupled, sc_tupled, rfl, rfl, by decide +kernel, rfl, rfl⟩
theorem sc_sure_number : FnScope ["value"] ["value"] (defScope (topS 9)) := ⟨rfl, rfl, rfl, by decide +kernel, rfl, by decide +kernel, by decide +kernel⟩
theorem ff_sure_number {K : PySem.W.Frag} {w : World} {mg : Str → Option Value} (M : Mod K w mg) : FnFact K mg fi_sure_number := ⟨_, _, _, M.h_sure_number, sc_sure_number, rfl, rfl, by decide +kernel, rfl, rfl⟩
theorem sc_sure_from : FnScope ["value", "least"] ["value", "least"] (defScope (topS 10)) := ⟨rfl, rfl, rfl, by decide +kernel, rfl, by decide +kernel, by decide +kernel⟩
theorem ff_sure_from {K : PySem.W.Frag} {w : World} {mg : Str → Option Value} (M : Mod K w mg) : FnFact K mg fi_sure_from := ⟨_, _, _, M.h_sure_from, sc_sure_from, rfl, rfl, by decide +kernel, rfl, rfl⟩
theorem sc_is_route : FnScope ["thing", "letter"] ["thing"] (defScope (topS 17)) := ⟨rfl, rfl, rfl, by decide +kernel, rfl, by decide +kernel, by decide +kernel⟩
theorem ff_is_route {K : PySem.W.Frag} {w : World} {mg : Str → Option Value} (M : Mod K w mg) : FnFact K mg fi_is_route := ⟨_, _, _, M.h_is_route, sc_is_route, rfl, rfl, by decide +kernel, rfl, rfl⟩
theorem sc_sure_route : FnScope ["value"] ["value"] (defScope (topS 18)) := ⟨rfl, rfl, rfl, by decide +kernel, rfl, by decide +kernel, by decide +kernel⟩
theorem ff_sure_route {K : PySem.W.Frag} {w : World} {mg : Str → Option Value} (M : Mod K w mg) : FnFact K mg fi_sure_route := ⟨_, _, _, M.h_sure_route, sc_sure_route, rfl, rfl, by decide +kernel, rfl, rfl⟩
theorem sc_turned_letter : FnScope ["letter", "quarters"] ["letter", "quarters"] (defScope (topS 19)) := ⟨rfl, rfl, rfl, by decide +kernel, rfl, by decide +kernel, by decide +kernel⟩
theorem ff_turned_letter {K : PySem.W.Frag} {w : World} {mg : Str → Option Value} (M : Mod K w mg) : FnFact K mg fi_turned_letter := ⟨_, _, _, M.h_turned_letter, sc_turned_letter, rfl, rfl, by decide +kernel, rfl, rfl⟩
theorem sc_turned_in : FnScope ["route", "quarters", "letter"] ["route", "quarters"] (defScope (topS 20)) := ⟨rfl, rfl, rfl, by decide +kernel, rfl, by decide +kernel, by decide +kernel⟩
theorem ff_turned_in {K : PySem.W.Frag} {w : World} {mg : Str → Option Value} (M : Mod K w mg) : FnFact K mg fi_turned_in := ⟨_, _, _, M.h_turned_in, sc_turned_in, rfl, rfl, by decide +kernel, rfl, rfl⟩
theorem sc_turned_route : FnScope ["route", "quarters", "own", "many"] ["route", "quarters"] (defScope (topS 21)) := ⟨rfl, rfl, rfl, by decide +kernel, rfl, by decide +kernel, by decide +kernel⟩
theorem ff_turned_route {K : PySem.W.Frag} {w : World} {mg : Str → Option Value} (M : Mod K w mg) : FnFact K mg fi_turned_route := ⟨_, _, _, M.h_turned_route, sc_turned_route, rfl, rfl, by decide +kernel, rfl, rfl⟩
theorem sc_mirrored_route : FnScope ["route", "letter"] ["route"] (defScope (topS 22)) := ⟨rfl, rfl, rfl, by decide +kernel, rfl, by decide +kernel, by decide +kernel⟩
theorem ff_mirrored_route {K : PySem.W.Frag} {w : World} {mg : Str → Option Value} (M : Mod K w mg) : FnFact K mg fi_mirrored_route := ⟨_, _, _, M.h_mirrored_route, sc_mirrored_route, rfl, rfl, by decide +kernel, rfl, rfl⟩
theorem sc_back_in : FnScope ["route"] ["route"] (defScope (topS 23)) := ⟨rfl, rfl, rfl, by decide +kernel, rfl, by decide +kernel, by decide +kernel⟩
theorem ff_back_in {K : PySem.W.Frag} {w : World} {mg : Str → Option Value} (M : Mod K w mg) : FnFact K mg fi_back_in := ⟨_, _, _, M.h_back_in, sc_back_in, rfl, rfl, by decide +kernel, rfl, rfl⟩
theorem sc_walked_back : FnScope ["route"] ["route"] (defScope (topS 24)) := ⟨rfl, rfl, rfl, by decide +kernel, rfl, by decide +kernel, by decide +kernel⟩
theorem ff_walked_back {K : PySem.W.Frag} {w : World} {mg : Str → Option Value} (M : Mod K w mg) : FnFact K mg fi_walked_back := ⟨_, _, _, M.h_walked_back, sc_walked_back, rfl, rfl, by decide +kernel, rfl, rfl⟩
theorem sc_read_back : FnScope ["route"] ["route"] (defScope (topS 25)) := ⟨rfl, rfl, rfl, by decide +kernel, rfl, by decide +kernel, by decide +kernel⟩
theorem ff_read_back {K : PySem.W.Frag} {w : World} {mg : Str → Option Value} (M : Mod K w mg) : FnFact K mg fi_read_back := ⟨_, _, _, M.h_read_back, sc_read_back, rfl, rfl, by decide +kernel, rfl, rfl⟩
theorem sc_deed_in : FnScope ["route", "x", "y", "area", "letter", "wide", "high"] ["route"] (defScope (topS 26)) := ⟨rfl, rfl, rfl, by decide +kernel, rfl, by decide +kernel, by decide +kernel⟩
theorem ff_deed_in {K : PySem.W.Frag} {w : World} {mg : Str → Option Value} (M : Mod K w mg) : FnFact K mg fi_deed_in := ⟨_, _, _, M.h_deed_in, sc_deed_in, rfl, rfl, by decide +kernel, rfl, rfl⟩
theorem sc_deed_of : FnScope ["route"] ["route"] (defScope (topS 27)) := ⟨rfl, rfl, rfl, by decide +kernel, rfl, by decide +kernel, by decide +kernel⟩
theorem ff_deed_of {K : PySem.W.Frag} {w : World} {mg : Str → Option Value} (M : Mod K w mg) : FnFact K mg fi_deed_of := ⟨_, _, _, M.h_deed_of, sc_deed_of, rfl, rfl, by decide +kernel, rfl, rfl⟩
theorem sc_corners_of : FnScope ["route", "found", "letter"] ["route"] (defScope (topS 28)) := ⟨rfl, rfl, rfl, by decide +kernel, rfl, by decide +kernel, by decide +kernel⟩
theorem ff_corners_of {K : PySem.W.Frag} {w : World} {mg : Str → Option Value} (M : Mod K w mg) : FnFact K mg fi_corners_of := ⟨_, _, _, M.h_corners_of, sc_corners_of, rfl, rfl, by decide +kernel, rfl, rfl⟩
theorem sc_is_closed : FnScope ["route"] ["route"] (defScope (topS 29)) := ⟨rfl, rfl, rfl, by decide +kernel, rfl, by decide +kernel, by decide +kernel⟩
theorem ff_is_closed {K : PySem.W.Frag} {w : World} {mg : Str → Option Value} (M : Mod K w mg) : FnFact K mg fi_is_closed := ⟨_, _, _, M.h_is_closed, sc_is_closed, rfl, rfl, by decide +kernel, rfl, rfl⟩
theorem sc_area_inside : FnScope ["route", "x", "y", "area"] ["route"] (defScope (topS 30)) := ⟨rfl, rfl, rfl, by decide +kernel, rfl, by decide +kernel, by decide +kernel⟩
theorem ff_area_inside {K : PySem.W.Frag} {w : World} {mg : Str → Option Value} (M : Mod K w mg) : FnFact K mg fi_area_inside := ⟨_, _, _, M.h_area_inside, sc_area_inside, rfl, rfl, by decide +kernel, rfl, rfl⟩
theorem sc_squares_beside : FnScope ["route", "x", "found", "letter"] ["route"] (defScope (topS 31)) := ⟨rfl, rfl, rfl, by decide +kernel, rfl, by decide +kernel, by decide +kernel⟩
theorem ff_squares_beside {K : PySem.W.Frag} {w : World} {mg : Str → Option Value} (M : Mod K w mg) : FnFact K mg fi_squares_beside := ⟨_, _, _, M.h_squares_beside, sc_squares_beside, rfl, rfl, by decide +kernel, rfl, rfl⟩
theorem sc_bare_in : FnScope ["route", "found", "letter"] ["route"] (defScope (topS 32)) := ⟨rfl, rfl, rfl, by decide +kernel, rfl, by decide +kernel, by decide +kernel⟩
theorem ff_bare_in {K : PySem.W.Frag} {w : World} {mg : Str → Option Value} (M : Mod K w mg) : FnFact K mg fi_bare_in := ⟨_, _, _, M.h_bare_in, sc_bare_in, rfl, rfl, by decide +kernel, rfl, rfl⟩
theorem sc_bare : FnScope ["route"] ["route"] (defScope (topS 33)) := ⟨rfl, rfl, rfl, by decide +kernel, rfl, by decide +kernel, by decide +kernel⟩
theorem ff_bare {K : PySem.W.Frag} {w : World} {mg : Str → Option Value} (M : Mod K w mg) : FnFact K mg fi_bare := ⟨_, _, _, M.h_bare, sc_bare, rfl, rfl, by decide +kernel, rfl, rfl⟩
theorem sc_are_runs : FnScope ["thing", "own", "one", "other"] ["thing"] (defScope (topS 34)) := ⟨rfl, rfl, rfl, by decide +kernel, rfl, by decide +kernel, by decide +kernel⟩
theorem ff_are_runs {K : PySem.W.Frag} {w : World} {mg : Str → Option Value} (M : Mod K w mg) : FnFact K mg fi_are_runs := ⟨_, _, _, M.h_are_runs, sc_are_runs, rfl, rfl, by decide +kernel, rfl, rfl⟩
theorem sc_sure_runs : FnScope ["value", "own"] ["value"] (defScope (topS 35)) := ⟨rfl, rfl, rfl, by decide +kernel, rfl, by decide +kernel, by decide +kernel⟩
theorem ff_sure_runs {K : PySem.W.Frag} {w : World} {mg : Str → Option Value} (M : Mod K w mg) : FnFact K mg fi_sure_runs := ⟨_, _, _, M.h_sure_runs, sc_sure_runs, rfl, rfl, by decide +kernel, rfl, rfl⟩
theorem sc_run_together : FnScope ["rows", "found", "letter", "many"] ["rows"] (defScope (topS 36)) := ⟨rfl, rfl, rfl, by decide +kernel, rfl, by decide +kernel, by decide +kernel⟩
theorem ff_run_together {K : PySem.W.Frag} {w : World} {mg : Str → Option Value} (M : Mod K w mg) : FnFact K mg fi_run_together := ⟨_, _, _, M.h_run_together, sc_run_together, rfl, rfl, by decide +kernel, rfl, rfl⟩
theorem sc_runs_of : FnScope ["route", "found", "letter"] ["route"] (defScope (topS 37)) := ⟨rfl, rfl, rfl, by decide +kernel, rfl, by decide +kernel, by decide +kernel⟩
theorem ff_runs_of {K : PySem.W.Frag} {w : World} {mg : Str → Option Value} (M : Mod K w mg) : FnFact K mg fi_runs_of := ⟨_, _, _, M.h_runs_of, sc_runs_of, rfl, rfl, by decide +kernel, rfl, rfl⟩
theorem sc_route_of : FnScope ["runs", "own", "_", "many", "letter"] ["runs"] (defScope (topS 38)) := ⟨rfl, rfl, rfl, by decide +kernel, rfl, by decide +kernel, by decide +kernel⟩
theorem ff_route_of {K : PySem.W.Frag} {w : World} {mg : Str → Option Value} (M : Mod K w mg) : FnFact K mg fi_route_of := ⟨_, _, _, M.h_route_of, sc_route_of, rfl, rfl, by decide +kernel, rfl, rfl⟩
theorem sc_deed_by_runs : FnScope ["runs", "x", "y", "area", "letter", "many", "wide", "high"] ["runs"] (defScope (topS 39)) := ⟨rfl, rfl, rfl, by decide +kernel, rfl, by decide +kernel, by decide +kernel⟩
theorem ff_deed_by_runs {K : PySem.W.Frag} {w : World} {mg : Str → Option Value} (M : Mod K w mg) : FnFact K mg fi_deed_by_runs := ⟨_, _, _, M.h_deed_by_runs, sc_deed_by_runs, rfl, rfl, by decide +kernel, rfl, rfl⟩
theorem sc_deed_of_runs : FnScope ["runs"] ["runs"] (defScope (topS 40)) := ⟨rfl, rfl, rfl, by decide +kernel, rfl, by decide +kernel, by decide +kernel⟩
theorem ff_deed_of_runs {K : PySem.W.Frag} {w : World} {mg : Str → Option Value} (M : Mod K w mg) : FnFact K mg fi_deed_of_runs := ⟨_, _, _, M.h_deed_of_runs, sc_deed_of_runs, rfl, rfl, by decide +kernel, rfl, rfl⟩
theorem sc_length_of : FnScope ["runs", "_", "many"] ["runs"] (defScope (topS 41)) := ⟨rfl, rfl, rfl, by decide +kernel, rfl, by decide +kernel, by decide +kernel⟩
theorem ff_length_of {K : PySem.W.Frag} {w : World} {mg : Str → Option Value} (M : Mod K w mg) : FnFact K mg fi_length_of := ⟨_, _, _, M.h_length_of, sc_length_of, rfl, rfl, by decide +kernel, rfl, rfl⟩
theorem sc_runs_back : FnScope ["runs", "letter", "many"] ["runs"] (defScope (topS 42)) := ⟨rfl, rfl, rfl, by decide +kernel, rfl, by decide +kernel, by decide +kernel⟩
theorem ff_runs_back {K : PySem.W.Frag} {w : World} {mg : Str → Option Value} (M : Mod K w mg) : FnFact K mg fi_runs_back := ⟨_, _, _, M.h_runs_back, sc_runs_back, rfl, rfl, by decide +kernel, rfl, rfl⟩
theorem sc_runs_joined : FnScope ["one", "other", "near", "far", "found"] ["one", "other"] (defScope (topS 43)) := ⟨rfl, rfl, rfl, by decide +kernel, rfl, by decide +kernel, by decide +kernel⟩
theorem ff_runs_joined {K : PySem.W.Frag} {w : World} {mg : Str → Option Value} (M : Mod K w mg) : FnFact K mg fi_runs_joined := ⟨_, _, _, M.h_runs_joined, sc_runs_joined, rfl, rfl, by decide +kernel, rfl, rfl⟩
theorem sc_step_after : FnScope ["runs", "place", "number", "own", "left", "found", "letter", "many"] ["runs", "place"] (defScope (topS 44)) := ⟨rfl, rfl, rfl, by decide +kernel, rfl, by decide +kernel, by decide +kernel⟩
theorem ff_step_after {K : PySem.W.Frag} {w : World} {mg : Str → Option Value} (M : Mod K w mg) : FnFact K mg fi_step_after := ⟨_, _, _, M.h_step_after, sc_step_after, rfl, rfl, by decide +kernel, rfl, rfl⟩
theorem sc__law_same : FnScope ["got", "due", "mine", "its"] ["got", "due"] (defScope (topS 50)) := ⟨rfl, rfl, rfl, by decide +kernel, rfl, by decide +kernel, by decide +kernel⟩
theorem ff__law_same {K : PySem.W.Frag} {w : World} {mg : Str → Option Value} (M : Mod K w mg) : FnFact K mg fi__law_same := ⟨_, _, _, M.h__law_same, sc__law_same, rfl, rfl, by decide +kernel, rfl, rfl⟩
theorem sc__law_asked : FnScope ["k", "bits"] ["k", "bits"] (defScope (topS 51)) := ⟨rfl, rfl, rfl, by decide +kernel, rfl, by decide +kernel, by decide +kernel⟩
theorem ff__law_asked {K : PySem.W.Frag} {w : World} {mg : Str → Option Value} (M : Mod K w mg) : FnFact K mg fi__law_asked := ⟨_, _, _, M.h__law_asked, sc__law_asked, rfl, rfl, by decide +kernel, rfl, rfl⟩
theorem globs {w : World} {K : PySem.W.Frag} {mg : Str → Option Value} (M : Mod K w mg) {n : Nat} : GlobOk (tabX.T n) w K mg := ⟨M.nob, (gv_cons M.gl_LETTERS (gv_cons M.gl_MOST_LETTERS (gv_cons M.gl_MOST_RUNS gv_nil))), (gd_cons (steps_d M.gl_STEPS) (gd_cons (mir_d M.gl_MIRRORED) gd_nil)), (kw_cons M.kw_0 (kw_cons M.kw_1 (kw_cons M.kw_2 (kw_cons M.kw_3 (kw_cons M.kw_4 (kw_cons M.kw_5 (kw_cons M.kw_6 (kw_cons M.kw_7 (kw_cons M.kw_8 (kw_cons M.kw_9 (kw_cons M.kw_10 (kw_cons M.kw_11 (kw_cons M.kw_12 (kw_cons M.kw_13 (kw_cons M.kw_14 (kw_cons M.kw_15 (kw_cons M.kw_16 (kw_cons M.kw_17 (kw_cons M.kw_18 kw_nil)))))))))))))))))))⟩
theorem fis_ok {w : World} {K : PySem.W.Frag} {mg : Str → Option Value} (M : Mod K w mg) : ∀ fi, fi ∈ fisX → FnFact K mg fi := (List.forall_mem_cons.mpr ⟨ff_is_number M, (List.forall_mem_cons.mpr ⟨ff_is_from M, (List.forall_mem_cons.mpr ⟨ff_is_long M, (List.forall_mem_cons.mpr ⟨ff_tupled M, (List.forall_mem_cons.mpr ⟨ff_sure_number M, (List.forall_mem_cons.mpr ⟨ff_sure_from M, (List.forall_mem_cons.mpr ⟨ff_is_route M, (List.forall_mem_cons.mpr ⟨ff_sure_route M, (List.forall_mem_cons.mpr ⟨ff_turned_letter M, (List.forall_mem_cons.mpr ⟨ff_turned_in M, (List.forall_mem_cons.mpr ⟨ff_turned_route M, (List.forall_mem_cons.mpr ⟨ff_mirrored_route M, (List.forall_mem_cons.mpr ⟨ff_back_in M, (List.forall_mem_cons.mpr ⟨ff_walked_back M, (List.forall_mem_cons.mpr ⟨ff_read_back M, (List.forall_mem_cons.mpr ⟨ff_deed_in M, (List.forall_mem_cons.mpr ⟨ff_deed_of M, (List.forall_mem_cons.mpr ⟨ff_corners_of M, (List.forall_mem_cons.mpr ⟨ff_is_closed M, (List.forall_mem_cons.mpr ⟨ff_area_inside M, (List.forall_mem_cons.mpr ⟨ff_squares_beside M, (List.forall_mem_cons.mpr ⟨ff_bare_in M, (List.forall_mem_cons.mpr ⟨ff_bare M, (List.forall_mem_cons.mpr ⟨ff_are_runs M, (List.forall_mem_cons.mpr ⟨ff_sure_runs M, (List.forall_mem_cons.mpr ⟨ff_run_together M, (List.forall_mem_cons.mpr ⟨ff_runs_of M, (List.forall_mem_cons.mpr ⟨ff_route_of M, (List.forall_mem_cons.mpr ⟨ff_deed_by_runs M, (List.forall_mem_cons.mpr ⟨ff_deed_of_runs M, (List.forall_mem_cons.mpr ⟨ff_length_of M, (List.forall_mem_cons.mpr ⟨ff_runs_back M, (List.forall_mem_cons.mpr ⟨ff_runs_joined M, (List.forall_mem_cons.mpr ⟨ff_step_after M, (List.forall_mem_cons.mpr ⟨ff__law_same M, (List.forall_mem_cons.mpr ⟨ff__law_asked M, (fun _ h => nomatch h)⟩)⟩)⟩)⟩)⟩)⟩)⟩)⟩)⟩)⟩)⟩)⟩)⟩)⟩)⟩)⟩)⟩)⟩)⟩)⟩)⟩)⟩)⟩)⟩)⟩)⟩)⟩)⟩)⟩)⟩)⟩)⟩)⟩)⟩)⟩)⟩)
def tb__law_caught : List (Str × Nat) := [("k", 0), ("bits", 1), ("told_so", 2), ("error", 3)]
def nm__law_caught : List (Str × NameKind) := [("k", .local), ("bits", .local), ("told_so", .local), ("error", .local), ("_law_asked", .globalImplicit), ("Unfit", .globalImplicit), ("isinstance", .globalImplicit), ("ValueError", .globalImplicit), ("CanNot", .globalImplicit), ("TooMany", .globalImplicit), ("LookupError", .globalImplicit)]
def fi__law_caught : FI := ⟨"_law_caught", 2, tb__law_caught, nm__law_caught, 4, defBody (topS 52)⟩
theorem sc__law_caught : FnScope ["k", "bits", "told_so", "error"] ["k", "bits"] (defScope (topS 52)) := ⟨rfl, rfl, rfl, by decide +kernel, rfl, by decide +kernel, by decide +kernel⟩
theorem sp_caught {P : Program} {w : World} {K : PySem.W.Frag} {mg : Str → Option Value} {base : Heap} {U C T : Addr} (M : Mod K w mg) (MX : Excs K mg U C T) : SpOk (clsOf U C T) tabX P w K mg base "_law_caught" 2 spCaught where
  has := ⟨_, _, M.h__law_caught, rfl⟩
  ok := fun n call F hcall => by
    have hc2 : ∀ ds d, call "_law_caught" ds = d → (∃ l, d = .ok (.lst l)) ∨ d = .bad := fun ds d h => by
      rw [hcall] at h
      split at h
      · exact caughtO_lst h
      · exact .inr h.symm
    refine ⟨fn_zero M.h__law_caught rfl fun ds S Φ q => ?_, ?_, fnR_zero M.h__law_caught rfl fun ds S Φ q => ?_⟩
    · obtain ⟨d, h1, h2, _⟩ := q
      rcases hc2 _ _ h1 with ⟨l, e⟩ | e
      · cases e
        cases h2
      · cases e
    · refine (M.h__law_caught).fnNS (tb := tb__law_caught) sc__law_caught rfl (names := nm__law_caught) rfl (by decide +kernel) fun X A hs hf ds S Φ hl h => ?_
      obtain ⟨l, hd, hS, q⟩ := h
      match ds, hl with
      | [d0, d1], _ =>
        have GG : GlobOk (tabX.T n) w K mg := globs M
        rw [hcall] at hd
        replace hd : caughtO ((tabX.T n).call "_law_asked" [d0, d1]) = .ok (.lst l) := hd
        change DSs X (defBody (topS 52)) [some d0, some d1, none, none] S _
        refine ds_cons (vCell (i := 2) A ⟨by decide +kernel, by decide +kernel⟩ (swaps_no rfl) (dn_lst rfl (da_cons (de_str (da_nil ?_)) (star_no rfl))))
        intro c0
        have hS2 : FlatS (S ++ [(c0, [D.str "told"])]) := fun p l' m => by
          rcases List.mem_append.mp m with m | m
          · exact hS p l' m
          · cases List.mem_singleton.mp m
            rfl
        refine ds_cons (ds_caught (it := 2) (ie := 3) (o := (tabX.T n).call "_law_asked" [d0, d1]) (η := [some d0, some d1, none, none]) A F (Nat.le_refl n) GG MX rfl rfl rfl hs hf ⟨by decide +kernel, by decide +kernel⟩ ⟨by decide +kernel, by decide +kernel⟩ (by decide) ⟨by decide +kernel, by decide +kernel⟩ ⟨by decide +kernel⟩ ⟨by decide +kernel⟩ ⟨by decide +kernel⟩ ⟨by decide +kernel⟩ ⟨by decide +kernel⟩ ⟨by decide +kernel⟩ (Nat.le_of_ble_eq_true rfl) (Nat.le_of_ble_eq_true rfl) (swaps_no rfl) (by kernel_rfl) ⟨fun i d h => ?_, Nat.le_of_ble_eq_true rfl⟩ hS2 ?_)
        · match i, h with
          | 0, h => exact h
          | 1, h => exact h
          | 2, h => cases h
          | 3, h => cases h
          | i + 4, h => cases h
        · cases ho : (tabX.T n).call "_law_asked" [d0, d1] with
          | bad =>
            rw [ho] at hd
            cases hd
          | ok d =>
            rw [ho] at hd
            cases hd
            refine ds_one (ds_ret (vName A (i := 2) ⟨by decide +kernel, by decide +kernel⟩ ⟨.cell c0, rfl, ?_⟩))
            exact RetC.cell rfl (List.mem_singleton.mpr rfl) q
          | ex cc =>
            rw [ho] at hd
            unfold caughtO at hd
            cases ht : tagOf cc with
            | none =>
              simp only [ht] at hd
              cases hd
            | some t =>
              simp only [ht] at hd
              cases hd
              refine ⟨t, ht, fun c1 => ?_⟩
              refine ds_one (ds_ret (vName A (i := 2) ⟨by decide +kernel, by decide +kernel⟩ ⟨.cell c1, rfl, ?_⟩))
              show RetC S Φ (.cell c1) ((S ++ [(c0, _)]) ++ [(c1, _)])
              rw [List.append_assoc]
              exact RetC.cell rfl (List.mem_append_right _ (List.mem_singleton.mpr rfl)) q
    · obtain ⟨cc, aa, h1, _⟩ := q
      rcases hc2 _ _ h1 with ⟨l, e⟩ | e <;> cases e

theorem calls_ok {P : Program} {w : World} {K : PySem.W.Frag} {mg : Str → Option Value} {base : Heap} {U C T : Addr} (M : Mod K w mg) (MX : Excs K mg U C T) : ∀ n, CallOk (clsOf U C T) (tabX.T n) P w K mg base n := tab_ok (fis_ok M) (fun x np g h => by
  obtain ⟨rfl, rfl, rfl⟩ := sps_one h
  exact sp_caught M MX) (globs M) (clss_of MX)
end Ar
namespace Ar
open PySem PySem.Spec PyProof.Rows L2


local macro_rules | `(tactic| walk_at "dnat") => `(tactic| first | assumption | omega | exact Nat.le_of_ble_eq_true rfl)
local macro_rules | `(tactic| walk_at "dk2") => `(tactic| first
  | ((with_reducible apply cTake_i); (with_reducible assumption); (walk_at "dnat"); (walk_at "dnat"); (walk_at "bd"))
  | ((with_reducible apply cWhole_i); (with_reducible assumption); (walk_at "dnat"); (walk_at "dnat"); (walk_at "bd"))
  | ((with_reducible apply cDeed_i); (with_reducible assumption); (walk_at "dnat"); (walk_at "dnat"); (walk_at "bd"))
  | ((with_reducible refine cRoute2_i ?_ ?_ ?_ ?_ ?_); (assumption); (walk_at "dnat"); (assumption); (walk_at "dnat"))
  | ((with_reducible refine cRoute_i ?_ ?_ ?_); (assumption); (walk_at "dnat"))
  | ((with_reducible refine cSureDeeds_i _ ?_ ?_); (walk_at "dnat"))
  | refine ⟨_, ⟨_, List.mem_cons_self, rfl⟩, ?_⟩)

local macro_rules | `(tactic| walk_at "bd") => `(tactic| focus ((with_reducible apply Bd.fit); (repeat' (first | with_reducible assumption | with_reducible apply Bd.add | with_reducible apply Bd.sub | with_reducible apply Bd.mul | with_reducible apply Bd.neg | with_reducible apply Bd.ediv | with_reducible apply Bd.emod | decide | exact Bd.lit (n := 64) rfl | exact Bd.lit (n := 300) rfl)); (all_goals (exact rfl))))
local macro_rules | `(tactic| walk_at "dok") => `(tactic| first | exact trivial | assumption | exact rfl)
local macro_rules | `(tactic| walk_at "dm") => `(tactic| first | (exact Bd.okL (Bd.lit rfl)) | (exact Bd.okR (Bd.lit rfl)) | (exact Bd.okR (by with_reducible assumption)) | (refine Bd.ok (n := 60000000) (m := 60000000) ?_ ?_ rfl <;> walk_at "bd"))
local macro_rules | `(tactic| walk_at "dty") => `(tactic| first | with_reducible exact tyInt | with_reducible exact tyBool | with_reducible exact tyStr | with_reducible exact tyTuple | with_reducible exact tyList)
local macro_rules | `(tactic| walk_at "dk") => `(tactic| first
  | ((with_reducible refine cIsNumber_i ?_ ?_); (walk_at "dok"))
  | ((with_reducible refine cIsLong_i ?_ ?_); (walk_at "dok"))
  | ((with_reducible refine cTupled_i ?_ ?_); (walk_at "dok"))
  | ((with_reducible refine cPlain1_i ?_ ?_); (walk_at "dok"))
  | ((with_reducible refine cRowOf_i ?_ ?_); (walk_at "dok"))
  | ((with_reducible refine cSureDeed_i  ?_))
  | ((with_reducible refine cSureNumber_i  ?_))
  | ((with_reducible refine cD1_i ?_ ?_ ?_ ?_); (walk_at "bd"); (walk_at "bd"); (walk_at "bd"))
  | ((with_reducible refine cD2_i ?_ ?_ ?_ ?_ ?_ ?_ ?_); (walk_at "bd"); (walk_at "bd"); (walk_at "bd"); (walk_at "bd"); (walk_at "bd"); (walk_at "bd"))
  | ((with_reducible refine cDI_i ?_ ?_ ?_ ?_ ?_); (walk_at "bd"); (walk_at "bd"); (walk_at "bd"); (walk_at "bd"))
  | ((with_reducible refine cI1_i ?_ ?_); (walk_at "bd"))
  | walk_at "dk2")
local macro_rules | `(tactic| walk_at "dlen") => `(tactic| first | with_reducible assumption | ((first | (with_reducible refine le_line6 ?_) | (with_reducible refine lt_line6 ?_)); (focus ((try simp only [List.length_map, List.length_append, List.length_cons, List.length_nil, rangeD_len]); (first | done | omega)))))
local macro_rules | `(tactic| walk_at "dnorm") => `(tactic| ((try dsimp only [wipeR, List.map, List.set]); (try exact rfl)))
local macro_rules | `(tactic| walk_at "dS") => `(tactic| ((fail_if_success (with_reducible refine asg_list ?_)); first
  | with_reducible refine ds_retCN ?_
  | with_reducible refine ds_ret ?_
  | ((with_reducible refine vPar3 (by assumption) (by assumption) (by assumption) (by assumption) ?_ ?_ ?_ ?_); (decide +kernel); (exact rfl); (exact ⟨rfl, rfl, rfl⟩))
  | ((with_reducible refine vPar (by assumption) (by assumption) (by assumption) ?_ ?_ ?_ ?_); (decide +kernel); (exact rfl); (exact rfl))
  | ((with_reducible refine vAsgF ?_ ?_ ?_ ?_); (decide +kernel); (exact rfl); (exact rfl))
  | ((with_reducible refine vAsgC (by assumption) ?_ ?_ ?_ ?_); (decide +kernel); (exact rfl); (exact rfl))
  | ((with_reducible refine vSet (by assumption) (by assumption) ?_ ?_); (exact rfl))
  | ((with_reducible refine ds_store ?_ ?_ ?_ ?_ ?_); (exact rfl); (exact rfl); (exact rfl); (exact fun _ => rfl))
  | ((with_reducible refine ds_asg ?_ ?_ ?_ ?_); (exact rfl); (exact rfl); (exact rfl))
  | (with_reducible refine ds_if ?_)
  | ((with_reducible refine vAug (by assumption) (by assumption) ?_); (refine ⟨_, rfl, ?_⟩))
  | ((with_reducible refine ds_expr ?_ ?_); (exact rfl))))
local macro_rules | `(tactic| walk_at "dG") => `(tactic| first
  | ((with_reducible refine vG (by assumption) (by assumption) ?_ ?_); (exact rfl))
  | ((with_reducible refine dg_tup (n := _) (by assumption) rfl ?_ ?_); (exact rfl); (refine ⟨_, rfl, rfl, ?_⟩)))
local macro_rules | `(tactic| walk_at "dC") => `(tactic| first
  | ((with_reducible refine vIsi (by assumption) (by assumption) (by walk_at "dty") (by assumption) (by assumption) ?_ ?_); (exact rfl))
  | ((with_reducible refine vIsi2 (by assumption) (by assumption) (by walk_at "dty") (by walk_at "dty") (by assumption) (by assumption) (by assumption) ?_ ?_); (exact rfl))
  | ((with_reducible refine vCall (by assumption) (by assumption) (by assumption) ?_ ?_ ?_ ?_); (exact rfl); (exact rfl); (exact rfl))
  | ((with_reducible refine de_append ?_ ?_ ?_ ?_ ?_); (exact rfl); (exact rfl); (exact rfl); (exact rfl))
  | ((with_reducible refine de_extend ?_ ?_ ?_ ?_ ?_); (exact rfl); (exact rfl); (exact rfl); (exact rfl))
  | ((with_reducible refine de_join ?_ ?_ ?_ ?_); (exact rfl); (exact rfl); (exact rfl))
  | ((with_reducible refine de_sindex ?_ ?_ ?_ ?_); (exact rfl); (exact rfl); (exact rfl))
  | ((with_reducible refine de_len (by assumption) (by assumption) (Glo.g (by assumption)) ?_ ?_); (exact rfl))
  | ((with_reducible refine de_abs (by assumption) (by assumption) (Glo.g (by assumption)) ?_ ?_); (exact rfl))
  | ((with_reducible refine de_intI (by assumption) (by assumption) (Glo.g (by assumption)) ?_ ?_); (exact rfl))
  | ((with_reducible refine de_tupleOf (by assumption) (by assumption) (Glo.g (by assumption)) ?_ ?_); (exact rfl))
  | ((with_reducible refine de_all (by assumption) (by assumption) (Glo.g (by assumption)) ?_ ?_); (exact rfl))
  | ((with_reducible refine de_any (by assumption) (by assumption) (Glo.g (by assumption)) ?_ ?_); (exact rfl)))
local macro_rules | `(tactic| walk_at "dE") => `(tactic| first
  | ((with_reducible refine vName (by assumption) (by assumption) ?_); (refine ⟨_, rfl, ?_⟩))
  | ((with_reducible refine de_glob (by assumption) (by assumption) (Glo.g (by assumption)) ?_))
  | (with_reducible refine de_int ?_)
  | ((with_reducible refine de_callId ?_); walk_at "dC")
  | (with_reducible refine de_bin ?_)
  | ((with_reducible refine de_cmp ?_ ?_); (exact rfl))
  | (with_reducible refine de_revS ?_)
  | (with_reducible refine de_slLo ?_)
  | (with_reducible refine de_slHi ?_)
  | (with_reducible refine de_slLH ?_)
  | ((with_reducible refine de_kd (by assumption) (by assumption) (Glo.g (by assumption)) ?_ ?_); (exact fun _ _ => rfl))
  | ((with_reducible refine de_ix ?_ ?_); (exact fun _ _ => rfl))
  | ((with_reducible refine de_tup ?_ ?_); (exact rfl))
  | (with_reducible refine de_neg ?_)
  | (with_reducible refine de_if ?_)
  | (with_reducible refine de_bl ?_)
  | (with_reducible refine de_str ?_)
  | (with_reducible refine de_non ?_)
  | (with_reducible refine de_not ?_)
  | (with_reducible refine de_and ?_)
  | (with_reducible refine de_or ?_)
  | (with_reducible refine de_bool1 ?_)
  | ((with_reducible refine de_lst ?_ ?_); (exact rfl)))
local macro_rules | `(tactic| walk_at "dT") => `(tactic| first
  | (with_reducible refine dt_bool ?_)
  | (with_reducible refine dt_not ?_)
  | ((with_reducible refine dt_cmp ?_ ?_); (exact rfl))
  | ((with_reducible refine dt_truth ?_ ?_); (exact fun _ => rfl)))
local macro_rules | `(tactic| walk_at "dW") => `(tactic| first
  | (with_reducible refine dw_and ?_)
  | (with_reducible refine dw_or ?_)
  | (with_reducible refine dw_and1 ?_)
  | (with_reducible refine dw_or1 ?_))
local macro_rules | `(tactic| walk_at "dO") => `(tactic| first
  | with_reducible refine do_add ?_
  | with_reducible refine do_sub ?_
  | ((with_reducible refine do_cat ?_ ?_); (exact sz rfl))
  | ((with_reducible refine do_mulX ?_ ?_); (walk_at "dm"))
  | ((with_reducible refine do_fdiv ?_ ?_); (exact Bd.div (by decide) (Bd.lit (n := 9000) rfl) rfl))
  | ((with_reducible refine do_fdiv ?_ ?_); (exact Bd.div (by assumption) (by assumption) rfl))
  | ((with_reducible refine do_mod ?_ ?_); (first | (exact (by decide)) | assumption | omega))
  | with_reducible refine do_p8 ?_
  | with_reducible refine do_p18 ?_
  | with_reducible refine do_p7 ?_
  | with_reducible refine do_p20 ?_
  | with_reducible refine do_p29 ?_
  | with_reducible refine do_eqI ?_
  | with_reducible refine do_neI ?_
  | with_reducible refine do_lt ?_
  | with_reducible refine do_le ?_
  | with_reducible refine do_gt ?_
  | with_reducible refine do_ge ?_
  | with_reducible refine do_isN ?_
  | with_reducible refine do_notN ?_
  | with_reducible refine do_inS ?_
  | with_reducible refine do_eqB ?_
  | with_reducible refine do_neB ?_
  | with_reducible refine do_eqS ?_
  | with_reducible refine do_neS ?_
  | with_reducible refine do_eqT3 (by assumption) ?_
  | with_reducible refine do_neNil (by assumption) ?_
  | with_reducible refine do_iadd ?_
  | with_reducible refine do_isub ?_)
local macro_rules | `(tactic| walk_at "dw") => `(tactic| first
  | ((with_reducible refine de_id ?_); walk_at "dE")
  | ((with_reducible refine do_id ?_); walk_at "dO")
  | ((with_reducible refine da_cons ?_ ?_); rotate_left; (exact rfl))
  | ((with_reducible refine dn_lst ?_ ?_); (exact rfl))
  | (with_reducible refine da_nil ?_)
  | ((with_reducible refine ds_id ?_); walk_at "dS")
  | with_reducible refine ds_cons ?_
  | with_reducible refine ds_nil ?_
  | with_reducible refine ds_one ?_
  | ((with_reducible refine dt_id ?_); walk_at "dT")
  | ((with_reducible refine dw_id ?_); walk_at "dW")
  | ((with_reducible refine dg_id ?_); walk_at "dG")
  | ((with_reducible refine dgs_cons ?_ ?_); (exact rfl))
  | (with_reducible refine dgs_nil ?_)
  | with_reducible refine nx_mk ?_
  | with_reducible refine rt_mk ?_
  | ((with_reducible apply nx_norm); (walk_at "dnorm"))
  | ((with_reducible apply nxG_norm); (walk_at "dnorm"))
  | with_reducible refine RetP.same ?_
  | ((with_reducible refine RetP.here ?_ ?_); (exact rfl))
  | ((with_reducible refine vRange1 (by assumption) (by assumption) (by assumption) ?_ ?_); (exact rfl))
  | ((with_reducible refine rng_and ?_ ?_); (exact ⟨by omega, by omega⟩))
  | ((with_reducible refine len_and ?_ ?_); (walk_at "dlen"))
  | ((with_reducible refine le_and ?_ ?_); (walk_at "dlen"))
  | ((with_reducible refine okc_and ?_ ?_); (walk_at "dok"))
  | ((with_reducible refine ite_t ?_ ?_); (exact rfl))
  | ((with_reducible refine ite_f ?_ ?_); (exact rfl))
  | ((with_reducible refine ite_t ?_ ?_); (with_reducible assumption))
  | ((with_reducible refine ite_f ?_ ?_); (with_reducible assumption))
  | walk_at "dk"
  | refine ⟨_, rfl, ?_⟩
  | refine ⟨_, _, rfl, rfl, ?_⟩
  | refine ⟨_, _, rfl, ⟨by with_reducible assumption, rfl⟩, ?_⟩
  | refine ⟨_, _, rfl, ?_⟩
  | refine ⟨_, _, _, rfl, ?_⟩
  | refine ⟨_, ⟨sz rfl, _, rfl, rfl⟩, ?_⟩
  | refine ⟨_, ⟨sz rfl, rfl⟩, ?_⟩
  | refine .inl ⟨_, rfl, ?_⟩
  | refine .inr ⟨_, rfl, ?_⟩
  | refine ⟨_, _, _, _, rfl, rfl, ?_⟩)

theorem sc_law : FnScope ["script", "tin", "unfit_so", "cannot_so", "many_so", "route_so", "runs_so", "number_so", "got", "word_so", "long_so", "rows_so", "due", "k"] ["script"] (defScope (topS 53)) := ⟨rfl, rfl, rfl, by decide +kernel, rfl, by decide +kernel, by decide +kernel⟩
section
variable {P : Program} {w : World} {K : PySem.W.Frag} {mg : Str → Option Value} {base : Heap}
theorem fn_ok {tb : List (Str × Nat)} {x qual : Str} {st : Stmt} {f : Addr} {fd : FuncData} {N ps : List Str} {k : Nat} {n : Nat} {names : List (Str × NameKind)} {B : Spec} (F : Fun K x qual st f fd) (Sc : FnScope N ps (defScope st)) (hn : ps.length = n) (hnm : (defScope st).names = names) (ht : tbOk N tb = true)
    (body : ∀ X, At X P w K mg base tb names k → ∀ ds S Φ, ds.length = n → B ds S Φ → DSs X (defBody st) (ds.map some ++ List.replicate (N.length - ds.length) none) S { nx := fun _ S' => RetP S Φ .non S', rt := RetP S Φ }) : FnOk P w K mg base CX0 (k + 1) f fd ps (spOf K n B) := by
  refine F.ok Sc (fun vs H Q E h => by rw [h.1, hn]) (fun cdv A outer s H vs Q E hr h => ?_)
  obtain ⟨hl, Zh, ds, S, Φ, hS, hR, hB, hP⟩ := h
  have hat := at_def (P := P) (w := w) (K := K) (mg := mg) (base := base) (qual := qual) (f := f) (cd := cdv) (A := A) (outer := outer) (s := s) (H := H) (E := E) (tbOk_of ht) (tbOk_cov ht) Sc hr
  rw [hnm] at hat
  have b := body _ hat ds S Φ (by rw [← hR.length]; exact hl) hB
  refine ⟨_, pss_w, b.tw (ev_start hS hR) ?_⟩
  have fin : ∀ v H' d S', Step S H S' H' → Store K Zh H' S' → Rep K (keys S' ++ Zh) H' d v → RetP S Φ d S' → Q v H' := fun v H' d S' t s' r q => by
    have sub : ∀ {S2 R : Sto}, keys S2 = keys S → ∀ p, p ∈ keys S ++ Zh → p ∈ keys (S2 ++ R) ++ Zh := fun {S2 R} h p m => by
      rw [keys_append, h]
      rcases List.mem_append.mp m with z | z
      · exact List.mem_append_left _ (List.mem_append_left _ z)
      · exact List.mem_append_right _ z
    cases q with
    | mk h q =>
      rename_i S2 R
      exact hP v H' d S2 h t.1 s'.drop (r.shrink (sub h)) q
    | cell h m q =>
      rename_i p l S2 R
      obtain ⟨vs, h1, h2⟩ := s'.st p l (List.mem_append_right _ m)
      refine hP v H' (.lst l) S2 h t.1 s'.drop ?_ q
      rw [r.cell]
      unfold Rep
      refine ⟨p, vs, rfl, fun n => ?_, h1, h2.shrink (sub h)⟩
      have pk : p ∈ keys (S2 ++ R) := by
        rw [keys_append]
        exact List.mem_append_right _ (List.mem_map.mpr ⟨_, m, rfl⟩)
      rcases List.mem_append.mp n with z | z
      · have nd := s'.nd
        rw [keys_append, List.nodup_append] at nd
        exact nd.2.2 p (by rw [h]; exact z) p (List.mem_map.mpr ⟨_, m, rfl⟩) rfl
      · exact (s'.hid p z).1 pk
  exact ⟨fun σ' H' ρ' S' t ev q => fin .non H' .non S' t ev.st rep_non q, fin, fun _ _ _ _ _ _ q => q.elim, fun _ _ _ _ _ _ q => q.elim⟩
end

theorem blen : bodyX.length = 26 := by decide +kernel
theorem body_eq : defBody (topS 53) = bodyX := rfl
theorem first0 {X : Cx} {P : Program} {w : World} {K : PySem.W.Frag} {mg : Str → Option Value} {base : Heap} {E : DEnds} {is : List Int} (M : Mod K w mg) (A : At X P w K mg base tb_law nm_law 22) (hlen : is.length ≤ 63) (q : ∀ c lt0, Tin 0 lt0 → DSs X (bodyX.drop 1) [some (.frz (is.map D.int)), some (.cell c), none, none, none, none, none, none, none, none, none, none, none, none] [(c, lt0)] E) : DSs X bodyX [some (.frz (is.map D.int)), none, none, none, none, none, none, none, none, none, none, none, none, none] [] E := by
  have d__law_box := ok__law_box (P := P) (w := w) (base := base) M
  have d__law_cells := ok__law_cells (P := P) (w := w) (base := base) M
  have G := M.nob
  have v_script := A.var "script" 0 (by decide +kernel)
  have v_tin := A.var "tin" 1 (by decide +kernel)
  have s_tin := A.stv "tin" 1 (by decide +kernel)
  have g__law_box := A.glo "_law_box" (by decide +kernel)
  have g__law_cells := A.glo "_law_cells" (by decide +kernel)
  change DSs X (bodyX.drop 0) [some (.frz (is.map D.int)), none, none, none, none, none, none, none, none, none, none, none, none, none] [] _
  refine ds_drop (body := bodyX) (d := .Pass ⟨0, 0, 0, 0⟩) (by rw [blen]; decide) ?_
  refine vCell A (by assumption) ?_ ?_
  exact rfl
  refine vNCall A d__law_box (by assumption) rfl rfl rfl ?_
  repeat walk_at "dw"
  refine ⟨by decide, by decide, hlen, fun js hj => ?_⟩
  repeat walk_at "dw"
  refine ⟨by decide, by decide, by omega, fun lt0 ht0 => ?_⟩
  intro c
  rw [List.nil_append]
  exact q c lt0 ht0
section
variable {cls : Cls} {X : Cx} {P : Program} {w : World} {K : PySem.W.Frag} {mg : Str → Option Value} {base : Heap} {ρ : Ro} {η η' : En} {c : Addr} {lt : List D} {b : Nat} {E : DEnds}
theorem stepP {us : List (Nat × D)} (j j2 : Nat) {body : List Stmt} (hb0 : body = bodyX) (hj : Nat.blt j 26 = true) (e2 : j + 1 = j2) (B : LB cls X TX P w K mg base tb_law nm_law 22) (ht : Tin b lt) (h : LSt 1 c η ρ) (wk : Wk η' η) (he : evX j η' = .ok (.nx us)) (q : ∀ ρ1, (∀ η2, LSt 1 c η2 ρ → LSt 1 c (updE us η2) ρ1) → DSs X (body.drop j2) ρ1 [(c, lt)] E) : DSs X (body.drop j) ρ [(c, lt)] E := by
  subst e2 hb0
  exact ds_drop (body := bodyX) (by rw [blen]; exact Nat.le_of_ble_eq_true hj) (p_step B (Tin.flat ht) (h.weak wk) he q)
theorem stepR {d : D} (j : Nat) {body : List Stmt} (hb0 : body = bodyX) (hj : Nat.blt j 26 = true) (B : LB cls X TX P w K mg base tb_law nm_law 22) (ht : Tin b lt) (h : LSt 1 c η ρ) (wk : Wk η' η) (he : evX j η' = .ok (.rt d)) (q : E.rt d [(c, lt)]) : DSs X (body.drop j) ρ [(c, lt)] E := by
  subst hb0
  exact ds_drop (body := bodyX) (by rw [blen]; exact Nat.le_of_ble_eq_true hj) (r_step B (Tin.flat ht) (h.weak wk) he q)
theorem stepD {us : List (List (Nat × D))} (j j2 : Nat) {body : List Stmt} (hb0 : body = bodyX) (hj : Nat.blt j 26 = true) (e2 : j + 1 = j2) (B : LB cls X TX P w K mg base tb_law nm_law 22) (hF : Fn P w K mg base "_law_of" 2 2 cOf) (hF2 : Fn P w K mg base "_law_take" 2 1 cTake) (hb : b ≤ 1000) (ht : Tin b lt) (h : LSt 1 c η ρ) (wk : Wk η' η) (he : drX j η' = .ok us) (q : ∀ u, u ∈ us → ∀ ρ1 lt', Tin (b + 1) lt' → (∀ η2, LSt 1 c η2 ρ → LSt 1 c (updE u η2) ρ1) → DSs X (body.drop j2) ρ1 [(c, lt')] E) : DSs X (body.drop j) ρ [(c, lt)] E := by
  subst e2 hb0
  exact ds_drop (body := bodyX) (by rw [blen]; exact Nat.le_of_ble_eq_true hj) (draw_ok B hF (Nat.le_of_ble_eq_true rfl) hF2 (Nat.le_of_ble_eq_true rfl) ht hb (Tin.flat ht) (h.weak wk) he q)
theorem stepK {i : Nat} {n : Int} (j j2 : Nat) {body : List Stmt} (hb0 : body = bodyX) (hj : Nat.blt j 26 = true) (e2 : j + 1 = j2) (B : LB cls X TX P w K mg base tb_law nm_law 22) (hF : Fn P w K mg base "_law_take" 2 1 cTake) (hb : b ≤ 1000) (ht : Tin b lt) (h : LSt 1 c η ρ) (he : tkX j = .ok (i, n)) (q : ∀ r ρ1 lt', 0 ≤ r → r < n → Tin (b + 1) lt' → (∀ η2, LSt 1 c η2 ρ → LSt 1 c (updE [(i, .int r)] η2) ρ1) → DSs X (body.drop j2) ρ1 [(c, lt')] E) : DSs X (body.drop j) ρ [(c, lt)] E := by
  subst e2 hb0
  exact ds_drop (body := bodyX) (by rw [blen]; exact Nat.le_of_ble_eq_true hj) (take_ok B.A hF (Nat.le_of_ble_eq_true rfl) ht hb h he q)
end
theorem ok_law {P : Program} {w : World} {K : PySem.W.Frag} {mg : Str → Option Value} {base : Heap} {f : Addr} {fd : FuncData} (M : Mod K w mg) (F : Fun K "law" "law" (topS 53) f fd) : FnOk P w K mg base CX0 23 f fd ["script"] (spOf K 1 cLaw) := by
  have d__law_box := ok__law_box (P := P) (w := w) (base := base) M
  have d__law_cells := ok__law_cells (P := P) (w := w) (base := base) M
  have d__law_take := ok__law_take (P := P) (w := w) (base := base) M
  have d__law_of := ok__law_of (P := P) (w := w) (base := base) M
  obtain ⟨U, C, T, MX⟩ := M.excs
  refine fn_ok (n := 1) (B := cLaw) (tb := tb_law) F sc_law rfl (names := nm_law) rfl (by decide +kernel) fun X A ds S Φ hl h => ?_
  have G := M.nob
  have FF : CallOk (clsOf U C T) TX P w K mg base 22 := calls_ok M MX 22
  have GG : GlobOk TX w K mg := globs M
  have B : LB (clsOf U C T) X TX P w K mg base tb_law nm_law 22 := ⟨A, good_evs FF (Nat.le_refl _) GG 40, GG, FF⟩
  obtain ⟨is, rfl, hlen, rfl, h⟩ := h
  rw [body_eq]
  refine first0 M A hlen fun c lt0 ht0 => ?_
  obtain ⟨body, hb0⟩ : ∃ b, b = bodyX := ⟨_, rfl⟩
  rw [← hb0]
  have h0 : LSt 1 c [none, none, none, none, none, none, none, none, none, none, none, none, none, none] [some (.frz (is.map D.int)), some (.cell c), none, none, none, none, none, none, none, none, none, none, none, none] := lst_none (n := 14) (Nat.le_of_ble_eq_true rfl) rfl
  refine stepP 1 2 hb0 rfl rfl B ht0 h0 (.s (.s (.s (.s (.s (.s (.s (.s (.s (.s (.s (.s (.s (.s (.e))))))))))))))) st_1 fun ρ1 k1 => ?_
  have h1 : LSt 1 c [none, none, some (.lst [.str "unfit", .bl true, .bl false]), some (.lst [.str "cannot", .bl true, .bl false]), some (.lst [.str "many", .bl true, .bl false]), none, none, none, none, none, none, none, none, none] ρ1 := k1 _ h0
  refine stepD 2 3 hb0 rfl rfl B d__law_of d__law_take (by decide) ht0 h1 (.s (.s (.n (.n (.n (.s (.s (.s (.s (.s (.s (.s (.s (.s (.e))))))))))))))) st_2 fun us2 hus2 ρ2 lt2 ht2 k2 => ?_
  obtain ⟨c_route_so, hc_route_so, rfl⟩ := List.mem_map.mp hus2
  have h2 : LSt 1 c [none, none, some (.lst [.str "unfit", .bl true, .bl false]), some (.lst [.str "cannot", .bl true, .bl false]), some (.lst [.str "many", .bl true, .bl false]), some c_route_so, none, none, none, none, none, none, none, none] ρ2 := k2 _ h1
  refine stepD 3 4 hb0 rfl rfl B d__law_of d__law_take (by decide) ht2 h2 (.s (.s (.n (.n (.n (.n (.s (.s (.s (.s (.s (.s (.s (.s (.e))))))))))))))) st_3 fun us3 hus3 ρ3 lt3 ht3 k3 => ?_
  obtain ⟨c_runs_so, hc_runs_so, rfl⟩ := List.mem_map.mp hus3
  have h3 : LSt 1 c [none, none, some (.lst [.str "unfit", .bl true, .bl false]), some (.lst [.str "cannot", .bl true, .bl false]), some (.lst [.str "many", .bl true, .bl false]), some c_route_so, some c_runs_so, none, none, none, none, none, none, none] ρ3 := k3 _ h2
  refine stepD 4 5 hb0 rfl rfl B d__law_of d__law_take (by decide) ht3 h3 (.s (.s (.n (.n (.n (.n (.n (.s (.s (.s (.s (.s (.s (.s (.e))))))))))))))) st_4 fun us4 hus4 ρ4 lt4 ht4 k4 => ?_
  obtain ⟨c_number_so, hc_number_so, rfl⟩ := List.mem_map.mp hus4
  have h4 : LSt 1 c [none, none, some (.lst [.str "unfit", .bl true, .bl false]), some (.lst [.str "cannot", .bl true, .bl false]), some (.lst [.str "many", .bl true, .bl false]), some c_route_so, some c_runs_so, some c_number_so, none, none, none, none, none, none] ρ4 := k4 _ h3
  refine stepP 5 6 hb0 rfl rfl B ht4 h4 (.s (.s (.n (.n (.n (.s (.s (.n (.s (.s (.s (.s (.s (.s (.e))))))))))))))) (st_5 hc_route_so hc_runs_so) fun ρ5 k5 => ?_
  have h5 : LSt 1 c [none, none, some (.lst [.str "unfit", .bl true, .bl false]), some (.lst [.str "cannot", .bl true, .bl false]), some (.lst [.str "many", .bl true, .bl false]), some c_route_so, some c_runs_so, some c_number_so, some got_5, none, none, none, none, none] ρ5 := k5 _ h4
  refine stepP 6 7 hb0 rfl rfl B ht4 h5 (.s (.s (.n (.n (.n (.n (.s (.n (.s (.s (.s (.s (.s (.s (.e))))))))))))))) (st_6 hc_runs_so) fun ρ6 k6 => ?_
  have h6 : LSt 1 c [none, none, some (.lst [.str "unfit", .bl true, .bl false]), some (.lst [.str "cannot", .bl true, .bl false]), some (.lst [.str "many", .bl true, .bl false]), some c_route_so, some c_runs_so, some c_number_so, some got_6, none, none, none, none, none] ρ6 := k6 _ h5
  refine stepP 7 8 hb0 rfl rfl B ht4 h6 (.s (.s (.n (.n (.n (.n (.n (.s (.s (.s (.s (.s (.s (.s (.e))))))))))))))) (st_7 hc_number_so) fun ρ7 k7 => ?_
  have h7 : LSt 1 c [none, none, some (.lst [.str "unfit", .bl true, .bl false]), some (.lst [.str "cannot", .bl true, .bl false]), some (.lst [.str "many", .bl true, .bl false]), some c_route_so, some c_runs_so, some c_number_so, some got_7, none, none, none, none, none] ρ7 := k7 _ h6
  refine stepP 8 9 hb0 rfl rfl B ht4 h7 (.s (.s (.s (.n (.n (.n (.n (.n (.s (.s (.s (.s (.s (.s (.e))))))))))))))) st_8 fun ρ8 k8 => ?_
  have h8 : LSt 1 c [none, none, some (.lst [.str "unfit", .bl true, .bl false]), some (.lst [.str "cannot", .bl true, .bl false]), some (.lst [.str "many", .bl true, .bl false]), some c_route_so, some c_runs_so, some c_number_so, some got_7, none, none, none, none, none] ρ8 := k8 _ h7
  refine stepP 9 10 hb0 rfl rfl B ht4 h8 (.s (.s (.n (.n (.n (.s (.s (.n (.n (.s (.s (.s (.s (.s (.e))))))))))))))) (st_9 hc_route_so hc_runs_so) fun ρ9 k9 => ?_
  have h9 : LSt 1 c [none, none, some (.lst [.str "unfit", .bl true, .bl false]), some (.lst [.str "cannot", .bl true, .bl false]), some (.lst [.str "many", .bl true, .bl false]), some c_route_so, some c_runs_so, some c_number_so, some got_7, none, none, none, none, none] ρ9 := k9 _ h8
  refine stepD 10 11 hb0 rfl rfl B d__law_of d__law_take (by decide) ht4 h9 (.s (.s (.n (.n (.n (.n (.n (.n (.n (.s (.s (.s (.s (.s (.e))))))))))))))) st_10 fun us10 hus10 ρ10 lt10 ht10 k10 => ?_
  obtain ⟨c_word_so, hc_word_so, rfl⟩ := List.mem_map.mp hus10
  have h10 : LSt 1 c [none, none, some (.lst [.str "unfit", .bl true, .bl false]), some (.lst [.str "cannot", .bl true, .bl false]), some (.lst [.str "many", .bl true, .bl false]), some c_route_so, some c_runs_so, some c_number_so, some got_7, some c_word_so, none, none, none, none] ρ10 := k10 _ h9
  refine stepD 11 12 hb0 rfl rfl B d__law_of d__law_take (by decide) ht10 h10 (.s (.s (.n (.n (.n (.n (.n (.n (.s (.s (.s (.s (.s (.s (.e))))))))))))))) (st_11 hc_word_so) fun us11 hus11 ρ11 lt11 ht11 k11 => ?_
  obtain rfl := List.mem_singleton.mp hus11
  have h11 : LSt 1 c [none, none, some (.lst [.str "unfit", .bl true, .bl false]), some (.lst [.str "cannot", .bl true, .bl false]), some (.lst [.str "many", .bl true, .bl false]), some c_route_so, some c_runs_so, some c_number_so, some got_11, some c_word_so, none, none, none, none] ρ11 := k11 _ h10
  refine stepP 12 13 hb0 rfl rfl B ht11 h11 (.s (.s (.n (.s (.n (.n (.n (.n (.s (.n (.s (.s (.s (.s (.e))))))))))))))) st_12 fun ρ12 k12 => ?_
  have h12 : LSt 1 c [none, none, some (.lst [.str "unfit", .bl true, .bl false]), some (.lst [.str "cannot", .bl true, .bl false]), some (.lst [.str "many", .bl true, .bl false]), some c_route_so, some c_runs_so, some c_number_so, some got_11, some c_word_so, none, none, none, none] ρ12 := k12 _ h11
  refine stepD 13 14 hb0 rfl rfl B d__law_of d__law_take (by decide) ht11 h12 (.s (.s (.n (.n (.n (.n (.n (.n (.n (.n (.s (.s (.s (.s (.e))))))))))))))) st_13 fun us13 hus13 ρ13 lt13 ht13 k13 => ?_
  obtain ⟨c_long_so, hc_long_so, rfl⟩ := List.mem_map.mp hus13
  have h13 : LSt 1 c [none, none, some (.lst [.str "unfit", .bl true, .bl false]), some (.lst [.str "cannot", .bl true, .bl false]), some (.lst [.str "many", .bl true, .bl false]), some c_route_so, some c_runs_so, some c_number_so, some got_11, some c_word_so, some c_long_so, some (.tup [.tup [.str "r", .int 1], .tup [.str "u", .int 1], .tup [.str "r", .int 1], .tup [.str "u", .int 1], .tup [.str "r", .int 1], .tup [.str "u", .int 1], .tup [.str "r", .int 1], .tup [.str "u", .int 1], .tup [.str "r", .int 1], .tup [.str "u", .int 1], .tup [.str "r", .int 1], .tup [.str "u", .int 1], .tup [.str "r", .int 1], .tup [.str "u", .int 1], .tup [.str "r", .int 1], .tup [.str "u", .int 1], .tup [.str "r", .int 1], .tup [.str "u", .int 1], .tup [.str "r", .int 1], .tup [.str "u", .int 1], .tup [.str "r", .int 1], .tup [.str "u", .int 1], .tup [.str "r", .int 1], .tup [.str "u", .int 1], .tup [.str "r", .int 1], .tup [.str "u", .int 1], .tup [.str "r", .int 1], .tup [.str "u", .int 1], .tup [.str "r", .int 1], .tup [.str "u", .int 1], .tup [.str "r", .int 1], .tup [.str "u", .int 1], .tup [.str "r", .int 1], .tup [.str "u", .int 1], .tup [.str "r", .int 1], .tup [.str "u", .int 1], .tup [.str "r", .int 1], .tup [.str "u", .int 1], .tup [.str "r", .int 1], .tup [.str "u", .int 1], .tup [.str "r", .int 1], .tup [.str "u", .int 1], .tup [.str "r", .int 1], .tup [.str "u", .int 1], .tup [.str "r", .int 1], .tup [.str "u", .int 1], .tup [.str "r", .int 1], .tup [.str "u", .int 1], .tup [.str "r", .int 1], .tup [.str "u", .int 1], .tup [.str "r", .int 1], .tup [.str "u", .int 1], .tup [.str "r", .int 1], .tup [.str "u", .int 1], .tup [.str "r", .int 1], .tup [.str "u", .int 1], .tup [.str "r", .int 1], .tup [.str "u", .int 1], .tup [.str "r", .int 1], .tup [.str "u", .int 1], .tup [.str "r", .int 1], .tup [.str "u", .int 1], .tup [.str "r", .int 1], .tup [.str "u", .int 1], .tup [.str "r", .int 1], .tup [.str "u", .int 1], .tup [.str "r", .int 1], .tup [.str "u", .int 1], .tup [.str "r", .int 1], .tup [.str "u", .int 1], .tup [.str "r", .int 1], .tup [.str "u", .int 1], .tup [.str "r", .int 1], .tup [.str "u", .int 1], .tup [.str "r", .int 1], .tup [.str "u", .int 1], .tup [.str "r", .int 1], .tup [.str "u", .int 1], .tup [.str "r", .int 1], .tup [.str "u", .int 1], .tup [.str "r", .int 1], .tup [.str "u", .int 1], .tup [.str "r", .int 1], .tup [.str "u", .int 1], .tup [.str "r", .int 1], .tup [.str "u", .int 1], .tup [.str "r", .int 1], .tup [.str "u", .int 1], .tup [.str "r", .int 1], .tup [.str "u", .int 1], .tup [.str "r", .int 1], .tup [.str "u", .int 1], .tup [.str "r", .int 1], .tup [.str "u", .int 1], .tup [.str "r", .int 1], .tup [.str "u", .int 1], .tup [.str "r", .int 1], .tup [.str "u", .int 1], .tup [.str "r", .int 1], .tup [.str "u", .int 1], .tup [.str "r", .int 1], .tup [.str "u", .int 1], .tup [.str "r", .int 1], .tup [.str "u", .int 1], .tup [.str "r", .int 1], .tup [.str "u", .int 1], .tup [.str "r", .int 1], .tup [.str "u", .int 1], .tup [.str "r", .int 1], .tup [.str "u", .int 1], .tup [.str "r", .int 1], .tup [.str "u", .int 1], .tup [.str "r", .int 1], .tup [.str "u", .int 1], .tup [.str "r", .int 1], .tup [.str "u", .int 1], .tup [.str "r", .int 1], .tup [.str "u", .int 1], .tup [.str "r", .int 1], .tup [.str "u", .int 1], .tup [.str "r", .int 1], .tup [.str "u", .int 1], .tup [.str "r", .int 1], .tup [.str "u", .int 1], .tup [.str "r", .int 1], .tup [.str "u", .int 1], .tup [.str "r", .int 1], .tup [.str "u", .int 1], .tup [.str "r", .int 1], .tup [.str "u", .int 1], .tup [.str "r", .int 1], .tup [.str "u", .int 1], .tup [.str "r", .int 1], .tup [.str "u", .int 1], .tup [.str "r", .int 1], .tup [.str "u", .int 1], .tup [.str "r", .int 1], .tup [.str "u", .int 1], .tup [.str "r", .int 1], .tup [.str "u", .int 1], .tup [.str "r", .int 1], .tup [.str "u", .int 1], .tup [.str "r", .int 1], .tup [.str "u", .int 1], .tup [.str "r", .int 1], .tup [.str "u", .int 1], .tup [.str "r", .int 1], .tup [.str "u", .int 1], .tup [.str "r", .int 1], .tup [.str "u", .int 1], .tup [.str "r", .int 1], .tup [.str "u", .int 1], .tup [.str "r", .int 1], .tup [.str "u", .int 1], .tup [.str "r", .int 1], .tup [.str "u", .int 1], .tup [.str "r", .int 1], .tup [.str "u", .int 1], .tup [.str "r", .int 1], .tup [.str "u", .int 1], .tup [.str "r", .int 1], .tup [.str "u", .int 1], .tup [.str "r", .int 1], .tup [.str "u", .int 1], .tup [.str "r", .int 1], .tup [.str "u", .int 1], .tup [.str "r", .int 1], .tup [.str "u", .int 1], .tup [.str "r", .int 1], .tup [.str "u", .int 1], .tup [.str "r", .int 1], .tup [.str "u", .int 1], .tup [.str "r", .int 1], .tup [.str "u", .int 1], .tup [.str "r", .int 1], .tup [.str "u", .int 1], .tup [.str "r", .int 1], .tup [.str "u", .int 1], .tup [.str "r", .int 1], .tup [.str "u", .int 1], .tup [.str "r", .int 1], .tup [.str "u", .int 1], .tup [.str "r", .int 1], .tup [.str "u", .int 1], .tup [.str "r", .int 1], .tup [.str "u", .int 1], .tup [.str "r", .int 1], .tup [.str "u", .int 1], .tup [.str "r", .int 1], .tup [.str "u", .int 1], .tup [.str "r", .int 1], .tup [.str "u", .int 1], .tup [.str "r", .int 1], .tup [.str "u", .int 1], .tup [.str "r", .int 1], .tup [.str "u", .int 1], .tup [.str "r", .int 1], .tup [.str "u", .int 1], .tup [.str "r", .int 1], .tup [.str "u", .int 1]]), none, none] ρ13 := k13 _ h12
  refine stepP 14 15 hb0 rfl rfl B ht13 h13 (.s (.s (.n (.n (.n (.n (.n (.n (.s (.n (.s (.s (.s (.s (.e))))))))))))))) (st_14 hc_long_so) fun ρ14 k14 => ?_
  have h14 : LSt 1 c [none, none, some (.lst [.str "unfit", .bl true, .bl false]), some (.lst [.str "cannot", .bl true, .bl false]), some (.lst [.str "many", .bl true, .bl false]), some c_route_so, some c_runs_so, some c_number_so, some got_14, some c_word_so, some c_long_so, some (.tup [.tup [.str "r", .int 1], .tup [.str "u", .int 1], .tup [.str "r", .int 1], .tup [.str "u", .int 1], .tup [.str "r", .int 1], .tup [.str "u", .int 1], .tup [.str "r", .int 1], .tup [.str "u", .int 1], .tup [.str "r", .int 1], .tup [.str "u", .int 1], .tup [.str "r", .int 1], .tup [.str "u", .int 1], .tup [.str "r", .int 1], .tup [.str "u", .int 1], .tup [.str "r", .int 1], .tup [.str "u", .int 1], .tup [.str "r", .int 1], .tup [.str "u", .int 1], .tup [.str "r", .int 1], .tup [.str "u", .int 1], .tup [.str "r", .int 1], .tup [.str "u", .int 1], .tup [.str "r", .int 1], .tup [.str "u", .int 1], .tup [.str "r", .int 1], .tup [.str "u", .int 1], .tup [.str "r", .int 1], .tup [.str "u", .int 1], .tup [.str "r", .int 1], .tup [.str "u", .int 1], .tup [.str "r", .int 1], .tup [.str "u", .int 1], .tup [.str "r", .int 1], .tup [.str "u", .int 1], .tup [.str "r", .int 1], .tup [.str "u", .int 1], .tup [.str "r", .int 1], .tup [.str "u", .int 1], .tup [.str "r", .int 1], .tup [.str "u", .int 1], .tup [.str "r", .int 1], .tup [.str "u", .int 1], .tup [.str "r", .int 1], .tup [.str "u", .int 1], .tup [.str "r", .int 1], .tup [.str "u", .int 1], .tup [.str "r", .int 1], .tup [.str "u", .int 1], .tup [.str "r", .int 1], .tup [.str "u", .int 1], .tup [.str "r", .int 1], .tup [.str "u", .int 1], .tup [.str "r", .int 1], .tup [.str "u", .int 1], .tup [.str "r", .int 1], .tup [.str "u", .int 1], .tup [.str "r", .int 1], .tup [.str "u", .int 1], .tup [.str "r", .int 1], .tup [.str "u", .int 1], .tup [.str "r", .int 1], .tup [.str "u", .int 1], .tup [.str "r", .int 1], .tup [.str "u", .int 1], .tup [.str "r", .int 1], .tup [.str "u", .int 1], .tup [.str "r", .int 1], .tup [.str "u", .int 1], .tup [.str "r", .int 1], .tup [.str "u", .int 1], .tup [.str "r", .int 1], .tup [.str "u", .int 1], .tup [.str "r", .int 1], .tup [.str "u", .int 1], .tup [.str "r", .int 1], .tup [.str "u", .int 1], .tup [.str "r", .int 1], .tup [.str "u", .int 1], .tup [.str "r", .int 1], .tup [.str "u", .int 1], .tup [.str "r", .int 1], .tup [.str "u", .int 1], .tup [.str "r", .int 1], .tup [.str "u", .int 1], .tup [.str "r", .int 1], .tup [.str "u", .int 1], .tup [.str "r", .int 1], .tup [.str "u", .int 1], .tup [.str "r", .int 1], .tup [.str "u", .int 1], .tup [.str "r", .int 1], .tup [.str "u", .int 1], .tup [.str "r", .int 1], .tup [.str "u", .int 1], .tup [.str "r", .int 1], .tup [.str "u", .int 1], .tup [.str "r", .int 1], .tup [.str "u", .int 1], .tup [.str "r", .int 1], .tup [.str "u", .int 1], .tup [.str "r", .int 1], .tup [.str "u", .int 1], .tup [.str "r", .int 1], .tup [.str "u", .int 1], .tup [.str "r", .int 1], .tup [.str "u", .int 1], .tup [.str "r", .int 1], .tup [.str "u", .int 1], .tup [.str "r", .int 1], .tup [.str "u", .int 1], .tup [.str "r", .int 1], .tup [.str "u", .int 1], .tup [.str "r", .int 1], .tup [.str "u", .int 1], .tup [.str "r", .int 1], .tup [.str "u", .int 1], .tup [.str "r", .int 1], .tup [.str "u", .int 1], .tup [.str "r", .int 1], .tup [.str "u", .int 1], .tup [.str "r", .int 1], .tup [.str "u", .int 1], .tup [.str "r", .int 1], .tup [.str "u", .int 1], .tup [.str "r", .int 1], .tup [.str "u", .int 1], .tup [.str "r", .int 1], .tup [.str "u", .int 1], .tup [.str "r", .int 1], .tup [.str "u", .int 1], .tup [.str "r", .int 1], .tup [.str "u", .int 1], .tup [.str "r", .int 1], .tup [.str "u", .int 1], .tup [.str "r", .int 1], .tup [.str "u", .int 1], .tup [.str "r", .int 1], .tup [.str "u", .int 1], .tup [.str "r", .int 1], .tup [.str "u", .int 1], .tup [.str "r", .int 1], .tup [.str "u", .int 1], .tup [.str "r", .int 1], .tup [.str "u", .int 1], .tup [.str "r", .int 1], .tup [.str "u", .int 1], .tup [.str "r", .int 1], .tup [.str "u", .int 1], .tup [.str "r", .int 1], .tup [.str "u", .int 1], .tup [.str "r", .int 1], .tup [.str "u", .int 1], .tup [.str "r", .int 1], .tup [.str "u", .int 1], .tup [.str "r", .int 1], .tup [.str "u", .int 1], .tup [.str "r", .int 1], .tup [.str "u", .int 1], .tup [.str "r", .int 1], .tup [.str "u", .int 1], .tup [.str "r", .int 1], .tup [.str "u", .int 1], .tup [.str "r", .int 1], .tup [.str "u", .int 1], .tup [.str "r", .int 1], .tup [.str "u", .int 1], .tup [.str "r", .int 1], .tup [.str "u", .int 1], .tup [.str "r", .int 1], .tup [.str "u", .int 1], .tup [.str "r", .int 1], .tup [.str "u", .int 1], .tup [.str "r", .int 1], .tup [.str "u", .int 1], .tup [.str "r", .int 1], .tup [.str "u", .int 1], .tup [.str "r", .int 1], .tup [.str "u", .int 1], .tup [.str "r", .int 1], .tup [.str "u", .int 1], .tup [.str "r", .int 1], .tup [.str "u", .int 1], .tup [.str "r", .int 1], .tup [.str "u", .int 1], .tup [.str "r", .int 1], .tup [.str "u", .int 1], .tup [.str "r", .int 1], .tup [.str "u", .int 1], .tup [.str "r", .int 1], .tup [.str "u", .int 1], .tup [.str "r", .int 1], .tup [.str "u", .int 1], .tup [.str "r", .int 1], .tup [.str "u", .int 1], .tup [.str "r", .int 1], .tup [.str "u", .int 1], .tup [.str "r", .int 1], .tup [.str "u", .int 1], .tup [.str "r", .int 1], .tup [.str "u", .int 1]]), none, none] ρ14 := k14 _ h13
  refine stepP 15 16 hb0 rfl rfl B ht13 h14 (.s (.s (.n (.n (.s (.n (.n (.n (.s (.n (.n (.n (.s (.s (.e))))))))))))))) st_15 fun ρ15 k15 => ?_
  have h15 : LSt 1 c [none, none, some (.lst [.str "unfit", .bl true, .bl false]), some (.lst [.str "cannot", .bl true, .bl false]), some (.lst [.str "many", .bl true, .bl false]), some c_route_so, some c_runs_so, some c_number_so, some got_14, some c_word_so, some c_long_so, some (.tup [.tup [.str "r", .int 1], .tup [.str "u", .int 1], .tup [.str "r", .int 1], .tup [.str "u", .int 1], .tup [.str "r", .int 1], .tup [.str "u", .int 1], .tup [.str "r", .int 1], .tup [.str "u", .int 1], .tup [.str "r", .int 1], .tup [.str "u", .int 1], .tup [.str "r", .int 1], .tup [.str "u", .int 1], .tup [.str "r", .int 1], .tup [.str "u", .int 1], .tup [.str "r", .int 1], .tup [.str "u", .int 1], .tup [.str "r", .int 1], .tup [.str "u", .int 1], .tup [.str "r", .int 1], .tup [.str "u", .int 1], .tup [.str "r", .int 1], .tup [.str "u", .int 1], .tup [.str "r", .int 1], .tup [.str "u", .int 1], .tup [.str "r", .int 1], .tup [.str "u", .int 1], .tup [.str "r", .int 1], .tup [.str "u", .int 1], .tup [.str "r", .int 1], .tup [.str "u", .int 1], .tup [.str "r", .int 1], .tup [.str "u", .int 1], .tup [.str "r", .int 1], .tup [.str "u", .int 1], .tup [.str "r", .int 1], .tup [.str "u", .int 1], .tup [.str "r", .int 1], .tup [.str "u", .int 1], .tup [.str "r", .int 1], .tup [.str "u", .int 1], .tup [.str "r", .int 1], .tup [.str "u", .int 1], .tup [.str "r", .int 1], .tup [.str "u", .int 1], .tup [.str "r", .int 1], .tup [.str "u", .int 1], .tup [.str "r", .int 1], .tup [.str "u", .int 1], .tup [.str "r", .int 1], .tup [.str "u", .int 1], .tup [.str "r", .int 1], .tup [.str "u", .int 1], .tup [.str "r", .int 1], .tup [.str "u", .int 1], .tup [.str "r", .int 1], .tup [.str "u", .int 1], .tup [.str "r", .int 1], .tup [.str "u", .int 1], .tup [.str "r", .int 1], .tup [.str "u", .int 1], .tup [.str "r", .int 1], .tup [.str "u", .int 1], .tup [.str "r", .int 1], .tup [.str "u", .int 1], .tup [.str "r", .int 1], .tup [.str "u", .int 1], .tup [.str "r", .int 1], .tup [.str "u", .int 1], .tup [.str "r", .int 1], .tup [.str "u", .int 1], .tup [.str "r", .int 1], .tup [.str "u", .int 1], .tup [.str "r", .int 1], .tup [.str "u", .int 1], .tup [.str "r", .int 1], .tup [.str "u", .int 1], .tup [.str "r", .int 1], .tup [.str "u", .int 1], .tup [.str "r", .int 1], .tup [.str "u", .int 1], .tup [.str "r", .int 1], .tup [.str "u", .int 1], .tup [.str "r", .int 1], .tup [.str "u", .int 1], .tup [.str "r", .int 1], .tup [.str "u", .int 1], .tup [.str "r", .int 1], .tup [.str "u", .int 1], .tup [.str "r", .int 1], .tup [.str "u", .int 1], .tup [.str "r", .int 1], .tup [.str "u", .int 1], .tup [.str "r", .int 1], .tup [.str "u", .int 1], .tup [.str "r", .int 1], .tup [.str "u", .int 1], .tup [.str "r", .int 1], .tup [.str "u", .int 1], .tup [.str "r", .int 1], .tup [.str "u", .int 1], .tup [.str "r", .int 1], .tup [.str "u", .int 1], .tup [.str "r", .int 1], .tup [.str "u", .int 1], .tup [.str "r", .int 1], .tup [.str "u", .int 1], .tup [.str "r", .int 1], .tup [.str "u", .int 1], .tup [.str "r", .int 1], .tup [.str "u", .int 1], .tup [.str "r", .int 1], .tup [.str "u", .int 1], .tup [.str "r", .int 1], .tup [.str "u", .int 1], .tup [.str "r", .int 1], .tup [.str "u", .int 1], .tup [.str "r", .int 1], .tup [.str "u", .int 1], .tup [.str "r", .int 1], .tup [.str "u", .int 1], .tup [.str "r", .int 1], .tup [.str "u", .int 1], .tup [.str "r", .int 1], .tup [.str "u", .int 1], .tup [.str "r", .int 1], .tup [.str "u", .int 1], .tup [.str "r", .int 1], .tup [.str "u", .int 1], .tup [.str "r", .int 1], .tup [.str "u", .int 1], .tup [.str "r", .int 1], .tup [.str "u", .int 1], .tup [.str "r", .int 1], .tup [.str "u", .int 1], .tup [.str "r", .int 1], .tup [.str "u", .int 1], .tup [.str "r", .int 1], .tup [.str "u", .int 1], .tup [.str "r", .int 1], .tup [.str "u", .int 1], .tup [.str "r", .int 1], .tup [.str "u", .int 1], .tup [.str "r", .int 1], .tup [.str "u", .int 1], .tup [.str "r", .int 1], .tup [.str "u", .int 1], .tup [.str "r", .int 1], .tup [.str "u", .int 1], .tup [.str "r", .int 1], .tup [.str "u", .int 1], .tup [.str "r", .int 1], .tup [.str "u", .int 1], .tup [.str "r", .int 1], .tup [.str "u", .int 1], .tup [.str "r", .int 1], .tup [.str "u", .int 1], .tup [.str "r", .int 1], .tup [.str "u", .int 1], .tup [.str "r", .int 1], .tup [.str "u", .int 1], .tup [.str "r", .int 1], .tup [.str "u", .int 1], .tup [.str "r", .int 1], .tup [.str "u", .int 1], .tup [.str "r", .int 1], .tup [.str "u", .int 1], .tup [.str "r", .int 1], .tup [.str "u", .int 1], .tup [.str "r", .int 1], .tup [.str "u", .int 1], .tup [.str "r", .int 1], .tup [.str "u", .int 1], .tup [.str "r", .int 1], .tup [.str "u", .int 1], .tup [.str "r", .int 1], .tup [.str "u", .int 1], .tup [.str "r", .int 1], .tup [.str "u", .int 1], .tup [.str "r", .int 1], .tup [.str "u", .int 1], .tup [.str "r", .int 1], .tup [.str "u", .int 1], .tup [.str "r", .int 1], .tup [.str "u", .int 1], .tup [.str "r", .int 1], .tup [.str "u", .int 1], .tup [.str "r", .int 1], .tup [.str "u", .int 1], .tup [.str "r", .int 1], .tup [.str "u", .int 1], .tup [.str "r", .int 1], .tup [.str "u", .int 1], .tup [.str "r", .int 1], .tup [.str "u", .int 1], .tup [.str "r", .int 1], .tup [.str "u", .int 1], .tup [.str "r", .int 1], .tup [.str "u", .int 1], .tup [.str "r", .int 1], .tup [.str "u", .int 1]]), none, none] ρ15 := k15 _ h14
  refine stepP 16 17 hb0 rfl rfl B ht13 h15 (.s (.s (.n (.n (.n (.n (.n (.n (.s (.n (.n (.s (.s (.s (.e))))))))))))))) st_16 fun ρ16 k16 => ?_
  have h16 : LSt 1 c [none, none, some (.lst [.str "unfit", .bl true, .bl false]), some (.lst [.str "cannot", .bl true, .bl false]), some (.lst [.str "many", .bl true, .bl false]), some c_route_so, some c_runs_so, some c_number_so, some got_16, some c_word_so, some c_long_so, some (.tup [.tup [.str "r", .int 1], .tup [.str "u", .int 1], .tup [.str "r", .int 1], .tup [.str "u", .int 1], .tup [.str "r", .int 1], .tup [.str "u", .int 1], .tup [.str "r", .int 1], .tup [.str "u", .int 1], .tup [.str "r", .int 1], .tup [.str "u", .int 1], .tup [.str "r", .int 1], .tup [.str "u", .int 1], .tup [.str "r", .int 1], .tup [.str "u", .int 1], .tup [.str "r", .int 1], .tup [.str "u", .int 1], .tup [.str "r", .int 1], .tup [.str "u", .int 1], .tup [.str "r", .int 1], .tup [.str "u", .int 1], .tup [.str "r", .int 1], .tup [.str "u", .int 1], .tup [.str "r", .int 1], .tup [.str "u", .int 1], .tup [.str "r", .int 1], .tup [.str "u", .int 1], .tup [.str "r", .int 1], .tup [.str "u", .int 1], .tup [.str "r", .int 1], .tup [.str "u", .int 1], .tup [.str "r", .int 1], .tup [.str "u", .int 1], .tup [.str "r", .int 1], .tup [.str "u", .int 1], .tup [.str "r", .int 1], .tup [.str "u", .int 1], .tup [.str "r", .int 1], .tup [.str "u", .int 1], .tup [.str "r", .int 1], .tup [.str "u", .int 1], .tup [.str "r", .int 1], .tup [.str "u", .int 1], .tup [.str "r", .int 1], .tup [.str "u", .int 1], .tup [.str "r", .int 1], .tup [.str "u", .int 1], .tup [.str "r", .int 1], .tup [.str "u", .int 1], .tup [.str "r", .int 1], .tup [.str "u", .int 1], .tup [.str "r", .int 1], .tup [.str "u", .int 1], .tup [.str "r", .int 1], .tup [.str "u", .int 1], .tup [.str "r", .int 1], .tup [.str "u", .int 1], .tup [.str "r", .int 1], .tup [.str "u", .int 1], .tup [.str "r", .int 1], .tup [.str "u", .int 1], .tup [.str "r", .int 1], .tup [.str "u", .int 1], .tup [.str "r", .int 1], .tup [.str "u", .int 1], .tup [.str "r", .int 1], .tup [.str "u", .int 1], .tup [.str "r", .int 1], .tup [.str "u", .int 1], .tup [.str "r", .int 1], .tup [.str "u", .int 1], .tup [.str "r", .int 1], .tup [.str "u", .int 1], .tup [.str "r", .int 1], .tup [.str "u", .int 1], .tup [.str "r", .int 1], .tup [.str "u", .int 1], .tup [.str "r", .int 1], .tup [.str "u", .int 1], .tup [.str "r", .int 1], .tup [.str "u", .int 1], .tup [.str "r", .int 1], .tup [.str "u", .int 1], .tup [.str "r", .int 1], .tup [.str "u", .int 1], .tup [.str "r", .int 1], .tup [.str "u", .int 1], .tup [.str "r", .int 1], .tup [.str "u", .int 1], .tup [.str "r", .int 1], .tup [.str "u", .int 1], .tup [.str "r", .int 1], .tup [.str "u", .int 1], .tup [.str "r", .int 1], .tup [.str "u", .int 1], .tup [.str "r", .int 1], .tup [.str "u", .int 1], .tup [.str "r", .int 1], .tup [.str "u", .int 1], .tup [.str "r", .int 1], .tup [.str "u", .int 1], .tup [.str "r", .int 1], .tup [.str "u", .int 1], .tup [.str "r", .int 1], .tup [.str "u", .int 1], .tup [.str "r", .int 1], .tup [.str "u", .int 1], .tup [.str "r", .int 1], .tup [.str "u", .int 1], .tup [.str "r", .int 1], .tup [.str "u", .int 1], .tup [.str "r", .int 1], .tup [.str "u", .int 1], .tup [.str "r", .int 1], .tup [.str "u", .int 1], .tup [.str "r", .int 1], .tup [.str "u", .int 1], .tup [.str "r", .int 1], .tup [.str "u", .int 1], .tup [.str "r", .int 1], .tup [.str "u", .int 1], .tup [.str "r", .int 1], .tup [.str "u", .int 1], .tup [.str "r", .int 1], .tup [.str "u", .int 1], .tup [.str "r", .int 1], .tup [.str "u", .int 1], .tup [.str "r", .int 1], .tup [.str "u", .int 1], .tup [.str "r", .int 1], .tup [.str "u", .int 1], .tup [.str "r", .int 1], .tup [.str "u", .int 1], .tup [.str "r", .int 1], .tup [.str "u", .int 1], .tup [.str "r", .int 1], .tup [.str "u", .int 1], .tup [.str "r", .int 1], .tup [.str "u", .int 1], .tup [.str "r", .int 1], .tup [.str "u", .int 1], .tup [.str "r", .int 1], .tup [.str "u", .int 1], .tup [.str "r", .int 1], .tup [.str "u", .int 1], .tup [.str "r", .int 1], .tup [.str "u", .int 1], .tup [.str "r", .int 1], .tup [.str "u", .int 1], .tup [.str "r", .int 1], .tup [.str "u", .int 1], .tup [.str "r", .int 1], .tup [.str "u", .int 1], .tup [.str "r", .int 1], .tup [.str "u", .int 1], .tup [.str "r", .int 1], .tup [.str "u", .int 1], .tup [.str "r", .int 1], .tup [.str "u", .int 1], .tup [.str "r", .int 1], .tup [.str "u", .int 1], .tup [.str "r", .int 1], .tup [.str "u", .int 1], .tup [.str "r", .int 1], .tup [.str "u", .int 1], .tup [.str "r", .int 1], .tup [.str "u", .int 1], .tup [.str "r", .int 1], .tup [.str "u", .int 1], .tup [.str "r", .int 1], .tup [.str "u", .int 1], .tup [.str "r", .int 1], .tup [.str "u", .int 1], .tup [.str "r", .int 1], .tup [.str "u", .int 1], .tup [.str "r", .int 1], .tup [.str "u", .int 1], .tup [.str "r", .int 1], .tup [.str "u", .int 1], .tup [.str "r", .int 1], .tup [.str "u", .int 1], .tup [.str "r", .int 1], .tup [.str "u", .int 1], .tup [.str "r", .int 1], .tup [.str "u", .int 1], .tup [.str "r", .int 1], .tup [.str "u", .int 1], .tup [.str "r", .int 1], .tup [.str "u", .int 1], .tup [.str "r", .int 1], .tup [.str "u", .int 1], .tup [.str "r", .int 1], .tup [.str "u", .int 1], .tup [.str "r", .int 1], .tup [.str "u", .int 1], .tup [.str "r", .int 1], .tup [.str "u", .int 1], .tup [.str "r", .int 1], .tup [.str "u", .int 1], .tup [.str "r", .int 1], .tup [.str "u", .int 1]]), none, none] ρ16 := k16 _ h15
  refine stepP 17 18 hb0 rfl rfl B ht13 h16 (.s (.s (.n (.n (.n (.n (.n (.n (.s (.n (.n (.n (.s (.s (.e))))))))))))))) st_17 fun ρ17 k17 => ?_
  have h17 : LSt 1 c [none, none, some (.lst [.str "unfit", .bl true, .bl false]), some (.lst [.str "cannot", .bl true, .bl false]), some (.lst [.str "many", .bl true, .bl false]), some c_route_so, some c_runs_so, some c_number_so, some got_16, some c_word_so, some c_long_so, some (.tup [.tup [.str "r", .int 1], .tup [.str "u", .int 1], .tup [.str "r", .int 1], .tup [.str "u", .int 1], .tup [.str "r", .int 1], .tup [.str "u", .int 1], .tup [.str "r", .int 1], .tup [.str "u", .int 1], .tup [.str "r", .int 1], .tup [.str "u", .int 1], .tup [.str "r", .int 1], .tup [.str "u", .int 1], .tup [.str "r", .int 1], .tup [.str "u", .int 1], .tup [.str "r", .int 1], .tup [.str "u", .int 1], .tup [.str "r", .int 1], .tup [.str "u", .int 1], .tup [.str "r", .int 1], .tup [.str "u", .int 1], .tup [.str "r", .int 1], .tup [.str "u", .int 1], .tup [.str "r", .int 1], .tup [.str "u", .int 1], .tup [.str "r", .int 1], .tup [.str "u", .int 1], .tup [.str "r", .int 1], .tup [.str "u", .int 1], .tup [.str "r", .int 1], .tup [.str "u", .int 1], .tup [.str "r", .int 1], .tup [.str "u", .int 1], .tup [.str "r", .int 1], .tup [.str "u", .int 1], .tup [.str "r", .int 1], .tup [.str "u", .int 1], .tup [.str "r", .int 1], .tup [.str "u", .int 1], .tup [.str "r", .int 1], .tup [.str "u", .int 1], .tup [.str "r", .int 1], .tup [.str "u", .int 1], .tup [.str "r", .int 1], .tup [.str "u", .int 1], .tup [.str "r", .int 1], .tup [.str "u", .int 1], .tup [.str "r", .int 1], .tup [.str "u", .int 1], .tup [.str "r", .int 1], .tup [.str "u", .int 1], .tup [.str "r", .int 1], .tup [.str "u", .int 1], .tup [.str "r", .int 1], .tup [.str "u", .int 1], .tup [.str "r", .int 1], .tup [.str "u", .int 1], .tup [.str "r", .int 1], .tup [.str "u", .int 1], .tup [.str "r", .int 1], .tup [.str "u", .int 1], .tup [.str "r", .int 1], .tup [.str "u", .int 1], .tup [.str "r", .int 1], .tup [.str "u", .int 1], .tup [.str "r", .int 1], .tup [.str "u", .int 1], .tup [.str "r", .int 1], .tup [.str "u", .int 1], .tup [.str "r", .int 1], .tup [.str "u", .int 1], .tup [.str "r", .int 1], .tup [.str "u", .int 1], .tup [.str "r", .int 1], .tup [.str "u", .int 1], .tup [.str "r", .int 1], .tup [.str "u", .int 1], .tup [.str "r", .int 1], .tup [.str "u", .int 1], .tup [.str "r", .int 1], .tup [.str "u", .int 1], .tup [.str "r", .int 1], .tup [.str "u", .int 1], .tup [.str "r", .int 1], .tup [.str "u", .int 1], .tup [.str "r", .int 1], .tup [.str "u", .int 1], .tup [.str "r", .int 1], .tup [.str "u", .int 1], .tup [.str "r", .int 1], .tup [.str "u", .int 1], .tup [.str "r", .int 1], .tup [.str "u", .int 1], .tup [.str "r", .int 1], .tup [.str "u", .int 1], .tup [.str "r", .int 1], .tup [.str "u", .int 1], .tup [.str "r", .int 1], .tup [.str "u", .int 1], .tup [.str "r", .int 1], .tup [.str "u", .int 1], .tup [.str "r", .int 1], .tup [.str "u", .int 1], .tup [.str "r", .int 1], .tup [.str "u", .int 1], .tup [.str "r", .int 1], .tup [.str "u", .int 1], .tup [.str "r", .int 1], .tup [.str "u", .int 1], .tup [.str "r", .int 1], .tup [.str "u", .int 1], .tup [.str "r", .int 1], .tup [.str "u", .int 1], .tup [.str "r", .int 1], .tup [.str "u", .int 1], .tup [.str "r", .int 1], .tup [.str "u", .int 1], .tup [.str "r", .int 1], .tup [.str "u", .int 1], .tup [.str "r", .int 1], .tup [.str "u", .int 1], .tup [.str "r", .int 1], .tup [.str "u", .int 1], .tup [.str "r", .int 1], .tup [.str "u", .int 1], .tup [.str "r", .int 1], .tup [.str "u", .int 1], .tup [.str "r", .int 1], .tup [.str "u", .int 1], .tup [.str "r", .int 1], .tup [.str "u", .int 1], .tup [.str "r", .int 1], .tup [.str "u", .int 1], .tup [.str "r", .int 1], .tup [.str "u", .int 1], .tup [.str "r", .int 1], .tup [.str "u", .int 1], .tup [.str "r", .int 1], .tup [.str "u", .int 1], .tup [.str "r", .int 1], .tup [.str "u", .int 1], .tup [.str "r", .int 1], .tup [.str "u", .int 1], .tup [.str "r", .int 1], .tup [.str "u", .int 1], .tup [.str "r", .int 1], .tup [.str "u", .int 1], .tup [.str "r", .int 1], .tup [.str "u", .int 1], .tup [.str "r", .int 1], .tup [.str "u", .int 1], .tup [.str "r", .int 1], .tup [.str "u", .int 1], .tup [.str "r", .int 1], .tup [.str "u", .int 1], .tup [.str "r", .int 1], .tup [.str "u", .int 1], .tup [.str "r", .int 1], .tup [.str "u", .int 1], .tup [.str "r", .int 1], .tup [.str "u", .int 1], .tup [.str "r", .int 1], .tup [.str "u", .int 1], .tup [.str "r", .int 1], .tup [.str "u", .int 1], .tup [.str "r", .int 1], .tup [.str "u", .int 1], .tup [.str "r", .int 1], .tup [.str "u", .int 1], .tup [.str "r", .int 1], .tup [.str "u", .int 1], .tup [.str "r", .int 1], .tup [.str "u", .int 1], .tup [.str "r", .int 1], .tup [.str "u", .int 1], .tup [.str "r", .int 1], .tup [.str "u", .int 1], .tup [.str "r", .int 1], .tup [.str "u", .int 1], .tup [.str "r", .int 1], .tup [.str "u", .int 1], .tup [.str "r", .int 1], .tup [.str "u", .int 1], .tup [.str "r", .int 1], .tup [.str "u", .int 1], .tup [.str "r", .int 1], .tup [.str "u", .int 1], .tup [.str "r", .int 1], .tup [.str "u", .int 1], .tup [.str "r", .int 1], .tup [.str "u", .int 1], .tup [.str "r", .int 1], .tup [.str "u", .int 1], .tup [.str "r", .int 1], .tup [.str "u", .int 1], .tup [.str "r", .int 1], .tup [.str "u", .int 1], .tup [.str "r", .int 1], .tup [.str "u", .int 1], .tup [.str "r", .int 1], .tup [.str "u", .int 1]]), none, none] ρ17 := k17 _ h16
  refine stepP 18 19 hb0 rfl rfl B ht13 h17 (.s (.s (.n (.n (.n (.n (.n (.n (.s (.n (.n (.n (.s (.s (.e))))))))))))))) st_18 fun ρ18 k18 => ?_
  have h18 : LSt 1 c [none, none, some (.lst [.str "unfit", .bl true, .bl false]), some (.lst [.str "cannot", .bl true, .bl false]), some (.lst [.str "many", .bl true, .bl false]), some c_route_so, some c_runs_so, some c_number_so, some got_18, some c_word_so, some c_long_so, some (.tup [.tup [.str "r", .int 1], .tup [.str "u", .int 1], .tup [.str "r", .int 1], .tup [.str "u", .int 1], .tup [.str "r", .int 1], .tup [.str "u", .int 1], .tup [.str "r", .int 1], .tup [.str "u", .int 1], .tup [.str "r", .int 1], .tup [.str "u", .int 1], .tup [.str "r", .int 1], .tup [.str "u", .int 1], .tup [.str "r", .int 1], .tup [.str "u", .int 1], .tup [.str "r", .int 1], .tup [.str "u", .int 1], .tup [.str "r", .int 1], .tup [.str "u", .int 1], .tup [.str "r", .int 1], .tup [.str "u", .int 1], .tup [.str "r", .int 1], .tup [.str "u", .int 1], .tup [.str "r", .int 1], .tup [.str "u", .int 1], .tup [.str "r", .int 1], .tup [.str "u", .int 1], .tup [.str "r", .int 1], .tup [.str "u", .int 1], .tup [.str "r", .int 1], .tup [.str "u", .int 1], .tup [.str "r", .int 1], .tup [.str "u", .int 1], .tup [.str "r", .int 1], .tup [.str "u", .int 1], .tup [.str "r", .int 1], .tup [.str "u", .int 1], .tup [.str "r", .int 1], .tup [.str "u", .int 1], .tup [.str "r", .int 1], .tup [.str "u", .int 1], .tup [.str "r", .int 1], .tup [.str "u", .int 1], .tup [.str "r", .int 1], .tup [.str "u", .int 1], .tup [.str "r", .int 1], .tup [.str "u", .int 1], .tup [.str "r", .int 1], .tup [.str "u", .int 1], .tup [.str "r", .int 1], .tup [.str "u", .int 1], .tup [.str "r", .int 1], .tup [.str "u", .int 1], .tup [.str "r", .int 1], .tup [.str "u", .int 1], .tup [.str "r", .int 1], .tup [.str "u", .int 1], .tup [.str "r", .int 1], .tup [.str "u", .int 1], .tup [.str "r", .int 1], .tup [.str "u", .int 1], .tup [.str "r", .int 1], .tup [.str "u", .int 1], .tup [.str "r", .int 1], .tup [.str "u", .int 1], .tup [.str "r", .int 1], .tup [.str "u", .int 1], .tup [.str "r", .int 1], .tup [.str "u", .int 1], .tup [.str "r", .int 1], .tup [.str "u", .int 1], .tup [.str "r", .int 1], .tup [.str "u", .int 1], .tup [.str "r", .int 1], .tup [.str "u", .int 1], .tup [.str "r", .int 1], .tup [.str "u", .int 1], .tup [.str "r", .int 1], .tup [.str "u", .int 1], .tup [.str "r", .int 1], .tup [.str "u", .int 1], .tup [.str "r", .int 1], .tup [.str "u", .int 1], .tup [.str "r", .int 1], .tup [.str "u", .int 1], .tup [.str "r", .int 1], .tup [.str "u", .int 1], .tup [.str "r", .int 1], .tup [.str "u", .int 1], .tup [.str "r", .int 1], .tup [.str "u", .int 1], .tup [.str "r", .int 1], .tup [.str "u", .int 1], .tup [.str "r", .int 1], .tup [.str "u", .int 1], .tup [.str "r", .int 1], .tup [.str "u", .int 1], .tup [.str "r", .int 1], .tup [.str "u", .int 1], .tup [.str "r", .int 1], .tup [.str "u", .int 1], .tup [.str "r", .int 1], .tup [.str "u", .int 1], .tup [.str "r", .int 1], .tup [.str "u", .int 1], .tup [.str "r", .int 1], .tup [.str "u", .int 1], .tup [.str "r", .int 1], .tup [.str "u", .int 1], .tup [.str "r", .int 1], .tup [.str "u", .int 1], .tup [.str "r", .int 1], .tup [.str "u", .int 1], .tup [.str "r", .int 1], .tup [.str "u", .int 1], .tup [.str "r", .int 1], .tup [.str "u", .int 1], .tup [.str "r", .int 1], .tup [.str "u", .int 1], .tup [.str "r", .int 1], .tup [.str "u", .int 1], .tup [.str "r", .int 1], .tup [.str "u", .int 1], .tup [.str "r", .int 1], .tup [.str "u", .int 1], .tup [.str "r", .int 1], .tup [.str "u", .int 1], .tup [.str "r", .int 1], .tup [.str "u", .int 1], .tup [.str "r", .int 1], .tup [.str "u", .int 1], .tup [.str "r", .int 1], .tup [.str "u", .int 1], .tup [.str "r", .int 1], .tup [.str "u", .int 1], .tup [.str "r", .int 1], .tup [.str "u", .int 1], .tup [.str "r", .int 1], .tup [.str "u", .int 1], .tup [.str "r", .int 1], .tup [.str "u", .int 1], .tup [.str "r", .int 1], .tup [.str "u", .int 1], .tup [.str "r", .int 1], .tup [.str "u", .int 1], .tup [.str "r", .int 1], .tup [.str "u", .int 1], .tup [.str "r", .int 1], .tup [.str "u", .int 1], .tup [.str "r", .int 1], .tup [.str "u", .int 1], .tup [.str "r", .int 1], .tup [.str "u", .int 1], .tup [.str "r", .int 1], .tup [.str "u", .int 1], .tup [.str "r", .int 1], .tup [.str "u", .int 1], .tup [.str "r", .int 1], .tup [.str "u", .int 1], .tup [.str "r", .int 1], .tup [.str "u", .int 1], .tup [.str "r", .int 1], .tup [.str "u", .int 1], .tup [.str "r", .int 1], .tup [.str "u", .int 1], .tup [.str "r", .int 1], .tup [.str "u", .int 1], .tup [.str "r", .int 1], .tup [.str "u", .int 1], .tup [.str "r", .int 1], .tup [.str "u", .int 1], .tup [.str "r", .int 1], .tup [.str "u", .int 1], .tup [.str "r", .int 1], .tup [.str "u", .int 1], .tup [.str "r", .int 1], .tup [.str "u", .int 1], .tup [.str "r", .int 1], .tup [.str "u", .int 1], .tup [.str "r", .int 1], .tup [.str "u", .int 1], .tup [.str "r", .int 1], .tup [.str "u", .int 1], .tup [.str "r", .int 1], .tup [.str "u", .int 1], .tup [.str "r", .int 1], .tup [.str "u", .int 1], .tup [.str "r", .int 1], .tup [.str "u", .int 1], .tup [.str "r", .int 1], .tup [.str "u", .int 1], .tup [.str "r", .int 1], .tup [.str "u", .int 1], .tup [.str "r", .int 1], .tup [.str "u", .int 1], .tup [.str "r", .int 1], .tup [.str "u", .int 1], .tup [.str "r", .int 1], .tup [.str "u", .int 1], .tup [.str "r", .int 1], .tup [.str "u", .int 1]]), none, none] ρ18 := k18 _ h17
  refine stepP 19 20 hb0 rfl rfl B ht13 h18 (.s (.s (.n (.n (.n (.n (.n (.n (.s (.n (.n (.n (.s (.s (.e))))))))))))))) st_19 fun ρ19 k19 => ?_
  have h19 : LSt 1 c [none, none, some (.lst [.str "unfit", .bl true, .bl false]), some (.lst [.str "cannot", .bl true, .bl false]), some (.lst [.str "many", .bl true, .bl false]), some c_route_so, some c_runs_so, some c_number_so, some got_19, some c_word_so, some c_long_so, some (.tup [.tup [.str "r", .int 1], .tup [.str "u", .int 1], .tup [.str "r", .int 1], .tup [.str "u", .int 1], .tup [.str "r", .int 1], .tup [.str "u", .int 1], .tup [.str "r", .int 1], .tup [.str "u", .int 1], .tup [.str "r", .int 1], .tup [.str "u", .int 1], .tup [.str "r", .int 1], .tup [.str "u", .int 1], .tup [.str "r", .int 1], .tup [.str "u", .int 1], .tup [.str "r", .int 1], .tup [.str "u", .int 1], .tup [.str "r", .int 1], .tup [.str "u", .int 1], .tup [.str "r", .int 1], .tup [.str "u", .int 1], .tup [.str "r", .int 1], .tup [.str "u", .int 1], .tup [.str "r", .int 1], .tup [.str "u", .int 1], .tup [.str "r", .int 1], .tup [.str "u", .int 1], .tup [.str "r", .int 1], .tup [.str "u", .int 1], .tup [.str "r", .int 1], .tup [.str "u", .int 1], .tup [.str "r", .int 1], .tup [.str "u", .int 1], .tup [.str "r", .int 1], .tup [.str "u", .int 1], .tup [.str "r", .int 1], .tup [.str "u", .int 1], .tup [.str "r", .int 1], .tup [.str "u", .int 1], .tup [.str "r", .int 1], .tup [.str "u", .int 1], .tup [.str "r", .int 1], .tup [.str "u", .int 1], .tup [.str "r", .int 1], .tup [.str "u", .int 1], .tup [.str "r", .int 1], .tup [.str "u", .int 1], .tup [.str "r", .int 1], .tup [.str "u", .int 1], .tup [.str "r", .int 1], .tup [.str "u", .int 1], .tup [.str "r", .int 1], .tup [.str "u", .int 1], .tup [.str "r", .int 1], .tup [.str "u", .int 1], .tup [.str "r", .int 1], .tup [.str "u", .int 1], .tup [.str "r", .int 1], .tup [.str "u", .int 1], .tup [.str "r", .int 1], .tup [.str "u", .int 1], .tup [.str "r", .int 1], .tup [.str "u", .int 1], .tup [.str "r", .int 1], .tup [.str "u", .int 1], .tup [.str "r", .int 1], .tup [.str "u", .int 1], .tup [.str "r", .int 1], .tup [.str "u", .int 1], .tup [.str "r", .int 1], .tup [.str "u", .int 1], .tup [.str "r", .int 1], .tup [.str "u", .int 1], .tup [.str "r", .int 1], .tup [.str "u", .int 1], .tup [.str "r", .int 1], .tup [.str "u", .int 1], .tup [.str "r", .int 1], .tup [.str "u", .int 1], .tup [.str "r", .int 1], .tup [.str "u", .int 1], .tup [.str "r", .int 1], .tup [.str "u", .int 1], .tup [.str "r", .int 1], .tup [.str "u", .int 1], .tup [.str "r", .int 1], .tup [.str "u", .int 1], .tup [.str "r", .int 1], .tup [.str "u", .int 1], .tup [.str "r", .int 1], .tup [.str "u", .int 1], .tup [.str "r", .int 1], .tup [.str "u", .int 1], .tup [.str "r", .int 1], .tup [.str "u", .int 1], .tup [.str "r", .int 1], .tup [.str "u", .int 1], .tup [.str "r", .int 1], .tup [.str "u", .int 1], .tup [.str "r", .int 1], .tup [.str "u", .int 1], .tup [.str "r", .int 1], .tup [.str "u", .int 1], .tup [.str "r", .int 1], .tup [.str "u", .int 1], .tup [.str "r", .int 1], .tup [.str "u", .int 1], .tup [.str "r", .int 1], .tup [.str "u", .int 1], .tup [.str "r", .int 1], .tup [.str "u", .int 1], .tup [.str "r", .int 1], .tup [.str "u", .int 1], .tup [.str "r", .int 1], .tup [.str "u", .int 1], .tup [.str "r", .int 1], .tup [.str "u", .int 1], .tup [.str "r", .int 1], .tup [.str "u", .int 1], .tup [.str "r", .int 1], .tup [.str "u", .int 1], .tup [.str "r", .int 1], .tup [.str "u", .int 1], .tup [.str "r", .int 1], .tup [.str "u", .int 1], .tup [.str "r", .int 1], .tup [.str "u", .int 1], .tup [.str "r", .int 1], .tup [.str "u", .int 1], .tup [.str "r", .int 1], .tup [.str "u", .int 1], .tup [.str "r", .int 1], .tup [.str "u", .int 1], .tup [.str "r", .int 1], .tup [.str "u", .int 1], .tup [.str "r", .int 1], .tup [.str "u", .int 1], .tup [.str "r", .int 1], .tup [.str "u", .int 1], .tup [.str "r", .int 1], .tup [.str "u", .int 1], .tup [.str "r", .int 1], .tup [.str "u", .int 1], .tup [.str "r", .int 1], .tup [.str "u", .int 1], .tup [.str "r", .int 1], .tup [.str "u", .int 1], .tup [.str "r", .int 1], .tup [.str "u", .int 1], .tup [.str "r", .int 1], .tup [.str "u", .int 1], .tup [.str "r", .int 1], .tup [.str "u", .int 1], .tup [.str "r", .int 1], .tup [.str "u", .int 1], .tup [.str "r", .int 1], .tup [.str "u", .int 1], .tup [.str "r", .int 1], .tup [.str "u", .int 1], .tup [.str "r", .int 1], .tup [.str "u", .int 1], .tup [.str "r", .int 1], .tup [.str "u", .int 1], .tup [.str "r", .int 1], .tup [.str "u", .int 1], .tup [.str "r", .int 1], .tup [.str "u", .int 1], .tup [.str "r", .int 1], .tup [.str "u", .int 1], .tup [.str "r", .int 1], .tup [.str "u", .int 1], .tup [.str "r", .int 1], .tup [.str "u", .int 1], .tup [.str "r", .int 1], .tup [.str "u", .int 1], .tup [.str "r", .int 1], .tup [.str "u", .int 1], .tup [.str "r", .int 1], .tup [.str "u", .int 1], .tup [.str "r", .int 1], .tup [.str "u", .int 1], .tup [.str "r", .int 1], .tup [.str "u", .int 1], .tup [.str "r", .int 1], .tup [.str "u", .int 1], .tup [.str "r", .int 1], .tup [.str "u", .int 1], .tup [.str "r", .int 1], .tup [.str "u", .int 1], .tup [.str "r", .int 1], .tup [.str "u", .int 1], .tup [.str "r", .int 1], .tup [.str "u", .int 1], .tup [.str "r", .int 1], .tup [.str "u", .int 1], .tup [.str "r", .int 1], .tup [.str "u", .int 1], .tup [.str "r", .int 1], .tup [.str "u", .int 1], .tup [.str "r", .int 1], .tup [.str "u", .int 1]]), none, none] ρ19 := k19 _ h18
  refine stepP 20 21 hb0 rfl rfl B ht13 h19 (.s (.s (.n (.n (.n (.n (.n (.n (.n (.n (.n (.n (.s (.s (.e))))))))))))))) st_20 fun ρ20 k20 => ?_
  have h20 : LSt 1 c [none, none, some (.lst [.str "unfit", .bl true, .bl false]), some (.lst [.str "cannot", .bl true, .bl false]), some (.lst [.str "many", .bl true, .bl false]), some c_route_so, some c_runs_so, some c_number_so, some got_19, some c_word_so, some c_long_so, some (.tup [.tup [.str "r", .int 1], .tup [.str "u", .int 1], .tup [.str "r", .int 1], .tup [.str "u", .int 1], .tup [.str "r", .int 1], .tup [.str "u", .int 1], .tup [.str "r", .int 1], .tup [.str "u", .int 1], .tup [.str "r", .int 1], .tup [.str "u", .int 1], .tup [.str "r", .int 1], .tup [.str "u", .int 1], .tup [.str "r", .int 1], .tup [.str "u", .int 1], .tup [.str "r", .int 1], .tup [.str "u", .int 1], .tup [.str "r", .int 1], .tup [.str "u", .int 1], .tup [.str "r", .int 1], .tup [.str "u", .int 1], .tup [.str "r", .int 1], .tup [.str "u", .int 1], .tup [.str "r", .int 1], .tup [.str "u", .int 1], .tup [.str "r", .int 1], .tup [.str "u", .int 1], .tup [.str "r", .int 1], .tup [.str "u", .int 1], .tup [.str "r", .int 1], .tup [.str "u", .int 1], .tup [.str "r", .int 1], .tup [.str "u", .int 1], .tup [.str "r", .int 1], .tup [.str "u", .int 1], .tup [.str "r", .int 1], .tup [.str "u", .int 1], .tup [.str "r", .int 1], .tup [.str "u", .int 1], .tup [.str "r", .int 1], .tup [.str "u", .int 1], .tup [.str "r", .int 1], .tup [.str "u", .int 1], .tup [.str "r", .int 1], .tup [.str "u", .int 1], .tup [.str "r", .int 1], .tup [.str "u", .int 1], .tup [.str "r", .int 1], .tup [.str "u", .int 1], .tup [.str "r", .int 1], .tup [.str "u", .int 1], .tup [.str "r", .int 1], .tup [.str "u", .int 1], .tup [.str "r", .int 1], .tup [.str "u", .int 1], .tup [.str "r", .int 1], .tup [.str "u", .int 1], .tup [.str "r", .int 1], .tup [.str "u", .int 1], .tup [.str "r", .int 1], .tup [.str "u", .int 1], .tup [.str "r", .int 1], .tup [.str "u", .int 1], .tup [.str "r", .int 1], .tup [.str "u", .int 1], .tup [.str "r", .int 1], .tup [.str "u", .int 1], .tup [.str "r", .int 1], .tup [.str "u", .int 1], .tup [.str "r", .int 1], .tup [.str "u", .int 1], .tup [.str "r", .int 1], .tup [.str "u", .int 1], .tup [.str "r", .int 1], .tup [.str "u", .int 1], .tup [.str "r", .int 1], .tup [.str "u", .int 1], .tup [.str "r", .int 1], .tup [.str "u", .int 1], .tup [.str "r", .int 1], .tup [.str "u", .int 1], .tup [.str "r", .int 1], .tup [.str "u", .int 1], .tup [.str "r", .int 1], .tup [.str "u", .int 1], .tup [.str "r", .int 1], .tup [.str "u", .int 1], .tup [.str "r", .int 1], .tup [.str "u", .int 1], .tup [.str "r", .int 1], .tup [.str "u", .int 1], .tup [.str "r", .int 1], .tup [.str "u", .int 1], .tup [.str "r", .int 1], .tup [.str "u", .int 1], .tup [.str "r", .int 1], .tup [.str "u", .int 1], .tup [.str "r", .int 1], .tup [.str "u", .int 1], .tup [.str "r", .int 1], .tup [.str "u", .int 1], .tup [.str "r", .int 1], .tup [.str "u", .int 1], .tup [.str "r", .int 1], .tup [.str "u", .int 1], .tup [.str "r", .int 1], .tup [.str "u", .int 1], .tup [.str "r", .int 1], .tup [.str "u", .int 1], .tup [.str "r", .int 1], .tup [.str "u", .int 1], .tup [.str "r", .int 1], .tup [.str "u", .int 1], .tup [.str "r", .int 1], .tup [.str "u", .int 1], .tup [.str "r", .int 1], .tup [.str "u", .int 1], .tup [.str "r", .int 1], .tup [.str "u", .int 1], .tup [.str "r", .int 1], .tup [.str "u", .int 1], .tup [.str "r", .int 1], .tup [.str "u", .int 1], .tup [.str "r", .int 1], .tup [.str "u", .int 1], .tup [.str "r", .int 1], .tup [.str "u", .int 1], .tup [.str "r", .int 1], .tup [.str "u", .int 1], .tup [.str "r", .int 1], .tup [.str "u", .int 1], .tup [.str "r", .int 1], .tup [.str "u", .int 1], .tup [.str "r", .int 1], .tup [.str "u", .int 1], .tup [.str "r", .int 1], .tup [.str "u", .int 1], .tup [.str "r", .int 1], .tup [.str "u", .int 1], .tup [.str "r", .int 1], .tup [.str "u", .int 1], .tup [.str "r", .int 1], .tup [.str "u", .int 1], .tup [.str "r", .int 1], .tup [.str "u", .int 1], .tup [.str "r", .int 1], .tup [.str "u", .int 1], .tup [.str "r", .int 1], .tup [.str "u", .int 1], .tup [.str "r", .int 1], .tup [.str "u", .int 1], .tup [.str "r", .int 1], .tup [.str "u", .int 1], .tup [.str "r", .int 1], .tup [.str "u", .int 1], .tup [.str "r", .int 1], .tup [.str "u", .int 1], .tup [.str "r", .int 1], .tup [.str "u", .int 1], .tup [.str "r", .int 1], .tup [.str "u", .int 1], .tup [.str "r", .int 1], .tup [.str "u", .int 1], .tup [.str "r", .int 1], .tup [.str "u", .int 1], .tup [.str "r", .int 1], .tup [.str "u", .int 1], .tup [.str "r", .int 1], .tup [.str "u", .int 1], .tup [.str "r", .int 1], .tup [.str "u", .int 1], .tup [.str "r", .int 1], .tup [.str "u", .int 1], .tup [.str "r", .int 1], .tup [.str "u", .int 1], .tup [.str "r", .int 1], .tup [.str "u", .int 1], .tup [.str "r", .int 1], .tup [.str "u", .int 1], .tup [.str "r", .int 1], .tup [.str "u", .int 1], .tup [.str "r", .int 1], .tup [.str "u", .int 1], .tup [.str "r", .int 1], .tup [.str "u", .int 1], .tup [.str "r", .int 1], .tup [.str "u", .int 1], .tup [.str "r", .int 1], .tup [.str "u", .int 1], .tup [.str "r", .int 1], .tup [.str "u", .int 1], .tup [.str "r", .int 1], .tup [.str "u", .int 1], .tup [.str "r", .int 1], .tup [.str "u", .int 1], .tup [.str "r", .int 1], .tup [.str "u", .int 1], .tup [.str "r", .int 1], .tup [.str "u", .int 1], .tup [.str "r", .int 1], .tup [.str "u", .int 1]]), some (.lst [.tup [.int 1, .int 1, .int 2], .tup [.tup [.int 0, .int 0], .tup [.int 1, .int 0], .tup [.int 1, .int 1], .tup [.int 0, .int 1]], .tup [.int 0, .int 0, .int 2, .int (-2)], .str "dr", .str "lur", .str "rdl", .str "lur", .str "ruldl", .bl true, .int (-1)]), none] ρ20 := k20 _ h19
  refine stepP 21 22 hb0 rfl rfl B ht13 h20 (.s (.s (.n (.n (.n (.n (.n (.n (.s (.n (.n (.n (.n (.s (.e))))))))))))))) st_21 fun ρ21 k21 => ?_
  have h21 : LSt 1 c [none, none, some (.lst [.str "unfit", .bl true, .bl false]), some (.lst [.str "cannot", .bl true, .bl false]), some (.lst [.str "many", .bl true, .bl false]), some c_route_so, some c_runs_so, some c_number_so, some got_21, some c_word_so, some c_long_so, some (.tup [.tup [.str "r", .int 1], .tup [.str "u", .int 1], .tup [.str "r", .int 1], .tup [.str "u", .int 1], .tup [.str "r", .int 1], .tup [.str "u", .int 1], .tup [.str "r", .int 1], .tup [.str "u", .int 1], .tup [.str "r", .int 1], .tup [.str "u", .int 1], .tup [.str "r", .int 1], .tup [.str "u", .int 1], .tup [.str "r", .int 1], .tup [.str "u", .int 1], .tup [.str "r", .int 1], .tup [.str "u", .int 1], .tup [.str "r", .int 1], .tup [.str "u", .int 1], .tup [.str "r", .int 1], .tup [.str "u", .int 1], .tup [.str "r", .int 1], .tup [.str "u", .int 1], .tup [.str "r", .int 1], .tup [.str "u", .int 1], .tup [.str "r", .int 1], .tup [.str "u", .int 1], .tup [.str "r", .int 1], .tup [.str "u", .int 1], .tup [.str "r", .int 1], .tup [.str "u", .int 1], .tup [.str "r", .int 1], .tup [.str "u", .int 1], .tup [.str "r", .int 1], .tup [.str "u", .int 1], .tup [.str "r", .int 1], .tup [.str "u", .int 1], .tup [.str "r", .int 1], .tup [.str "u", .int 1], .tup [.str "r", .int 1], .tup [.str "u", .int 1], .tup [.str "r", .int 1], .tup [.str "u", .int 1], .tup [.str "r", .int 1], .tup [.str "u", .int 1], .tup [.str "r", .int 1], .tup [.str "u", .int 1], .tup [.str "r", .int 1], .tup [.str "u", .int 1], .tup [.str "r", .int 1], .tup [.str "u", .int 1], .tup [.str "r", .int 1], .tup [.str "u", .int 1], .tup [.str "r", .int 1], .tup [.str "u", .int 1], .tup [.str "r", .int 1], .tup [.str "u", .int 1], .tup [.str "r", .int 1], .tup [.str "u", .int 1], .tup [.str "r", .int 1], .tup [.str "u", .int 1], .tup [.str "r", .int 1], .tup [.str "u", .int 1], .tup [.str "r", .int 1], .tup [.str "u", .int 1], .tup [.str "r", .int 1], .tup [.str "u", .int 1], .tup [.str "r", .int 1], .tup [.str "u", .int 1], .tup [.str "r", .int 1], .tup [.str "u", .int 1], .tup [.str "r", .int 1], .tup [.str "u", .int 1], .tup [.str "r", .int 1], .tup [.str "u", .int 1], .tup [.str "r", .int 1], .tup [.str "u", .int 1], .tup [.str "r", .int 1], .tup [.str "u", .int 1], .tup [.str "r", .int 1], .tup [.str "u", .int 1], .tup [.str "r", .int 1], .tup [.str "u", .int 1], .tup [.str "r", .int 1], .tup [.str "u", .int 1], .tup [.str "r", .int 1], .tup [.str "u", .int 1], .tup [.str "r", .int 1], .tup [.str "u", .int 1], .tup [.str "r", .int 1], .tup [.str "u", .int 1], .tup [.str "r", .int 1], .tup [.str "u", .int 1], .tup [.str "r", .int 1], .tup [.str "u", .int 1], .tup [.str "r", .int 1], .tup [.str "u", .int 1], .tup [.str "r", .int 1], .tup [.str "u", .int 1], .tup [.str "r", .int 1], .tup [.str "u", .int 1], .tup [.str "r", .int 1], .tup [.str "u", .int 1], .tup [.str "r", .int 1], .tup [.str "u", .int 1], .tup [.str "r", .int 1], .tup [.str "u", .int 1], .tup [.str "r", .int 1], .tup [.str "u", .int 1], .tup [.str "r", .int 1], .tup [.str "u", .int 1], .tup [.str "r", .int 1], .tup [.str "u", .int 1], .tup [.str "r", .int 1], .tup [.str "u", .int 1], .tup [.str "r", .int 1], .tup [.str "u", .int 1], .tup [.str "r", .int 1], .tup [.str "u", .int 1], .tup [.str "r", .int 1], .tup [.str "u", .int 1], .tup [.str "r", .int 1], .tup [.str "u", .int 1], .tup [.str "r", .int 1], .tup [.str "u", .int 1], .tup [.str "r", .int 1], .tup [.str "u", .int 1], .tup [.str "r", .int 1], .tup [.str "u", .int 1], .tup [.str "r", .int 1], .tup [.str "u", .int 1], .tup [.str "r", .int 1], .tup [.str "u", .int 1], .tup [.str "r", .int 1], .tup [.str "u", .int 1], .tup [.str "r", .int 1], .tup [.str "u", .int 1], .tup [.str "r", .int 1], .tup [.str "u", .int 1], .tup [.str "r", .int 1], .tup [.str "u", .int 1], .tup [.str "r", .int 1], .tup [.str "u", .int 1], .tup [.str "r", .int 1], .tup [.str "u", .int 1], .tup [.str "r", .int 1], .tup [.str "u", .int 1], .tup [.str "r", .int 1], .tup [.str "u", .int 1], .tup [.str "r", .int 1], .tup [.str "u", .int 1], .tup [.str "r", .int 1], .tup [.str "u", .int 1], .tup [.str "r", .int 1], .tup [.str "u", .int 1], .tup [.str "r", .int 1], .tup [.str "u", .int 1], .tup [.str "r", .int 1], .tup [.str "u", .int 1], .tup [.str "r", .int 1], .tup [.str "u", .int 1], .tup [.str "r", .int 1], .tup [.str "u", .int 1], .tup [.str "r", .int 1], .tup [.str "u", .int 1], .tup [.str "r", .int 1], .tup [.str "u", .int 1], .tup [.str "r", .int 1], .tup [.str "u", .int 1], .tup [.str "r", .int 1], .tup [.str "u", .int 1], .tup [.str "r", .int 1], .tup [.str "u", .int 1], .tup [.str "r", .int 1], .tup [.str "u", .int 1], .tup [.str "r", .int 1], .tup [.str "u", .int 1], .tup [.str "r", .int 1], .tup [.str "u", .int 1], .tup [.str "r", .int 1], .tup [.str "u", .int 1], .tup [.str "r", .int 1], .tup [.str "u", .int 1], .tup [.str "r", .int 1], .tup [.str "u", .int 1], .tup [.str "r", .int 1], .tup [.str "u", .int 1], .tup [.str "r", .int 1], .tup [.str "u", .int 1], .tup [.str "r", .int 1], .tup [.str "u", .int 1], .tup [.str "r", .int 1], .tup [.str "u", .int 1], .tup [.str "r", .int 1], .tup [.str "u", .int 1], .tup [.str "r", .int 1], .tup [.str "u", .int 1], .tup [.str "r", .int 1], .tup [.str "u", .int 1], .tup [.str "r", .int 1], .tup [.str "u", .int 1]]), some (.lst [.tup [.int 1, .int 1, .int 2], .tup [.tup [.int 0, .int 0], .tup [.int 1, .int 0], .tup [.int 1, .int 1], .tup [.int 0, .int 1]], .tup [.int 0, .int 0, .int 2, .int (-2)], .str "dr", .str "lur", .str "rdl", .str "lur", .str "ruldl", .bl true, .int (-1)]), none] ρ21 := k21 _ h20
  refine stepP 22 23 hb0 rfl rfl B ht13 h21 (.s (.s (.n (.n (.n (.n (.n (.n (.s (.n (.n (.n (.n (.s (.e))))))))))))))) st_22 fun ρ22 k22 => ?_
  have h22 : LSt 1 c [none, none, some (.lst [.str "unfit", .bl true, .bl false]), some (.lst [.str "cannot", .bl true, .bl false]), some (.lst [.str "many", .bl true, .bl false]), some c_route_so, some c_runs_so, some c_number_so, some got_22, some c_word_so, some c_long_so, some (.tup [.tup [.str "r", .int 1], .tup [.str "u", .int 1], .tup [.str "r", .int 1], .tup [.str "u", .int 1], .tup [.str "r", .int 1], .tup [.str "u", .int 1], .tup [.str "r", .int 1], .tup [.str "u", .int 1], .tup [.str "r", .int 1], .tup [.str "u", .int 1], .tup [.str "r", .int 1], .tup [.str "u", .int 1], .tup [.str "r", .int 1], .tup [.str "u", .int 1], .tup [.str "r", .int 1], .tup [.str "u", .int 1], .tup [.str "r", .int 1], .tup [.str "u", .int 1], .tup [.str "r", .int 1], .tup [.str "u", .int 1], .tup [.str "r", .int 1], .tup [.str "u", .int 1], .tup [.str "r", .int 1], .tup [.str "u", .int 1], .tup [.str "r", .int 1], .tup [.str "u", .int 1], .tup [.str "r", .int 1], .tup [.str "u", .int 1], .tup [.str "r", .int 1], .tup [.str "u", .int 1], .tup [.str "r", .int 1], .tup [.str "u", .int 1], .tup [.str "r", .int 1], .tup [.str "u", .int 1], .tup [.str "r", .int 1], .tup [.str "u", .int 1], .tup [.str "r", .int 1], .tup [.str "u", .int 1], .tup [.str "r", .int 1], .tup [.str "u", .int 1], .tup [.str "r", .int 1], .tup [.str "u", .int 1], .tup [.str "r", .int 1], .tup [.str "u", .int 1], .tup [.str "r", .int 1], .tup [.str "u", .int 1], .tup [.str "r", .int 1], .tup [.str "u", .int 1], .tup [.str "r", .int 1], .tup [.str "u", .int 1], .tup [.str "r", .int 1], .tup [.str "u", .int 1], .tup [.str "r", .int 1], .tup [.str "u", .int 1], .tup [.str "r", .int 1], .tup [.str "u", .int 1], .tup [.str "r", .int 1], .tup [.str "u", .int 1], .tup [.str "r", .int 1], .tup [.str "u", .int 1], .tup [.str "r", .int 1], .tup [.str "u", .int 1], .tup [.str "r", .int 1], .tup [.str "u", .int 1], .tup [.str "r", .int 1], .tup [.str "u", .int 1], .tup [.str "r", .int 1], .tup [.str "u", .int 1], .tup [.str "r", .int 1], .tup [.str "u", .int 1], .tup [.str "r", .int 1], .tup [.str "u", .int 1], .tup [.str "r", .int 1], .tup [.str "u", .int 1], .tup [.str "r", .int 1], .tup [.str "u", .int 1], .tup [.str "r", .int 1], .tup [.str "u", .int 1], .tup [.str "r", .int 1], .tup [.str "u", .int 1], .tup [.str "r", .int 1], .tup [.str "u", .int 1], .tup [.str "r", .int 1], .tup [.str "u", .int 1], .tup [.str "r", .int 1], .tup [.str "u", .int 1], .tup [.str "r", .int 1], .tup [.str "u", .int 1], .tup [.str "r", .int 1], .tup [.str "u", .int 1], .tup [.str "r", .int 1], .tup [.str "u", .int 1], .tup [.str "r", .int 1], .tup [.str "u", .int 1], .tup [.str "r", .int 1], .tup [.str "u", .int 1], .tup [.str "r", .int 1], .tup [.str "u", .int 1], .tup [.str "r", .int 1], .tup [.str "u", .int 1], .tup [.str "r", .int 1], .tup [.str "u", .int 1], .tup [.str "r", .int 1], .tup [.str "u", .int 1], .tup [.str "r", .int 1], .tup [.str "u", .int 1], .tup [.str "r", .int 1], .tup [.str "u", .int 1], .tup [.str "r", .int 1], .tup [.str "u", .int 1], .tup [.str "r", .int 1], .tup [.str "u", .int 1], .tup [.str "r", .int 1], .tup [.str "u", .int 1], .tup [.str "r", .int 1], .tup [.str "u", .int 1], .tup [.str "r", .int 1], .tup [.str "u", .int 1], .tup [.str "r", .int 1], .tup [.str "u", .int 1], .tup [.str "r", .int 1], .tup [.str "u", .int 1], .tup [.str "r", .int 1], .tup [.str "u", .int 1], .tup [.str "r", .int 1], .tup [.str "u", .int 1], .tup [.str "r", .int 1], .tup [.str "u", .int 1], .tup [.str "r", .int 1], .tup [.str "u", .int 1], .tup [.str "r", .int 1], .tup [.str "u", .int 1], .tup [.str "r", .int 1], .tup [.str "u", .int 1], .tup [.str "r", .int 1], .tup [.str "u", .int 1], .tup [.str "r", .int 1], .tup [.str "u", .int 1], .tup [.str "r", .int 1], .tup [.str "u", .int 1], .tup [.str "r", .int 1], .tup [.str "u", .int 1], .tup [.str "r", .int 1], .tup [.str "u", .int 1], .tup [.str "r", .int 1], .tup [.str "u", .int 1], .tup [.str "r", .int 1], .tup [.str "u", .int 1], .tup [.str "r", .int 1], .tup [.str "u", .int 1], .tup [.str "r", .int 1], .tup [.str "u", .int 1], .tup [.str "r", .int 1], .tup [.str "u", .int 1], .tup [.str "r", .int 1], .tup [.str "u", .int 1], .tup [.str "r", .int 1], .tup [.str "u", .int 1], .tup [.str "r", .int 1], .tup [.str "u", .int 1], .tup [.str "r", .int 1], .tup [.str "u", .int 1], .tup [.str "r", .int 1], .tup [.str "u", .int 1], .tup [.str "r", .int 1], .tup [.str "u", .int 1], .tup [.str "r", .int 1], .tup [.str "u", .int 1], .tup [.str "r", .int 1], .tup [.str "u", .int 1], .tup [.str "r", .int 1], .tup [.str "u", .int 1], .tup [.str "r", .int 1], .tup [.str "u", .int 1], .tup [.str "r", .int 1], .tup [.str "u", .int 1], .tup [.str "r", .int 1], .tup [.str "u", .int 1], .tup [.str "r", .int 1], .tup [.str "u", .int 1], .tup [.str "r", .int 1], .tup [.str "u", .int 1], .tup [.str "r", .int 1], .tup [.str "u", .int 1], .tup [.str "r", .int 1], .tup [.str "u", .int 1], .tup [.str "r", .int 1], .tup [.str "u", .int 1], .tup [.str "r", .int 1], .tup [.str "u", .int 1], .tup [.str "r", .int 1], .tup [.str "u", .int 1], .tup [.str "r", .int 1], .tup [.str "u", .int 1], .tup [.str "r", .int 1], .tup [.str "u", .int 1], .tup [.str "r", .int 1], .tup [.str "u", .int 1], .tup [.str "r", .int 1], .tup [.str "u", .int 1]]), some (.lst [.tup [.int 1, .int 1, .int 2], .tup [.tup [.int 0, .int 0], .tup [.int 1, .int 0], .tup [.int 1, .int 1], .tup [.int 0, .int 1]], .tup [.int 0, .int 0, .int 2, .int (-2)], .str "dr", .str "lur", .str "rdl", .str "lur", .str "ruldl", .bl true, .int (-1)]), none] ρ22 := k22 _ h21
  refine stepP 23 24 hb0 rfl rfl B ht13 h22 (.s (.s (.n (.n (.n (.n (.n (.n (.n (.n (.n (.n (.s (.s (.e))))))))))))))) st_23 fun ρ23 k23 => ?_
  have h23 : LSt 1 c [none, none, some (.lst [.str "unfit", .bl true, .bl false]), some (.lst [.str "cannot", .bl true, .bl false]), some (.lst [.str "many", .bl true, .bl false]), some c_route_so, some c_runs_so, some c_number_so, some got_22, some c_word_so, some c_long_so, some (.tup [.tup [.str "r", .int 1], .tup [.str "u", .int 1], .tup [.str "r", .int 1], .tup [.str "u", .int 1], .tup [.str "r", .int 1], .tup [.str "u", .int 1], .tup [.str "r", .int 1], .tup [.str "u", .int 1], .tup [.str "r", .int 1], .tup [.str "u", .int 1], .tup [.str "r", .int 1], .tup [.str "u", .int 1], .tup [.str "r", .int 1], .tup [.str "u", .int 1], .tup [.str "r", .int 1], .tup [.str "u", .int 1], .tup [.str "r", .int 1], .tup [.str "u", .int 1], .tup [.str "r", .int 1], .tup [.str "u", .int 1], .tup [.str "r", .int 1], .tup [.str "u", .int 1], .tup [.str "r", .int 1], .tup [.str "u", .int 1], .tup [.str "r", .int 1], .tup [.str "u", .int 1], .tup [.str "r", .int 1], .tup [.str "u", .int 1], .tup [.str "r", .int 1], .tup [.str "u", .int 1], .tup [.str "r", .int 1], .tup [.str "u", .int 1], .tup [.str "r", .int 1], .tup [.str "u", .int 1], .tup [.str "r", .int 1], .tup [.str "u", .int 1], .tup [.str "r", .int 1], .tup [.str "u", .int 1], .tup [.str "r", .int 1], .tup [.str "u", .int 1], .tup [.str "r", .int 1], .tup [.str "u", .int 1], .tup [.str "r", .int 1], .tup [.str "u", .int 1], .tup [.str "r", .int 1], .tup [.str "u", .int 1], .tup [.str "r", .int 1], .tup [.str "u", .int 1], .tup [.str "r", .int 1], .tup [.str "u", .int 1], .tup [.str "r", .int 1], .tup [.str "u", .int 1], .tup [.str "r", .int 1], .tup [.str "u", .int 1], .tup [.str "r", .int 1], .tup [.str "u", .int 1], .tup [.str "r", .int 1], .tup [.str "u", .int 1], .tup [.str "r", .int 1], .tup [.str "u", .int 1], .tup [.str "r", .int 1], .tup [.str "u", .int 1], .tup [.str "r", .int 1], .tup [.str "u", .int 1], .tup [.str "r", .int 1], .tup [.str "u", .int 1], .tup [.str "r", .int 1], .tup [.str "u", .int 1], .tup [.str "r", .int 1], .tup [.str "u", .int 1], .tup [.str "r", .int 1], .tup [.str "u", .int 1], .tup [.str "r", .int 1], .tup [.str "u", .int 1], .tup [.str "r", .int 1], .tup [.str "u", .int 1], .tup [.str "r", .int 1], .tup [.str "u", .int 1], .tup [.str "r", .int 1], .tup [.str "u", .int 1], .tup [.str "r", .int 1], .tup [.str "u", .int 1], .tup [.str "r", .int 1], .tup [.str "u", .int 1], .tup [.str "r", .int 1], .tup [.str "u", .int 1], .tup [.str "r", .int 1], .tup [.str "u", .int 1], .tup [.str "r", .int 1], .tup [.str "u", .int 1], .tup [.str "r", .int 1], .tup [.str "u", .int 1], .tup [.str "r", .int 1], .tup [.str "u", .int 1], .tup [.str "r", .int 1], .tup [.str "u", .int 1], .tup [.str "r", .int 1], .tup [.str "u", .int 1], .tup [.str "r", .int 1], .tup [.str "u", .int 1], .tup [.str "r", .int 1], .tup [.str "u", .int 1], .tup [.str "r", .int 1], .tup [.str "u", .int 1], .tup [.str "r", .int 1], .tup [.str "u", .int 1], .tup [.str "r", .int 1], .tup [.str "u", .int 1], .tup [.str "r", .int 1], .tup [.str "u", .int 1], .tup [.str "r", .int 1], .tup [.str "u", .int 1], .tup [.str "r", .int 1], .tup [.str "u", .int 1], .tup [.str "r", .int 1], .tup [.str "u", .int 1], .tup [.str "r", .int 1], .tup [.str "u", .int 1], .tup [.str "r", .int 1], .tup [.str "u", .int 1], .tup [.str "r", .int 1], .tup [.str "u", .int 1], .tup [.str "r", .int 1], .tup [.str "u", .int 1], .tup [.str "r", .int 1], .tup [.str "u", .int 1], .tup [.str "r", .int 1], .tup [.str "u", .int 1], .tup [.str "r", .int 1], .tup [.str "u", .int 1], .tup [.str "r", .int 1], .tup [.str "u", .int 1], .tup [.str "r", .int 1], .tup [.str "u", .int 1], .tup [.str "r", .int 1], .tup [.str "u", .int 1], .tup [.str "r", .int 1], .tup [.str "u", .int 1], .tup [.str "r", .int 1], .tup [.str "u", .int 1], .tup [.str "r", .int 1], .tup [.str "u", .int 1], .tup [.str "r", .int 1], .tup [.str "u", .int 1], .tup [.str "r", .int 1], .tup [.str "u", .int 1], .tup [.str "r", .int 1], .tup [.str "u", .int 1], .tup [.str "r", .int 1], .tup [.str "u", .int 1], .tup [.str "r", .int 1], .tup [.str "u", .int 1], .tup [.str "r", .int 1], .tup [.str "u", .int 1], .tup [.str "r", .int 1], .tup [.str "u", .int 1], .tup [.str "r", .int 1], .tup [.str "u", .int 1], .tup [.str "r", .int 1], .tup [.str "u", .int 1], .tup [.str "r", .int 1], .tup [.str "u", .int 1], .tup [.str "r", .int 1], .tup [.str "u", .int 1], .tup [.str "r", .int 1], .tup [.str "u", .int 1], .tup [.str "r", .int 1], .tup [.str "u", .int 1], .tup [.str "r", .int 1], .tup [.str "u", .int 1], .tup [.str "r", .int 1], .tup [.str "u", .int 1], .tup [.str "r", .int 1], .tup [.str "u", .int 1], .tup [.str "r", .int 1], .tup [.str "u", .int 1], .tup [.str "r", .int 1], .tup [.str "u", .int 1], .tup [.str "r", .int 1], .tup [.str "u", .int 1], .tup [.str "r", .int 1], .tup [.str "u", .int 1], .tup [.str "r", .int 1], .tup [.str "u", .int 1], .tup [.str "r", .int 1], .tup [.str "u", .int 1], .tup [.str "r", .int 1], .tup [.str "u", .int 1], .tup [.str "r", .int 1], .tup [.str "u", .int 1], .tup [.str "r", .int 1], .tup [.str "u", .int 1], .tup [.str "r", .int 1], .tup [.str "u", .int 1], .tup [.str "r", .int 1], .tup [.str "u", .int 1], .tup [.str "r", .int 1], .tup [.str "u", .int 1], .tup [.str "r", .int 1], .tup [.str "u", .int 1]]), some (.lst [.tup [.int 1, .int 1, .int 2], .tup [.tup [.int 0, .int 0], .tup [.int 1, .int 0], .tup [.int 1, .int 1], .tup [.int 0, .int 1]], .tup [.int 0, .int 0, .int 2, .int (-2)], .str "dr", .str "lur", .str "rdl", .str "lur", .str "ruldl", .bl true, .int (-1), .bl true, .bl true, .tup [.tup [.str "r", .int 2], .tup [.str "u", .int 2], .tup [.str "r", .int 1]], .str "rru", .tup [.int 0, .int 100000000000000000000, .int 10000000000000000000000000000000000000000], .int 5]), none] ρ23 := k23 _ h22
  refine stepP 24 25 hb0 rfl rfl B ht13 h23 (.s (.s (.n (.n (.n (.n (.n (.n (.s (.n (.n (.n (.n (.s (.e))))))))))))))) st_24 fun ρ24 k24 => ?_
  have h24 : LSt 1 c [none, none, some (.lst [.str "unfit", .bl true, .bl false]), some (.lst [.str "cannot", .bl true, .bl false]), some (.lst [.str "many", .bl true, .bl false]), some c_route_so, some c_runs_so, some c_number_so, some got_24, some c_word_so, some c_long_so, some (.tup [.tup [.str "r", .int 1], .tup [.str "u", .int 1], .tup [.str "r", .int 1], .tup [.str "u", .int 1], .tup [.str "r", .int 1], .tup [.str "u", .int 1], .tup [.str "r", .int 1], .tup [.str "u", .int 1], .tup [.str "r", .int 1], .tup [.str "u", .int 1], .tup [.str "r", .int 1], .tup [.str "u", .int 1], .tup [.str "r", .int 1], .tup [.str "u", .int 1], .tup [.str "r", .int 1], .tup [.str "u", .int 1], .tup [.str "r", .int 1], .tup [.str "u", .int 1], .tup [.str "r", .int 1], .tup [.str "u", .int 1], .tup [.str "r", .int 1], .tup [.str "u", .int 1], .tup [.str "r", .int 1], .tup [.str "u", .int 1], .tup [.str "r", .int 1], .tup [.str "u", .int 1], .tup [.str "r", .int 1], .tup [.str "u", .int 1], .tup [.str "r", .int 1], .tup [.str "u", .int 1], .tup [.str "r", .int 1], .tup [.str "u", .int 1], .tup [.str "r", .int 1], .tup [.str "u", .int 1], .tup [.str "r", .int 1], .tup [.str "u", .int 1], .tup [.str "r", .int 1], .tup [.str "u", .int 1], .tup [.str "r", .int 1], .tup [.str "u", .int 1], .tup [.str "r", .int 1], .tup [.str "u", .int 1], .tup [.str "r", .int 1], .tup [.str "u", .int 1], .tup [.str "r", .int 1], .tup [.str "u", .int 1], .tup [.str "r", .int 1], .tup [.str "u", .int 1], .tup [.str "r", .int 1], .tup [.str "u", .int 1], .tup [.str "r", .int 1], .tup [.str "u", .int 1], .tup [.str "r", .int 1], .tup [.str "u", .int 1], .tup [.str "r", .int 1], .tup [.str "u", .int 1], .tup [.str "r", .int 1], .tup [.str "u", .int 1], .tup [.str "r", .int 1], .tup [.str "u", .int 1], .tup [.str "r", .int 1], .tup [.str "u", .int 1], .tup [.str "r", .int 1], .tup [.str "u", .int 1], .tup [.str "r", .int 1], .tup [.str "u", .int 1], .tup [.str "r", .int 1], .tup [.str "u", .int 1], .tup [.str "r", .int 1], .tup [.str "u", .int 1], .tup [.str "r", .int 1], .tup [.str "u", .int 1], .tup [.str "r", .int 1], .tup [.str "u", .int 1], .tup [.str "r", .int 1], .tup [.str "u", .int 1], .tup [.str "r", .int 1], .tup [.str "u", .int 1], .tup [.str "r", .int 1], .tup [.str "u", .int 1], .tup [.str "r", .int 1], .tup [.str "u", .int 1], .tup [.str "r", .int 1], .tup [.str "u", .int 1], .tup [.str "r", .int 1], .tup [.str "u", .int 1], .tup [.str "r", .int 1], .tup [.str "u", .int 1], .tup [.str "r", .int 1], .tup [.str "u", .int 1], .tup [.str "r", .int 1], .tup [.str "u", .int 1], .tup [.str "r", .int 1], .tup [.str "u", .int 1], .tup [.str "r", .int 1], .tup [.str "u", .int 1], .tup [.str "r", .int 1], .tup [.str "u", .int 1], .tup [.str "r", .int 1], .tup [.str "u", .int 1], .tup [.str "r", .int 1], .tup [.str "u", .int 1], .tup [.str "r", .int 1], .tup [.str "u", .int 1], .tup [.str "r", .int 1], .tup [.str "u", .int 1], .tup [.str "r", .int 1], .tup [.str "u", .int 1], .tup [.str "r", .int 1], .tup [.str "u", .int 1], .tup [.str "r", .int 1], .tup [.str "u", .int 1], .tup [.str "r", .int 1], .tup [.str "u", .int 1], .tup [.str "r", .int 1], .tup [.str "u", .int 1], .tup [.str "r", .int 1], .tup [.str "u", .int 1], .tup [.str "r", .int 1], .tup [.str "u", .int 1], .tup [.str "r", .int 1], .tup [.str "u", .int 1], .tup [.str "r", .int 1], .tup [.str "u", .int 1], .tup [.str "r", .int 1], .tup [.str "u", .int 1], .tup [.str "r", .int 1], .tup [.str "u", .int 1], .tup [.str "r", .int 1], .tup [.str "u", .int 1], .tup [.str "r", .int 1], .tup [.str "u", .int 1], .tup [.str "r", .int 1], .tup [.str "u", .int 1], .tup [.str "r", .int 1], .tup [.str "u", .int 1], .tup [.str "r", .int 1], .tup [.str "u", .int 1], .tup [.str "r", .int 1], .tup [.str "u", .int 1], .tup [.str "r", .int 1], .tup [.str "u", .int 1], .tup [.str "r", .int 1], .tup [.str "u", .int 1], .tup [.str "r", .int 1], .tup [.str "u", .int 1], .tup [.str "r", .int 1], .tup [.str "u", .int 1], .tup [.str "r", .int 1], .tup [.str "u", .int 1], .tup [.str "r", .int 1], .tup [.str "u", .int 1], .tup [.str "r", .int 1], .tup [.str "u", .int 1], .tup [.str "r", .int 1], .tup [.str "u", .int 1], .tup [.str "r", .int 1], .tup [.str "u", .int 1], .tup [.str "r", .int 1], .tup [.str "u", .int 1], .tup [.str "r", .int 1], .tup [.str "u", .int 1], .tup [.str "r", .int 1], .tup [.str "u", .int 1], .tup [.str "r", .int 1], .tup [.str "u", .int 1], .tup [.str "r", .int 1], .tup [.str "u", .int 1], .tup [.str "r", .int 1], .tup [.str "u", .int 1], .tup [.str "r", .int 1], .tup [.str "u", .int 1], .tup [.str "r", .int 1], .tup [.str "u", .int 1], .tup [.str "r", .int 1], .tup [.str "u", .int 1], .tup [.str "r", .int 1], .tup [.str "u", .int 1], .tup [.str "r", .int 1], .tup [.str "u", .int 1], .tup [.str "r", .int 1], .tup [.str "u", .int 1], .tup [.str "r", .int 1], .tup [.str "u", .int 1], .tup [.str "r", .int 1], .tup [.str "u", .int 1], .tup [.str "r", .int 1], .tup [.str "u", .int 1], .tup [.str "r", .int 1], .tup [.str "u", .int 1], .tup [.str "r", .int 1], .tup [.str "u", .int 1], .tup [.str "r", .int 1], .tup [.str "u", .int 1], .tup [.str "r", .int 1], .tup [.str "u", .int 1], .tup [.str "r", .int 1], .tup [.str "u", .int 1], .tup [.str "r", .int 1], .tup [.str "u", .int 1]]), some (.lst [.tup [.int 1, .int 1, .int 2], .tup [.tup [.int 0, .int 0], .tup [.int 1, .int 0], .tup [.int 1, .int 1], .tup [.int 0, .int 1]], .tup [.int 0, .int 0, .int 2, .int (-2)], .str "dr", .str "lur", .str "rdl", .str "lur", .str "ruldl", .bl true, .int (-1), .bl true, .bl true, .tup [.tup [.str "r", .int 2], .tup [.str "u", .int 2], .tup [.str "r", .int 1]], .str "rru", .tup [.int 0, .int 100000000000000000000, .int 10000000000000000000000000000000000000000], .int 5]), none] ρ24 := k24 _ h23
  refine stepR 25 hb0 rfl B ht13 h24 (.s (.s (.n (.n (.n (.n (.n (.n (.s (.n (.n (.n (.s (.s (.e))))))))))))))) st_25 ?_
  exact RetP.mk (S2 := []) (R := [(c, lt13)]) rfl (h _)
end Ar
namespace Ar
open PySem PySem.Spec PyProof.Rows L2


theorem has_mk {K : PySem.W.Frag} {h : Heap} {mg : Str → Option Value} {x : Str} {st : Stmt} {f : Addr} {ps : List Str} {od an : Option Addr} {sl : Array (Option Value)} {oc kV dc pm cd ct : Value} (X : K.In h) (G : h.Ns mainGlobals mg)
    (a : PySem.W.nsIn K mainGlobals x = some (some (.ref f))) (l : K.lookup f = some ⟨oc, od, .func (PySem.W.fnOf x x (defArgs st) (defBody st) (defScope st) .none kV dc pm an cd ct), sl⟩) (c : PySem.W.codeIn K cd x = true) (k : PySem.W.keepIn K (.ref f) = true)
    (b : ∀ (kV doc pm : Value) (an : Option Addr) (cdv ct : Value) (us : List Value), us.length = ps.length → bindArgs (PySem.W.fnOf x x (defArgs st) (defBody st) (defScope st) .none kV doc pm an cdv ct) ⟨us, []⟩ = pure (ps.zip us)) : Has K mg x st ps := by
  have F := fun_mk (st := st) l c k
  exact ⟨f, _, F, PySem.W.mg_of X G a, F.binds b⟩
theorem law_mk {K : PySem.W.Frag} {h : Heap} {mg : Str → Option Value} {x : Str} {st : Stmt} {f fa : Addr} {od an : Option Addr} {sl : Array (Option Value)} {oc kV dc pm cd ct : Value} (X : K.In h) (G : h.Ns mainGlobals mg) (hmg : mg x = some (.ref fa))
    (a : PySem.W.nsIn K mainGlobals x = some (some (.ref f))) (l : K.lookup f = some ⟨oc, od, .func (PySem.W.fnOf x x (defArgs st) (defBody st) (defScope st) .none kV dc pm an cd ct), sl⟩) (c : PySem.W.codeIn K cd x = true) (k : PySem.W.keepIn K (.ref f) = true)
    (b : ∀ (kV doc pm : Value) (an : Option Addr) (cdv ct : Value) (us : List Value), us.length = 1 → bindArgs (PySem.W.fnOf x x (defArgs st) (defBody st) (defScope st) .none kV doc pm an cdv ct) ⟨us, []⟩ = pure ((["script"] : List Str).zip us)) : ∃ fd, Fun K x x st fa fd ∧ ∀ (s : Shared) (u : Value), BindsTo s fd ⟨[u], []⟩ [("script", u)] := by
  have e := (PySem.W.mg_of X G a).symm.trans hmg
  cases e
  exact ⟨_, fun_mk (st := st) l c k, fun s u => .of_eq (b kV dc pm an cd ct [u] rfl)⟩
theorem Fun_has {K : PySem.W.Frag} {mg : Str → Option Value} {x : Str} {st : Stmt} {fa : Addr} {fd : FuncData} (F : Fun K x x st fa fd) (hmg : mg x = some (.ref fa)) (b : ∀ (s : Shared) (u : Value), BindsTo s fd ⟨[u], []⟩ [("script", u)]) : Has K mg x st ["script"] :=
  ⟨fa, fd, F, hmg, fun s us _ hl => by
    match us, hl with
    | [u], _ => exact b s u⟩
theorem glob_t3 {K : PySem.W.Frag} {h : Heap} {mg : Str → Option Value} {x : Str} {p : Addr} {od : Option Addr} {sl : Array (Option Value)} {i j k : Int} {t1 t2 t3' : Tok} {n : Nat} (X : K.In h) (G : h.Ns mainGlobals mg) (a : PySem.W.nsIn K mainGlobals x = some (some (.ref p)))
    (l : K.lookup p = some ⟨.type "tuple", od, .seq #[.int i t1, .int j t2, .int k t3'] n, sl⟩) : GlobD K mg x (t3 i j k) := by
  refine ⟨_, .ref p, PySem.W.mg_of X G a, rfl, fun Z H => ?_⟩
  unfold Rep
  exact ⟨p, [.int i, .int j, .int k], rfl, .inr ⟨_, _, n, l, rfl, rfl, sz rfl, .cons ⟨_, rfl⟩ (.cons ⟨_, rfl⟩ (.cons ⟨_, rfl⟩ .nil))⟩, .cons rep_int (.cons rep_int (.cons rep_int .nil))⟩
theorem rep_t3 {K : PySem.W.Frag} {q : Addr} {od : Option Addr} {sl : Array (Option Value)} {i j k : Int} {t u v : Tok} {n : Nat} (l : K.lookup q = some ⟨.type "tuple", od, .seq #[.int i t, .int j u, .int k v] n, sl⟩) (Z : List Addr) (H : Hp) : Rep K Z H (t3 i j k) (.ref q) := by
  unfold Rep
  exact ⟨q, [.int i, .int j, .int k], rfl, .inr ⟨_, _, n, l, rfl, rfl, sz rfl, .cons ⟨_, rfl⟩ (.cons ⟨_, rfl⟩ (.cons ⟨_, rfl⟩ .nil))⟩, .cons rep_int (.cons rep_int (.cons rep_int .nil))⟩
theorem glob_mp {K : PySem.W.Frag} {h : Heap} {mg : Str → Option Value} {x : Str} {p q1 q2 : Addr} {od od1 od2 : Option Addr} {sl sl1 sl2 : Array (Option Value)} {i j k i' j' k' : Int} {a1 a2 a3 b1 b2 b3 : Tok} {n n1 n2 : Nat} (X : K.In h) (G : h.Ns mainGlobals mg) (a : PySem.W.nsIn K mainGlobals x = some (some (.ref p)))
    (l : K.lookup p = some ⟨.type "tuple", od, .seq #[.ref q1, .ref q2] n, sl⟩) (l1 : K.lookup q1 = some ⟨.type "tuple", od1, .seq #[.int i a1, .int j a2, .int k a3] n1, sl1⟩) (l2 : K.lookup q2 = some ⟨.type "tuple", od2, .seq #[.int i' b1, .int j' b2, .int k' b3] n2, sl2⟩) : GlobD K mg x (.tup [t3 i j k, t3 i' j' k']) := by
  refine ⟨_, .ref p, PySem.W.mg_of X G a, rfl, fun Z H => ?_⟩
  unfold Rep
  exact ⟨p, [.ref q1, .ref q2], rfl, .inr ⟨_, _, n, l, rfl, rfl, sz rfl, .cons rfl (.cons rfl .nil)⟩, .cons (rep_t3 l1 Z H) (.cons (rep_t3 l2 Z H) .nil)⟩
theorem glob_int {K : PySem.W.Frag} {h : Heap} {mg : Str → Option Value} {x : Str} {i : Int} {t : Tok} (X : K.In h) (G : h.Ns mainGlobals mg) (a : PySem.W.nsIn K mainGlobals x = some (some (.int i t))) : GlobD K mg x (.int i) := ⟨_, .int i, PySem.W.mg_of X G a, ⟨_, rfl⟩, fun Z H => rep_int⟩
theorem glob_str {K : PySem.W.Frag} {h : Heap} {mg : Str → Option Value} {x i : Str} {t : Tok} (X : K.In h) (G : h.Ns mainGlobals mg) (a : PySem.W.nsIn K mainGlobals x = some (some (.str i t))) : GlobD K mg x (.str i) := ⟨_, .str i, PySem.W.mg_of X G a, ⟨_, rfl⟩, fun Z H => rep_str⟩
theorem nob_mk {K : PySem.W.Frag} {h : Heap} {mg : Str → Option Value} (X : K.In h) (G : h.Ns mainGlobals mg) (z : ∀ x, x ∈ (["len", "abs", "int", "isinstance", "all", "any", "sum", "tuple", "list", "range", "zip", "enumerate", "bool", "str", "min", "max", "sorted", "divmod", "set", "dict", "pow", "ord", "chr", "reversed", "type"] : List Str) → PySem.W.nsIn K mainGlobals x = some none) : NoB mg := ⟨fun x hx => PySem.W.mg_none_of X G (z x (by
  unfold bltB at hx
  simp only [Bool.or_eq_true, beq_iff_eq] at hx
  simp only [List.mem_cons, List.not_mem_nil, or_false]
  simp only [or_assoc] at hx
  exact hx))⟩


theorem rep_pair {K : PySem.W.Frag} {q : Addr} {od : Option Addr} {sl : Array (Option Value)} {i j : Int} {t u : Tok} {n : Nat} (l : K.lookup q = some ⟨.type "tuple", od, .seq #[.int i t, .int j u] n, sl⟩) (Z : List Addr) (H : Hp) : Rep K Z H (.tup [.int i, .int j]) (.ref q) := by
  unfold Rep
  exact ⟨q, [.int i, .int j], rfl, .inr ⟨_, _, n, l, rfl, rfl, sz rfl, .cons ⟨_, rfl⟩ (.cons ⟨_, rfl⟩ .nil)⟩, .cons rep_int (.cons rep_int .nil)⟩
theorem dict_steps {K : PySem.W.Frag} {w : World} {h : Heap} {mg : Str → Option Value} {p : Addr} {es : Array DictEntry} {q1 q2 q3 q4 : Nat} {od1 od2 od3 od4 : Option Addr} {sl1 sl2 sl3 sl4 : Array (Option Value)} {t1 t2 t3 t4 u1 u2 u3 u4 : Tok} {n1 n2 n3 n4 m : Nat} (X : K.In h) (G : h.Ns mainGlobals mg) (a : PySem.W.nsIn K mainGlobals "STEPS" = some (some (.ref p)))
    (l : K.lookup p = some ⟨.type "dict", none, .dict es m, #[]⟩) (hk : PySem.W.KeysLit w.params es.toList)
    (r1 : PySem.W.nsIn K p "r" = some (some (.ref q1))) (l1 : K.lookup q1 = some ⟨.type "tuple", od1, .seq #[.int 1 t1, .int 0 u1] n1, sl1⟩) (r2 : PySem.W.nsIn K p "u" = some (some (.ref q2))) (l2 : K.lookup q2 = some ⟨.type "tuple", od2, .seq #[.int 0 t2, .int 1 u2] n2, sl2⟩) (r3 : PySem.W.nsIn K p "l" = some (some (.ref q3))) (l3 : K.lookup q3 = some ⟨.type "tuple", od3, .seq #[.int (-1) t3, .int 0 u3] n3, sl3⟩) (r4 : PySem.W.nsIn K p "d" = some (some (.ref q4))) (l4 : K.lookup q4 = some ⟨.type "tuple", od4, .seq #[.int 0 t4, .int (-1) u4] n4, sl4⟩) : DictG K w mg "STEPS" stepF := by
  refine ⟨p, PySem.W.mg_of X G a, fun z d hz => ?_⟩
  obtain ⟨⟨zs⟩⟩ := z
  unfold stepF at hz
  dsimp only at hz
  split at hz
  · cases hz
    exact ⟨.ref q1, ⟨es, m, _, l, hk, r1, rfl⟩, rep_pair l1⟩
  · cases hz
    exact ⟨.ref q2, ⟨es, m, _, l, hk, r2, rfl⟩, rep_pair l2⟩
  · cases hz
    exact ⟨.ref q3, ⟨es, m, _, l, hk, r3, rfl⟩, rep_pair l3⟩
  · cases hz
    exact ⟨.ref q4, ⟨es, m, _, l, hk, r4, rfl⟩, rep_pair l4⟩
  · cases hz


theorem dict_mir {K : PySem.W.Frag} {w : World} {h : Heap} {mg : Str → Option Value} {p : Addr} {es : Array DictEntry} {y1 y2 y3 y4 : Str} {t1 t2 t3 t4 : Tok} {m : Nat} (X : K.In h) (G : h.Ns mainGlobals mg) (a : PySem.W.nsIn K mainGlobals "MIRRORED" = some (some (.ref p)))
    (l : K.lookup p = some ⟨.type "dict", none, .dict es m, #[]⟩) (hk : PySem.W.KeysLit w.params es.toList)
    (r1 : PySem.W.nsIn K p "r" = some (some (.str y1 t1))) (e1 : y1 = ⟨#[108]⟩) (r2 : PySem.W.nsIn K p "u" = some (some (.str y2 t2))) (e2 : y2 = ⟨#[117]⟩) (r3 : PySem.W.nsIn K p "l" = some (some (.str y3 t3))) (e3 : y3 = ⟨#[114]⟩) (r4 : PySem.W.nsIn K p "d" = some (some (.str y4 t4))) (e4 : y4 = ⟨#[100]⟩) : DictG K w mg "MIRRORED" mirF := by
  subst e1 e2 e3 e4
  refine ⟨p, PySem.W.mg_of X G a, fun z d hz => ?_⟩
  obtain ⟨⟨zs⟩⟩ := z
  unfold mirF at hz
  dsimp only at hz
  split at hz
  · cases hz
    exact ⟨.str ⟨#[108]⟩, ⟨es, m, _, l, hk, r1, ⟨_, rfl⟩⟩, fun _ _ => rep_str⟩
  · cases hz
    exact ⟨.str ⟨#[117]⟩, ⟨es, m, _, l, hk, r2, ⟨_, rfl⟩⟩, fun _ _ => rep_str⟩
  · cases hz
    exact ⟨.str ⟨#[114]⟩, ⟨es, m, _, l, hk, r3, ⟨_, rfl⟩⟩, fun _ _ => rep_str⟩
  · cases hz
    exact ⟨.str ⟨#[100]⟩, ⟨es, m, _, l, hk, r4, ⟨_, rfl⟩⟩, fun _ _ => rep_str⟩
  · cases hz


theorem kw_mk {K : PySem.W.Frag} {h : Heap} {mg : Str → Option Value} {x : Str} {st : Stmt} {f : Addr} {ks : List Str} {pm : List Nat} {od an : Option Addr} {sl : Array (Option Value)} {oc kV dc pmm cd ct : Value} (X : K.In h) (G : h.Ns mainGlobals mg)
    (a : PySem.W.nsIn K mainGlobals x = some (some (.ref f))) (l : K.lookup f = some ⟨oc, od, .func (PySem.W.fnOf x x (defArgs st) (defBody st) (defScope st) .none kV dc pmm an cd ct), sl⟩)
    (b : ∀ (kV doc pmm : Value) (an : Option Addr) (cdv ct : Value) (us : List Value), us.length = ks.length → bindArgs (PySem.W.fnOf x x (defArgs st) (defBody st) (defScope st) .none kV doc pmm an cdv ct) ⟨[], ks.zip us⟩ = bindArgs (PySem.W.fnOf x x (defArgs st) (defBody st) (defScope st) .none kV doc pmm an cdv ct) ⟨permL pm us, []⟩) : KwOk K mg x ks pm :=
  ⟨f, _, PySem.W.mg_of X G a, ⟨_, _, _, l⟩, fun ws hl => b _ _ _ _ _ _ ws hl⟩
theorem glob_empty {K : PySem.W.Frag} {h : Heap} {mg : Str → Option Value} {x : Str} {p : Addr} {od : Option Addr} {sl : Array (Option Value)} {k : Int} {t3' : Tok} {n : Nat} (X : K.In h) (G : h.Ns mainGlobals mg) (a : PySem.W.nsIn K mainGlobals x = some (some (.ref p)))
    (l : K.lookup p = some ⟨.type "tuple", od, .seq #[.none, .none, .int k t3'] n, sl⟩) : GlobD K mg x (.tup [.non, .non, .int k]) := by
  refine ⟨_, .ref p, PySem.W.mg_of X G a, rfl, fun Z H => ?_⟩
  unfold Rep
  exact ⟨p, [.non, .non, .int k], rfl, .inr ⟨_, _, n, l, rfl, rfl, sz rfl, .cons rfl (.cons rfl (.cons ⟨_, rfl⟩ .nil))⟩, .cons rep_non (.cons rep_non (.cons rep_int .nil))⟩
theorem glob_whole {K : PySem.W.Frag} {h : Heap} {mg : Str → Option Value} {x : Str} {p q1 q2 : Addr} {od od1 od2 : Option Addr} {sl sl1 sl2 : Array (Option Value)} {i j k i' j' k' m : Int} {a1 a2 a3 b1 b2 b3 c1 : Tok} {n n1 n2 : Nat} (X : K.In h) (G : h.Ns mainGlobals mg) (a : PySem.W.nsIn K mainGlobals x = some (some (.ref p)))
    (l : K.lookup p = some ⟨.type "tuple", od, .seq #[.ref q1, .ref q2, .int m c1] n, sl⟩) (l1 : K.lookup q1 = some ⟨.type "tuple", od1, .seq #[.int i a1, .int j a2, .int k a3] n1, sl1⟩) (l2 : K.lookup q2 = some ⟨.type "tuple", od2, .seq #[.int i' b1, .int j' b2, .int k' b3] n2, sl2⟩) : GlobD K mg x (.tup [.tup [.int i, .int j, .int k], .tup [.int i', .int j', .int k'], .int m]) := by
  refine ⟨_, .ref p, PySem.W.mg_of X G a, rfl, fun Z H => ?_⟩
  unfold Rep
  exact ⟨p, [.ref q1, .ref q2, .int m], rfl, .inr ⟨_, _, n, l, rfl, rfl, sz rfl, .cons rfl (.cons rfl (.cons ⟨_, rfl⟩ .nil))⟩, .cons (rep_t3 l1 Z H) (.cons (rep_t3 l2 Z H) (.cons rep_int .nil))⟩
theorem uc_mk {K : PySem.W.Frag} {h : Heap} {mg : Str → Option Value} {U0 C0 : Addr} (X : K.In h) (G : h.Ns mainGlobals mg) (aU : PySem.W.nsIn K mainGlobals "Unfit" = some (some (.ref U0))) (aC : PySem.W.nsIn K mainGlobals "CanNot" = some (some (.ref C0)))
    (sC : PySem.W.subIn K (.ref C0) (.type "BaseException") = some true) (dC : PySem.W.hasDictIn K C0 = true) (tC : PySem.W.typeIn K (.ref C0) = some (.type "type")) (uc : PySem.W.subIn K (.ref U0) (.ref C0) = some false) : ∀ U C, mg "Unfit" = some (.ref U) → mg "CanNot" = some (.ref C) → PySem.W.exmOne K (.ref U) (.ref C) = some false := fun U C hU hC => by
  have e1 := (PySem.W.mg_of X G aU).symm.trans hU
  have e2 := (PySem.W.mg_of X G aC).symm.trans hC
  cases e1
  cases e2
  exact PySem.W.exm_ref sC dC tC uc
theorem excs_mk {K : PySem.W.Frag} {h : Heap} {mg : Str → Option Value} {U C T : Addr} (X : K.In h) (G : h.Ns mainGlobals mg)
    (aU : PySem.W.nsIn K mainGlobals "Unfit" = some (some (.ref U))) (aC : PySem.W.nsIn K mainGlobals "CanNot" = some (some (.ref C))) (aT : PySem.W.nsIn K mainGlobals "TooMany" = some (some (.ref T)))
    (xU : PySem.W.excIn K U [.type "ValueError", .type "Exception", .type "BaseException", .type "object"] "ValueError.__new__" = true) (xC : PySem.W.excIn K C [.type "ValueError", .type "Exception", .type "BaseException", .type "object"] "ValueError.__new__" = true) (xT : PySem.W.excIn K T [.type "ValueError", .type "Exception", .type "BaseException", .type "object"] "ValueError.__new__" = true)
    (kU : PySem.W.keepIn K (.ref U) = true) (kC : PySem.W.keepIn K (.ref C) = true) (kT : PySem.W.keepIn K (.ref T) = true)
    (sU : PySem.W.subIn K (.ref U) (.type "BaseException") = some true) (sC : PySem.W.subIn K (.ref C) (.type "BaseException") = some true) (sT : PySem.W.subIn K (.ref T) (.type "BaseException") = some true)
    (tU : PySem.W.typeIn K (.ref U) = some (.type "type")) (tC : PySem.W.typeIn K (.ref C) = some (.type "type")) (tT : PySem.W.typeIn K (.ref T) = some (.type "type"))
    (gU : PySem.W.findIn K (.ref U) "__getattribute__" = some (some (.builtin "BaseException.__getattribute__"))) (gC : PySem.W.findIn K (.ref C) "__getattribute__" = some (some (.builtin "BaseException.__getattribute__"))) (gT : PySem.W.findIn K (.ref T) "__getattribute__" = some (some (.builtin "BaseException.__getattribute__")))
    (hU : PySem.W.findIn K (.ref U) "__getattr__" = some none) (hC : PySem.W.findIn K (.ref C) "__getattr__" = some none) (hT : PySem.W.findIn K (.ref T) "__getattr__" = some none)
    (dU : PySem.W.hasDictIn K U = true) (dC : PySem.W.hasDictIn K C = true) (dT : PySem.W.hasDictIn K T = true)
    (cU : PySem.W.findIn K (.ref U) "__class__" = some (some (.builtin "object.__class__"))) (cC : PySem.W.findIn K (.ref C) "__class__" = some (some (.builtin "object.__class__"))) (cT : PySem.W.findIn K (.ref T) "__class__" = some (some (.builtin "object.__class__")))
    (hn : PySem.W.specialIn K (.builtin "object.__class__") "__get__" = some (some (.builtin "getset_descriptor.__get__"))) (ht : PySem.W.takesIn K (.builtin "object.__class__") = some true)
    (mU : PySem.W.mroIn K U (.type "object") = some true) (mC : PySem.W.mroIn K C (.type "object") = some true) (mT : PySem.W.mroIn K T (.type "object") = some true)
    (uu : PySem.W.subIn K (.ref U) (.ref U) = some true) (cu : PySem.W.subIn K (.ref C) (.ref U) = some false) (tu : PySem.W.subIn K (.ref T) (.ref U) = some false) (cc : PySem.W.subIn K (.ref C) (.ref C) = some true) (tc : PySem.W.subIn K (.ref T) (.ref C) = some false) (tt : PySem.W.subIn K (.ref T) (.ref T) = some true)
    (u1 : PySem.W.kitOne K (.ref U) (.type "ValueError") = some true) (c1 : PySem.W.kitOne K (.ref C) (.type "ValueError") = some true) (t1 : PySem.W.kitOne K (.ref T) (.type "ValueError") = some true)
    (u2 : PySem.W.kitAny K (.ref U) [.ref C, .ref T, .type "LookupError"] = some false) (c2 : PySem.W.kitAny K (.ref C) [.ref T, .type "LookupError"] = some false) (t2 : PySem.W.kitOne K (.ref T) (.type "LookupError") = some false)
    (nv : PySem.W.nsIn K mainGlobals "ValueError" = some none) (nl : PySem.W.nsIn K mainGlobals "LookupError" = some none) : ∃ U C T, Excs K mg U C T :=
  ⟨U, C, T, ⟨⟨PySem.W.mg_of X G aU, xU, kU, sU, tU, ⟨gU, hU, sU, dU, cU, hn, ht, mU⟩⟩, ⟨PySem.W.mg_of X G aC, xC, kC, sC, tC, ⟨gC, hC, sC, dC, cC, hn, ht, mC⟩⟩, ⟨PySem.W.mg_of X G aT, xT, kT, sT, tT, ⟨gT, hT, sT, dT, cT, hn, ht, mT⟩⟩,
    PySem.W.exm_ref sU dU tU uu, PySem.W.exm_ref sU dU tU cu, PySem.W.exm_ref sU dU tU tu, PySem.W.exm_ref sC dC tC cc, PySem.W.exm_ref sC dC tC tc, PySem.W.exm_ref sT dT tT tt,
    u1, c1, t1, u2, c2, t2, PySem.W.mg_none_of X G nv, PySem.W.mg_none_of X G nl⟩⟩

theorem kwb_0 (kV dc pmm : Value) (an : Option Addr) (cdv ct : Value) (us : List Value) (hl : us.length = 1) : bindArgs (PySem.W.fnOf "deed_of" "deed_of" (defArgs (topS 27)) (defBody (topS 27)) (defScope (topS 27)) .none kV dc pmm an cdv ct) ⟨[], (["route"] : List Str).zip us⟩ = bindArgs (PySem.W.fnOf "deed_of" "deed_of" (defArgs (topS 27)) (defBody (topS 27)) (defScope (topS 27)) .none kV dc pmm an cdv ct) ⟨permL [0] us, []⟩ := match us, hl with | [_], _ => by kernel_rfl
theorem kwb_1 (kV dc pmm : Value) (an : Option Addr) (cdv ct : Value) (us : List Value) (hl : us.length = 1) : bindArgs (PySem.W.fnOf "corners_of" "corners_of" (defArgs (topS 28)) (defBody (topS 28)) (defScope (topS 28)) .none kV dc pmm an cdv ct) ⟨[], (["route"] : List Str).zip us⟩ = bindArgs (PySem.W.fnOf "corners_of" "corners_of" (defArgs (topS 28)) (defBody (topS 28)) (defScope (topS 28)) .none kV dc pmm an cdv ct) ⟨permL [0] us, []⟩ := match us, hl with | [_], _ => by kernel_rfl
theorem kwb_2 (kV dc pmm : Value) (an : Option Addr) (cdv ct : Value) (us : List Value) (hl : us.length = 1) : bindArgs (PySem.W.fnOf "squares_beside" "squares_beside" (defArgs (topS 31)) (defBody (topS 31)) (defScope (topS 31)) .none kV dc pmm an cdv ct) ⟨[], (["route"] : List Str).zip us⟩ = bindArgs (PySem.W.fnOf "squares_beside" "squares_beside" (defArgs (topS 31)) (defBody (topS 31)) (defScope (topS 31)) .none kV dc pmm an cdv ct) ⟨permL [0] us, []⟩ := match us, hl with | [_], _ => by kernel_rfl
theorem kwb_3 (kV dc pmm : Value) (an : Option Addr) (cdv ct : Value) (us : List Value) (hl : us.length = 2) : bindArgs (PySem.W.fnOf "turned_route" "turned_route" (defArgs (topS 21)) (defBody (topS 21)) (defScope (topS 21)) .none kV dc pmm an cdv ct) ⟨[], (["quarters", "route"] : List Str).zip us⟩ = bindArgs (PySem.W.fnOf "turned_route" "turned_route" (defArgs (topS 21)) (defBody (topS 21)) (defScope (topS 21)) .none kV dc pmm an cdv ct) ⟨permL [1, 0] us, []⟩ := match us, hl with | [_, _], _ => by kernel_rfl
theorem kwb_4 (kV dc pmm : Value) (an : Option Addr) (cdv ct : Value) (us : List Value) (hl : us.length = 1) : bindArgs (PySem.W.fnOf "mirrored_route" "mirrored_route" (defArgs (topS 22)) (defBody (topS 22)) (defScope (topS 22)) .none kV dc pmm an cdv ct) ⟨[], (["route"] : List Str).zip us⟩ = bindArgs (PySem.W.fnOf "mirrored_route" "mirrored_route" (defArgs (topS 22)) (defBody (topS 22)) (defScope (topS 22)) .none kV dc pmm an cdv ct) ⟨permL [0] us, []⟩ := match us, hl with | [_], _ => by kernel_rfl
theorem kwb_5 (kV dc pmm : Value) (an : Option Addr) (cdv ct : Value) (us : List Value) (hl : us.length = 1) : bindArgs (PySem.W.fnOf "walked_back" "walked_back" (defArgs (topS 24)) (defBody (topS 24)) (defScope (topS 24)) .none kV dc pmm an cdv ct) ⟨[], (["route"] : List Str).zip us⟩ = bindArgs (PySem.W.fnOf "walked_back" "walked_back" (defArgs (topS 24)) (defBody (topS 24)) (defScope (topS 24)) .none kV dc pmm an cdv ct) ⟨permL [0] us, []⟩ := match us, hl with | [_], _ => by kernel_rfl
theorem kwb_6 (kV dc pmm : Value) (an : Option Addr) (cdv ct : Value) (us : List Value) (hl : us.length = 1) : bindArgs (PySem.W.fnOf "read_back" "read_back" (defArgs (topS 25)) (defBody (topS 25)) (defScope (topS 25)) .none kV dc pmm an cdv ct) ⟨[], (["route"] : List Str).zip us⟩ = bindArgs (PySem.W.fnOf "read_back" "read_back" (defArgs (topS 25)) (defBody (topS 25)) (defScope (topS 25)) .none kV dc pmm an cdv ct) ⟨permL [0] us, []⟩ := match us, hl with | [_], _ => by kernel_rfl
theorem kwb_7 (kV dc pmm : Value) (an : Option Addr) (cdv ct : Value) (us : List Value) (hl : us.length = 1) : bindArgs (PySem.W.fnOf "bare" "bare" (defArgs (topS 33)) (defBody (topS 33)) (defScope (topS 33)) .none kV dc pmm an cdv ct) ⟨[], (["route"] : List Str).zip us⟩ = bindArgs (PySem.W.fnOf "bare" "bare" (defArgs (topS 33)) (defBody (topS 33)) (defScope (topS 33)) .none kV dc pmm an cdv ct) ⟨permL [0] us, []⟩ := match us, hl with | [_], _ => by kernel_rfl
theorem kwb_8 (kV dc pmm : Value) (an : Option Addr) (cdv ct : Value) (us : List Value) (hl : us.length = 1) : bindArgs (PySem.W.fnOf "is_closed" "is_closed" (defArgs (topS 29)) (defBody (topS 29)) (defScope (topS 29)) .none kV dc pmm an cdv ct) ⟨[], (["route"] : List Str).zip us⟩ = bindArgs (PySem.W.fnOf "is_closed" "is_closed" (defArgs (topS 29)) (defBody (topS 29)) (defScope (topS 29)) .none kV dc pmm an cdv ct) ⟨permL [0] us, []⟩ := match us, hl with | [_], _ => by kernel_rfl
theorem kwb_9 (kV dc pmm : Value) (an : Option Addr) (cdv ct : Value) (us : List Value) (hl : us.length = 1) : bindArgs (PySem.W.fnOf "area_inside" "area_inside" (defArgs (topS 30)) (defBody (topS 30)) (defScope (topS 30)) .none kV dc pmm an cdv ct) ⟨[], (["route"] : List Str).zip us⟩ = bindArgs (PySem.W.fnOf "area_inside" "area_inside" (defArgs (topS 30)) (defBody (topS 30)) (defScope (topS 30)) .none kV dc pmm an cdv ct) ⟨permL [0] us, []⟩ := match us, hl with | [_], _ => by kernel_rfl
theorem kwb_10 (kV dc pmm : Value) (an : Option Addr) (cdv ct : Value) (us : List Value) (hl : us.length = 1) : bindArgs (PySem.W.fnOf "is_route" "is_route" (defArgs (topS 17)) (defBody (topS 17)) (defScope (topS 17)) .none kV dc pmm an cdv ct) ⟨[], (["thing"] : List Str).zip us⟩ = bindArgs (PySem.W.fnOf "is_route" "is_route" (defArgs (topS 17)) (defBody (topS 17)) (defScope (topS 17)) .none kV dc pmm an cdv ct) ⟨permL [0] us, []⟩ := match us, hl with | [_], _ => by kernel_rfl
theorem kwb_11 (kV dc pmm : Value) (an : Option Addr) (cdv ct : Value) (us : List Value) (hl : us.length = 1) : bindArgs (PySem.W.fnOf "are_runs" "are_runs" (defArgs (topS 34)) (defBody (topS 34)) (defScope (topS 34)) .none kV dc pmm an cdv ct) ⟨[], (["thing"] : List Str).zip us⟩ = bindArgs (PySem.W.fnOf "are_runs" "are_runs" (defArgs (topS 34)) (defBody (topS 34)) (defScope (topS 34)) .none kV dc pmm an cdv ct) ⟨permL [0] us, []⟩ := match us, hl with | [_], _ => by kernel_rfl
theorem kwb_12 (kV dc pmm : Value) (an : Option Addr) (cdv ct : Value) (us : List Value) (hl : us.length = 1) : bindArgs (PySem.W.fnOf "runs_of" "runs_of" (defArgs (topS 37)) (defBody (topS 37)) (defScope (topS 37)) .none kV dc pmm an cdv ct) ⟨[], (["route"] : List Str).zip us⟩ = bindArgs (PySem.W.fnOf "runs_of" "runs_of" (defArgs (topS 37)) (defBody (topS 37)) (defScope (topS 37)) .none kV dc pmm an cdv ct) ⟨permL [0] us, []⟩ := match us, hl with | [_], _ => by kernel_rfl
theorem kwb_13 (kV dc pmm : Value) (an : Option Addr) (cdv ct : Value) (us : List Value) (hl : us.length = 1) : bindArgs (PySem.W.fnOf "route_of" "route_of" (defArgs (topS 38)) (defBody (topS 38)) (defScope (topS 38)) .none kV dc pmm an cdv ct) ⟨[], (["runs"] : List Str).zip us⟩ = bindArgs (PySem.W.fnOf "route_of" "route_of" (defArgs (topS 38)) (defBody (topS 38)) (defScope (topS 38)) .none kV dc pmm an cdv ct) ⟨permL [0] us, []⟩ := match us, hl with | [_], _ => by kernel_rfl
theorem kwb_14 (kV dc pmm : Value) (an : Option Addr) (cdv ct : Value) (us : List Value) (hl : us.length = 1) : bindArgs (PySem.W.fnOf "deed_of_runs" "deed_of_runs" (defArgs (topS 40)) (defBody (topS 40)) (defScope (topS 40)) .none kV dc pmm an cdv ct) ⟨[], (["runs"] : List Str).zip us⟩ = bindArgs (PySem.W.fnOf "deed_of_runs" "deed_of_runs" (defArgs (topS 40)) (defBody (topS 40)) (defScope (topS 40)) .none kV dc pmm an cdv ct) ⟨permL [0] us, []⟩ := match us, hl with | [_], _ => by kernel_rfl
theorem kwb_15 (kV dc pmm : Value) (an : Option Addr) (cdv ct : Value) (us : List Value) (hl : us.length = 1) : bindArgs (PySem.W.fnOf "length_of" "length_of" (defArgs (topS 41)) (defBody (topS 41)) (defScope (topS 41)) .none kV dc pmm an cdv ct) ⟨[], (["runs"] : List Str).zip us⟩ = bindArgs (PySem.W.fnOf "length_of" "length_of" (defArgs (topS 41)) (defBody (topS 41)) (defScope (topS 41)) .none kV dc pmm an cdv ct) ⟨permL [0] us, []⟩ := match us, hl with | [_], _ => by kernel_rfl
theorem kwb_16 (kV dc pmm : Value) (an : Option Addr) (cdv ct : Value) (us : List Value) (hl : us.length = 1) : bindArgs (PySem.W.fnOf "runs_back" "runs_back" (defArgs (topS 42)) (defBody (topS 42)) (defScope (topS 42)) .none kV dc pmm an cdv ct) ⟨[], (["runs"] : List Str).zip us⟩ = bindArgs (PySem.W.fnOf "runs_back" "runs_back" (defArgs (topS 42)) (defBody (topS 42)) (defScope (topS 42)) .none kV dc pmm an cdv ct) ⟨permL [0] us, []⟩ := match us, hl with | [_], _ => by kernel_rfl
theorem kwb_17 (kV dc pmm : Value) (an : Option Addr) (cdv ct : Value) (us : List Value) (hl : us.length = 2) : bindArgs (PySem.W.fnOf "runs_joined" "runs_joined" (defArgs (topS 43)) (defBody (topS 43)) (defScope (topS 43)) .none kV dc pmm an cdv ct) ⟨[], (["other", "one"] : List Str).zip us⟩ = bindArgs (PySem.W.fnOf "runs_joined" "runs_joined" (defArgs (topS 43)) (defBody (topS 43)) (defScope (topS 43)) .none kV dc pmm an cdv ct) ⟨permL [1, 0] us, []⟩ := match us, hl with | [_, _], _ => by kernel_rfl
theorem kwb_18 (kV dc pmm : Value) (an : Option Addr) (cdv ct : Value) (us : List Value) (hl : us.length = 2) : bindArgs (PySem.W.fnOf "step_after" "step_after" (defArgs (topS 44)) (defBody (topS 44)) (defScope (topS 44)) .none kV dc pmm an cdv ct) ⟨[], (["place", "runs"] : List Str).zip us⟩ = bindArgs (PySem.W.fnOf "step_after" "step_after" (defArgs (topS 44)) (defBody (topS 44)) (defScope (topS 44)) .none kV dc pmm an cdv ct) ⟨permL [1, 0] us, []⟩ := match us, hl with | [_, _], _ => by kernel_rfl
end Ar
namespace Ar
open PySem PySem.Spec PyProof.Rows L2


theorem law_spec {K : PySem.W.Frag} {H : Hp} {a : Addr} {ns : List Int} (hl : ns.length ≤ 63) (hS : SqL K H a (ns.map V.int)) : spOf K 1 cLaw [.ref a] H (fun v _ => v = .bl true) fun _ _ _ => False := by
  refine ⟨rfl, [], [.frz (ns.map D.int)], [], fun d _ => d = .bl true, ⟨List.nodup_nil, (by intro p l h; cases h), (by intro p h; cases h)⟩, .one ?_, ⟨ns, rfl, hl, rfl, fun _ => rfl⟩, fun v H' d S' _ _ _ r q => by subst q; exact r.bl⟩
  unfold Rep
  exact ⟨a, ns.map V.int, rfl, hS.imp (fun h => ⟨(by intro m; cases m), h⟩) id, RepL.of_ints ns⟩
end Ar
open PySem PySem.W PyProof.Rows in
set_option maxRecDepth 100000 in
set_option maxHeartbeats 0 in
theorem PySem.Challenge.cw_arearoutes_k32_routes_and_runs_refused_holds : PySem.Challenge.rw_arearoutes_k32_routes_and_runs_refused.Holds := by
  w_on; o_law; k_head; (case hw => w_witness2)
  k_fill
  refine L2.walk_of (l := PySem.Challenge.rw_arearoutes_k32_routes_and_runs_refused) (n := 63) (k := 23) (x := "script") (CX := fun _ => L2.CX0) (sp := fun w => Ar.spOf _ 1 Ar.cLaw) rfl (by decide) rfl ⟨rfl, by decide, by decide⟩ (fun w h Y => PySem.W.kIn_of Y) ?F (fun _ _ a ns hl _ hS => Ar.law_spec hl hS) (fun _ _ _ _ _ z => z)
  case F =>
    intro w mg fa h KX G hmg
    change mg "law" = some (.ref fa) at hmg
    have z_len : PySem.W.nsIn (L2.KOf KX) PySem.mainGlobals "len" = some none := by delta L2.KOf; k_is
    have z_abs : PySem.W.nsIn (L2.KOf KX) PySem.mainGlobals "abs" = some none := by delta L2.KOf; k_is
    have z_int : PySem.W.nsIn (L2.KOf KX) PySem.mainGlobals "int" = some none := by delta L2.KOf; k_is
    have z_isinstance : PySem.W.nsIn (L2.KOf KX) PySem.mainGlobals "isinstance" = some none := by delta L2.KOf; k_is
    have z_all : PySem.W.nsIn (L2.KOf KX) PySem.mainGlobals "all" = some none := by delta L2.KOf; k_is
    have z_any : PySem.W.nsIn (L2.KOf KX) PySem.mainGlobals "any" = some none := by delta L2.KOf; k_is
    have z_sum : PySem.W.nsIn (L2.KOf KX) PySem.mainGlobals "sum" = some none := by delta L2.KOf; k_is
    have z_tuple : PySem.W.nsIn (L2.KOf KX) PySem.mainGlobals "tuple" = some none := by delta L2.KOf; k_is
    have z_list : PySem.W.nsIn (L2.KOf KX) PySem.mainGlobals "list" = some none := by delta L2.KOf; k_is
    have z_range : PySem.W.nsIn (L2.KOf KX) PySem.mainGlobals "range" = some none := by delta L2.KOf; k_is
    have z_zip : PySem.W.nsIn (L2.KOf KX) PySem.mainGlobals "zip" = some none := by delta L2.KOf; k_is
    have z_enumerate : PySem.W.nsIn (L2.KOf KX) PySem.mainGlobals "enumerate" = some none := by delta L2.KOf; k_is
    have z_bool : PySem.W.nsIn (L2.KOf KX) PySem.mainGlobals "bool" = some none := by delta L2.KOf; k_is
    have z_str : PySem.W.nsIn (L2.KOf KX) PySem.mainGlobals "str" = some none := by delta L2.KOf; k_is
    have z_min : PySem.W.nsIn (L2.KOf KX) PySem.mainGlobals "min" = some none := by delta L2.KOf; k_is
    have z_max : PySem.W.nsIn (L2.KOf KX) PySem.mainGlobals "max" = some none := by delta L2.KOf; k_is
    have z_sorted : PySem.W.nsIn (L2.KOf KX) PySem.mainGlobals "sorted" = some none := by delta L2.KOf; k_is
    have z_divmod : PySem.W.nsIn (L2.KOf KX) PySem.mainGlobals "divmod" = some none := by delta L2.KOf; k_is
    have z_set : PySem.W.nsIn (L2.KOf KX) PySem.mainGlobals "set" = some none := by delta L2.KOf; k_is
    have z_dict : PySem.W.nsIn (L2.KOf KX) PySem.mainGlobals "dict" = some none := by delta L2.KOf; k_is
    have z_pow : PySem.W.nsIn (L2.KOf KX) PySem.mainGlobals "pow" = some none := by delta L2.KOf; k_is
    have z_ord : PySem.W.nsIn (L2.KOf KX) PySem.mainGlobals "ord" = some none := by delta L2.KOf; k_is
    have z_chr : PySem.W.nsIn (L2.KOf KX) PySem.mainGlobals "chr" = some none := by delta L2.KOf; k_is
    have z_reversed : PySem.W.nsIn (L2.KOf KX) PySem.mainGlobals "reversed" = some none := by delta L2.KOf; k_is
    have z_type : PySem.W.nsIn (L2.KOf KX) PySem.mainGlobals "type" = some none := by delta L2.KOf; k_is
    have h_is_number : Ar.Has (L2.KOf KX) mg "is_number" (Ar.topS 5) ["thing"] := by
      delta L2.KOf
      refine' Ar.has_mk KX G ?a ?l ?c ?k ?b
      (case a => k_is)
      (case l => k_is)
      (case c => k_is)
      (case k => k_is)
      (case b => exact fun _ _ _ _ _ _ us hl => match us, hl with | [_], _ => rfl)
    have h_is_from : Ar.Has (L2.KOf KX) mg "is_from" (Ar.topS 6) ["thing", "least"] := by
      delta L2.KOf
      refine' Ar.has_mk KX G ?a ?l ?c ?k ?b
      (case a => k_is)
      (case l => k_is)
      (case c => k_is)
      (case k => k_is)
      (case b => exact fun _ _ _ _ _ _ us hl => match us, hl with | [_, _], _ => rfl)
    have h_is_long : Ar.Has (L2.KOf KX) mg "is_long" (Ar.topS 7) ["thing", "length"] := by
      delta L2.KOf
      refine' Ar.has_mk KX G ?a ?l ?c ?k ?b
      (case a => k_is)
      (case l => k_is)
      (case c => k_is)
      (case k => k_is)
      (case b => exact fun _ _ _ _ _ _ us hl => match us, hl with | [_, _], _ => rfl)
    have h_tupled : Ar.Has (L2.KOf KX) mg "tupled" (Ar.topS 8) ["value"] := by
      delta L2.KOf
      refine' Ar.has_mk KX G ?a ?l ?c ?k ?b
      (case a => k_is)
      (case l => k_is)
      (case c => k_is)
      (case k => k_is)
      (case b => exact fun _ _ _ _ _ _ us hl => match us, hl with | [_], _ => rfl)
    have h_sure_number : Ar.Has (L2.KOf KX) mg "sure_number" (Ar.topS 9) ["value"] := by
      delta L2.KOf
      refine' Ar.has_mk KX G ?a ?l ?c ?k ?b
      (case a => k_is)
      (case l => k_is)
      (case c => k_is)
      (case k => k_is)
      (case b => exact fun _ _ _ _ _ _ us hl => match us, hl with | [_], _ => rfl)
    have h_sure_from : Ar.Has (L2.KOf KX) mg "sure_from" (Ar.topS 10) ["value", "least"] := by
      delta L2.KOf
      refine' Ar.has_mk KX G ?a ?l ?c ?k ?b
      (case a => k_is)
      (case l => k_is)
      (case c => k_is)
      (case k => k_is)
      (case b => exact fun _ _ _ _ _ _ us hl => match us, hl with | [_, _], _ => rfl)
    have h_is_route : Ar.Has (L2.KOf KX) mg "is_route" (Ar.topS 17) ["thing"] := by
      delta L2.KOf
      refine' Ar.has_mk KX G ?a ?l ?c ?k ?b
      (case a => k_is)
      (case l => k_is)
      (case c => k_is)
      (case k => k_is)
      (case b => exact fun _ _ _ _ _ _ us hl => match us, hl with | [_], _ => rfl)
    have h_sure_route : Ar.Has (L2.KOf KX) mg "sure_route" (Ar.topS 18) ["value"] := by
      delta L2.KOf
      refine' Ar.has_mk KX G ?a ?l ?c ?k ?b
      (case a => k_is)
      (case l => k_is)
      (case c => k_is)
      (case k => k_is)
      (case b => exact fun _ _ _ _ _ _ us hl => match us, hl with | [_], _ => rfl)
    have h_turned_letter : Ar.Has (L2.KOf KX) mg "turned_letter" (Ar.topS 19) ["letter", "quarters"] := by
      delta L2.KOf
      refine' Ar.has_mk KX G ?a ?l ?c ?k ?b
      (case a => k_is)
      (case l => k_is)
      (case c => k_is)
      (case k => k_is)
      (case b => exact fun _ _ _ _ _ _ us hl => match us, hl with | [_, _], _ => rfl)
    have h_turned_in : Ar.Has (L2.KOf KX) mg "turned_in" (Ar.topS 20) ["route", "quarters"] := by
      delta L2.KOf
      refine' Ar.has_mk KX G ?a ?l ?c ?k ?b
      (case a => k_is)
      (case l => k_is)
      (case c => k_is)
      (case k => k_is)
      (case b => exact fun _ _ _ _ _ _ us hl => match us, hl with | [_, _], _ => rfl)
    have h_turned_route : Ar.Has (L2.KOf KX) mg "turned_route" (Ar.topS 21) ["route", "quarters"] := by
      delta L2.KOf
      refine' Ar.has_mk KX G ?a ?l ?c ?k ?b
      (case a => k_is)
      (case l => k_is)
      (case c => k_is)
      (case k => k_is)
      (case b => exact fun _ _ _ _ _ _ us hl => match us, hl with | [_, _], _ => rfl)
    have h_mirrored_route : Ar.Has (L2.KOf KX) mg "mirrored_route" (Ar.topS 22) ["route"] := by
      delta L2.KOf
      refine' Ar.has_mk KX G ?a ?l ?c ?k ?b
      (case a => k_is)
      (case l => k_is)
      (case c => k_is)
      (case k => k_is)
      (case b => exact fun _ _ _ _ _ _ us hl => match us, hl with | [_], _ => rfl)
    have h_back_in : Ar.Has (L2.KOf KX) mg "back_in" (Ar.topS 23) ["route"] := by
      delta L2.KOf
      refine' Ar.has_mk KX G ?a ?l ?c ?k ?b
      (case a => k_is)
      (case l => k_is)
      (case c => k_is)
      (case k => k_is)
      (case b => exact fun _ _ _ _ _ _ us hl => match us, hl with | [_], _ => rfl)
    have h_walked_back : Ar.Has (L2.KOf KX) mg "walked_back" (Ar.topS 24) ["route"] := by
      delta L2.KOf
      refine' Ar.has_mk KX G ?a ?l ?c ?k ?b
      (case a => k_is)
      (case l => k_is)
      (case c => k_is)
      (case k => k_is)
      (case b => exact fun _ _ _ _ _ _ us hl => match us, hl with | [_], _ => rfl)
    have h_read_back : Ar.Has (L2.KOf KX) mg "read_back" (Ar.topS 25) ["route"] := by
      delta L2.KOf
      refine' Ar.has_mk KX G ?a ?l ?c ?k ?b
      (case a => k_is)
      (case l => k_is)
      (case c => k_is)
      (case k => k_is)
      (case b => exact fun _ _ _ _ _ _ us hl => match us, hl with | [_], _ => rfl)
    have h_deed_in : Ar.Has (L2.KOf KX) mg "deed_in" (Ar.topS 26) ["route"] := by
      delta L2.KOf
      refine' Ar.has_mk KX G ?a ?l ?c ?k ?b
      (case a => k_is)
      (case l => k_is)
      (case c => k_is)
      (case k => k_is)
      (case b => exact fun _ _ _ _ _ _ us hl => match us, hl with | [_], _ => rfl)
    have h_deed_of : Ar.Has (L2.KOf KX) mg "deed_of" (Ar.topS 27) ["route"] := by
      delta L2.KOf
      refine' Ar.has_mk KX G ?a ?l ?c ?k ?b
      (case a => k_is)
      (case l => k_is)
      (case c => k_is)
      (case k => k_is)
      (case b => exact fun _ _ _ _ _ _ us hl => match us, hl with | [_], _ => rfl)
    have h_corners_of : Ar.Has (L2.KOf KX) mg "corners_of" (Ar.topS 28) ["route"] := by
      delta L2.KOf
      refine' Ar.has_mk KX G ?a ?l ?c ?k ?b
      (case a => k_is)
      (case l => k_is)
      (case c => k_is)
      (case k => k_is)
      (case b => exact fun _ _ _ _ _ _ us hl => match us, hl with | [_], _ => rfl)
    have h_is_closed : Ar.Has (L2.KOf KX) mg "is_closed" (Ar.topS 29) ["route"] := by
      delta L2.KOf
      refine' Ar.has_mk KX G ?a ?l ?c ?k ?b
      (case a => k_is)
      (case l => k_is)
      (case c => k_is)
      (case k => k_is)
      (case b => exact fun _ _ _ _ _ _ us hl => match us, hl with | [_], _ => rfl)
    have h_area_inside : Ar.Has (L2.KOf KX) mg "area_inside" (Ar.topS 30) ["route"] := by
      delta L2.KOf
      refine' Ar.has_mk KX G ?a ?l ?c ?k ?b
      (case a => k_is)
      (case l => k_is)
      (case c => k_is)
      (case k => k_is)
      (case b => exact fun _ _ _ _ _ _ us hl => match us, hl with | [_], _ => rfl)
    have h_squares_beside : Ar.Has (L2.KOf KX) mg "squares_beside" (Ar.topS 31) ["route"] := by
      delta L2.KOf
      refine' Ar.has_mk KX G ?a ?l ?c ?k ?b
      (case a => k_is)
      (case l => k_is)
      (case c => k_is)
      (case k => k_is)
      (case b => exact fun _ _ _ _ _ _ us hl => match us, hl with | [_], _ => rfl)
    have h_bare_in : Ar.Has (L2.KOf KX) mg "bare_in" (Ar.topS 32) ["route"] := by
      delta L2.KOf
      refine' Ar.has_mk KX G ?a ?l ?c ?k ?b
      (case a => k_is)
      (case l => k_is)
      (case c => k_is)
      (case k => k_is)
      (case b => exact fun _ _ _ _ _ _ us hl => match us, hl with | [_], _ => rfl)
    have h_bare : Ar.Has (L2.KOf KX) mg "bare" (Ar.topS 33) ["route"] := by
      delta L2.KOf
      refine' Ar.has_mk KX G ?a ?l ?c ?k ?b
      (case a => k_is)
      (case l => k_is)
      (case c => k_is)
      (case k => k_is)
      (case b => exact fun _ _ _ _ _ _ us hl => match us, hl with | [_], _ => rfl)
    have h_are_runs : Ar.Has (L2.KOf KX) mg "are_runs" (Ar.topS 34) ["thing"] := by
      delta L2.KOf
      refine' Ar.has_mk KX G ?a ?l ?c ?k ?b
      (case a => k_is)
      (case l => k_is)
      (case c => k_is)
      (case k => k_is)
      (case b => exact fun _ _ _ _ _ _ us hl => match us, hl with | [_], _ => rfl)
    have h_sure_runs : Ar.Has (L2.KOf KX) mg "sure_runs" (Ar.topS 35) ["value"] := by
      delta L2.KOf
      refine' Ar.has_mk KX G ?a ?l ?c ?k ?b
      (case a => k_is)
      (case l => k_is)
      (case c => k_is)
      (case k => k_is)
      (case b => exact fun _ _ _ _ _ _ us hl => match us, hl with | [_], _ => rfl)
    have h_run_together : Ar.Has (L2.KOf KX) mg "run_together" (Ar.topS 36) ["rows"] := by
      delta L2.KOf
      refine' Ar.has_mk KX G ?a ?l ?c ?k ?b
      (case a => k_is)
      (case l => k_is)
      (case c => k_is)
      (case k => k_is)
      (case b => exact fun _ _ _ _ _ _ us hl => match us, hl with | [_], _ => rfl)
    have h_runs_of : Ar.Has (L2.KOf KX) mg "runs_of" (Ar.topS 37) ["route"] := by
      delta L2.KOf
      refine' Ar.has_mk KX G ?a ?l ?c ?k ?b
      (case a => k_is)
      (case l => k_is)
      (case c => k_is)
      (case k => k_is)
      (case b => exact fun _ _ _ _ _ _ us hl => match us, hl with | [_], _ => rfl)
    have h_route_of : Ar.Has (L2.KOf KX) mg "route_of" (Ar.topS 38) ["runs"] := by
      delta L2.KOf
      refine' Ar.has_mk KX G ?a ?l ?c ?k ?b
      (case a => k_is)
      (case l => k_is)
      (case c => k_is)
      (case k => k_is)
      (case b => exact fun _ _ _ _ _ _ us hl => match us, hl with | [_], _ => rfl)
    have h_deed_by_runs : Ar.Has (L2.KOf KX) mg "deed_by_runs" (Ar.topS 39) ["runs"] := by
      delta L2.KOf
      refine' Ar.has_mk KX G ?a ?l ?c ?k ?b
      (case a => k_is)
      (case l => k_is)
      (case c => k_is)
      (case k => k_is)
      (case b => exact fun _ _ _ _ _ _ us hl => match us, hl with | [_], _ => rfl)
    have h_deed_of_runs : Ar.Has (L2.KOf KX) mg "deed_of_runs" (Ar.topS 40) ["runs"] := by
      delta L2.KOf
      refine' Ar.has_mk KX G ?a ?l ?c ?k ?b
      (case a => k_is)
      (case l => k_is)
      (case c => k_is)
      (case k => k_is)
      (case b => exact fun _ _ _ _ _ _ us hl => match us, hl with | [_], _ => rfl)
    have h_length_of : Ar.Has (L2.KOf KX) mg "length_of" (Ar.topS 41) ["runs"] := by
      delta L2.KOf
      refine' Ar.has_mk KX G ?a ?l ?c ?k ?b
      (case a => k_is)
      (case l => k_is)
      (case c => k_is)
      (case k => k_is)
      (case b => exact fun _ _ _ _ _ _ us hl => match us, hl with | [_], _ => rfl)
    have h_runs_back : Ar.Has (L2.KOf KX) mg "runs_back" (Ar.topS 42) ["runs"] := by
      delta L2.KOf
      refine' Ar.has_mk KX G ?a ?l ?c ?k ?b
      (case a => k_is)
      (case l => k_is)
      (case c => k_is)
      (case k => k_is)
      (case b => exact fun _ _ _ _ _ _ us hl => match us, hl with | [_], _ => rfl)
    have h_runs_joined : Ar.Has (L2.KOf KX) mg "runs_joined" (Ar.topS 43) ["one", "other"] := by
      delta L2.KOf
      refine' Ar.has_mk KX G ?a ?l ?c ?k ?b
      (case a => k_is)
      (case l => k_is)
      (case c => k_is)
      (case k => k_is)
      (case b => exact fun _ _ _ _ _ _ us hl => match us, hl with | [_, _], _ => rfl)
    have h_step_after : Ar.Has (L2.KOf KX) mg "step_after" (Ar.topS 44) ["runs", "place"] := by
      delta L2.KOf
      refine' Ar.has_mk KX G ?a ?l ?c ?k ?b
      (case a => k_is)
      (case l => k_is)
      (case c => k_is)
      (case k => k_is)
      (case b => exact fun _ _ _ _ _ _ us hl => match us, hl with | [_, _], _ => rfl)
    have h__law_box : Ar.Has (L2.KOf KX) mg "_law_box" (Ar.topS 46) ["script", "k"] := by
      delta L2.KOf
      refine' Ar.has_mk KX G ?a ?l ?c ?k ?b
      (case a => k_is)
      (case l => k_is)
      (case c => k_is)
      (case k => k_is)
      (case b => exact fun _ _ _ _ _ _ us hl => match us, hl with | [_, _], _ => rfl)
    have h__law_take : Ar.Has (L2.KOf KX) mg "_law_take" (Ar.topS 47) ["tin", "below_so"] := by
      delta L2.KOf
      refine' Ar.has_mk KX G ?a ?l ?c ?k ?b
      (case a => k_is)
      (case l => k_is)
      (case c => k_is)
      (case k => k_is)
      (case b => exact fun _ _ _ _ _ _ us hl => match us, hl with | [_, _], _ => rfl)
    have h__law_cells : Ar.Has (L2.KOf KX) mg "_law_cells" (Ar.topS 48) ["script", "most_so"] := by
      delta L2.KOf
      refine' Ar.has_mk KX G ?a ?l ?c ?k ?b
      (case a => k_is)
      (case l => k_is)
      (case c => k_is)
      (case k => k_is)
      (case b => exact fun _ _ _ _ _ _ us hl => match us, hl with | [_, _], _ => rfl)
    have h__law_of : Ar.Has (L2.KOf KX) mg "_law_of" (Ar.topS 49) ["tin", "goods_so"] := by
      delta L2.KOf
      refine' Ar.has_mk KX G ?a ?l ?c ?k ?b
      (case a => k_is)
      (case l => k_is)
      (case c => k_is)
      (case k => k_is)
      (case b => exact fun _ _ _ _ _ _ us hl => match us, hl with | [_, _], _ => rfl)
    have h__law_same : Ar.Has (L2.KOf KX) mg "_law_same" (Ar.topS 50) ["got", "due"] := by
      delta L2.KOf
      refine' Ar.has_mk KX G ?a ?l ?c ?k ?b
      (case a => k_is)
      (case l => k_is)
      (case c => k_is)
      (case k => k_is)
      (case b => exact fun _ _ _ _ _ _ us hl => match us, hl with | [_, _], _ => rfl)
    have h__law_asked : Ar.Has (L2.KOf KX) mg "_law_asked" (Ar.topS 51) ["k", "bits"] := by
      delta L2.KOf
      refine' Ar.has_mk KX G ?a ?l ?c ?k ?b
      (case a => k_is)
      (case l => k_is)
      (case c => k_is)
      (case k => k_is)
      (case b => exact fun _ _ _ _ _ _ us hl => match us, hl with | [_, _], _ => rfl)
    have h__law_caught : Ar.Has (L2.KOf KX) mg "_law_caught" (Ar.topS 52) ["k", "bits"] := by
      delta L2.KOf
      refine' Ar.has_mk KX G ?a ?l ?c ?k ?b
      (case a => k_is)
      (case l => k_is)
      (case c => k_is)
      (case k => k_is)
      (case b => exact fun _ _ _ _ _ _ us hl => match us, hl with | [_, _], _ => rfl)
    have h_law : ∃ fd, L2.Fun (L2.KOf KX) "law" "law" (Ar.topS 53) fa fd ∧ ∀ (s : Shared) (u : Value), BindsTo s fd ⟨[u], []⟩ [("script", u)] := by
      delta L2.KOf
      refine' Ar.law_mk KX G hmg ?a ?l ?c ?k ?b
      (case a => k_is)
      (case l => k_is)
      (case c => k_is)
      (case k => k_is)
      (case b => exact fun _ _ _ _ _ _ us hl => match us, hl with | [_], _ => rfl)
    have gl_LETTERS : Ar.GlobD (L2.KOf KX) mg "LETTERS" (Ar.D.str "ruld") := by
      delta L2.KOf
      refine' Ar.glob_str KX G ?a
      (case a => k_is)
    have gl_STEPS : Ar.DictG (L2.KOf KX) w mg "STEPS" Ar.stepF := by
      delta L2.KOf
      refine' Ar.dict_steps KX G ?a ?l ?hk ?r1 ?l1 ?r2 ?l2 ?r3 ?l3 ?r4 ?l4
      (case a => k_is)
      (case l => k_is)
      (case r1 => k_is)
      (case l1 => k_is)
      (case r2 => k_is)
      (case l2 => k_is)
      (case r3 => k_is)
      (case l3 => k_is)
      (case r4 => k_is)
      (case l4 => k_is)
      (case hk => exact ⟨⟨_, _, rfl, rfl⟩, ⟨_, _, rfl, rfl⟩, ⟨_, _, rfl, rfl⟩, ⟨_, _, rfl, rfl⟩, trivial⟩)
    have gl_MIRRORED : Ar.DictG (L2.KOf KX) w mg "MIRRORED" Ar.mirF := by
      delta L2.KOf
      refine' Ar.dict_mir KX G ?a ?l ?hk ?r1 ?e1 ?r2 ?e2 ?r3 ?e3 ?r4 ?e4
      (case a => k_is)
      (case l => k_is)
      (case r1 => k_is)
      (case r2 => k_is)
      (case r3 => k_is)
      (case r4 => k_is)
      (case hk => exact ⟨⟨_, _, rfl, rfl⟩, ⟨_, _, rfl, rfl⟩, ⟨_, _, rfl, rfl⟩, ⟨_, _, rfl, rfl⟩, trivial⟩)
      (case e1 => rfl)
      (case e2 => rfl)
      (case e3 => rfl)
      (case e4 => rfl)
    have gl_MOST_LETTERS : Ar.GlobD (L2.KOf KX) mg "MOST_LETTERS" (Ar.D.int 2000) := by
      delta L2.KOf
      refine' Ar.glob_int KX G ?a
      (case a => k_is)
    have gl_MOST_RUNS : Ar.GlobD (L2.KOf KX) mg "MOST_RUNS" (Ar.D.int 200) := by
      delta L2.KOf
      refine' Ar.glob_int KX G ?a
      (case a => k_is)
    have kw_0 : Ar.KwOk (L2.KOf KX) mg "deed_of" ["route"] [0] := by
      delta L2.KOf
      refine' Ar.kw_mk (st := Ar.topS 27) KX G ?a ?l ?b
      (case a => k_is)
      (case l => k_is)
      (case b => exact Ar.kwb_0)
    have kw_1 : Ar.KwOk (L2.KOf KX) mg "corners_of" ["route"] [0] := by
      delta L2.KOf
      refine' Ar.kw_mk (st := Ar.topS 28) KX G ?a ?l ?b
      (case a => k_is)
      (case l => k_is)
      (case b => exact Ar.kwb_1)
    have kw_2 : Ar.KwOk (L2.KOf KX) mg "squares_beside" ["route"] [0] := by
      delta L2.KOf
      refine' Ar.kw_mk (st := Ar.topS 31) KX G ?a ?l ?b
      (case a => k_is)
      (case l => k_is)
      (case b => exact Ar.kwb_2)
    have kw_3 : Ar.KwOk (L2.KOf KX) mg "turned_route" ["quarters", "route"] [1, 0] := by
      delta L2.KOf
      refine' Ar.kw_mk (st := Ar.topS 21) KX G ?a ?l ?b
      (case a => k_is)
      (case l => k_is)
      (case b => exact Ar.kwb_3)
    have kw_4 : Ar.KwOk (L2.KOf KX) mg "mirrored_route" ["route"] [0] := by
      delta L2.KOf
      refine' Ar.kw_mk (st := Ar.topS 22) KX G ?a ?l ?b
      (case a => k_is)
      (case l => k_is)
      (case b => exact Ar.kwb_4)
    have kw_5 : Ar.KwOk (L2.KOf KX) mg "walked_back" ["route"] [0] := by
      delta L2.KOf
      refine' Ar.kw_mk (st := Ar.topS 24) KX G ?a ?l ?b
      (case a => k_is)
      (case l => k_is)
      (case b => exact Ar.kwb_5)
    have kw_6 : Ar.KwOk (L2.KOf KX) mg "read_back" ["route"] [0] := by
      delta L2.KOf
      refine' Ar.kw_mk (st := Ar.topS 25) KX G ?a ?l ?b
      (case a => k_is)
      (case l => k_is)
      (case b => exact Ar.kwb_6)
    have kw_7 : Ar.KwOk (L2.KOf KX) mg "bare" ["route"] [0] := by
      delta L2.KOf
      refine' Ar.kw_mk (st := Ar.topS 33) KX G ?a ?l ?b
      (case a => k_is)
      (case l => k_is)
      (case b => exact Ar.kwb_7)
    have kw_8 : Ar.KwOk (L2.KOf KX) mg "is_closed" ["route"] [0] := by
      delta L2.KOf
      refine' Ar.kw_mk (st := Ar.topS 29) KX G ?a ?l ?b
      (case a => k_is)
      (case l => k_is)
      (case b => exact Ar.kwb_8)
    have kw_9 : Ar.KwOk (L2.KOf KX) mg "area_inside" ["route"] [0] := by
      delta L2.KOf
      refine' Ar.kw_mk (st := Ar.topS 30) KX G ?a ?l ?b
      (case a => k_is)
      (case l => k_is)
      (case b => exact Ar.kwb_9)
    have kw_10 : Ar.KwOk (L2.KOf KX) mg "is_route" ["thing"] [0] := by
      delta L2.KOf
      refine' Ar.kw_mk (st := Ar.topS 17) KX G ?a ?l ?b
      (case a => k_is)
      (case l => k_is)
      (case b => exact Ar.kwb_10)
    have kw_11 : Ar.KwOk (L2.KOf KX) mg "are_runs" ["thing"] [0] := by
      delta L2.KOf
      refine' Ar.kw_mk (st := Ar.topS 34) KX G ?a ?l ?b
      (case a => k_is)
      (case l => k_is)
      (case b => exact Ar.kwb_11)
    have kw_12 : Ar.KwOk (L2.KOf KX) mg "runs_of" ["route"] [0] := by
      delta L2.KOf
      refine' Ar.kw_mk (st := Ar.topS 37) KX G ?a ?l ?b
      (case a => k_is)
      (case l => k_is)
      (case b => exact Ar.kwb_12)
    have kw_13 : Ar.KwOk (L2.KOf KX) mg "route_of" ["runs"] [0] := by
      delta L2.KOf
      refine' Ar.kw_mk (st := Ar.topS 38) KX G ?a ?l ?b
      (case a => k_is)
      (case l => k_is)
      (case b => exact Ar.kwb_13)
    have kw_14 : Ar.KwOk (L2.KOf KX) mg "deed_of_runs" ["runs"] [0] := by
      delta L2.KOf
      refine' Ar.kw_mk (st := Ar.topS 40) KX G ?a ?l ?b
      (case a => k_is)
      (case l => k_is)
      (case b => exact Ar.kwb_14)
    have kw_15 : Ar.KwOk (L2.KOf KX) mg "length_of" ["runs"] [0] := by
      delta L2.KOf
      refine' Ar.kw_mk (st := Ar.topS 41) KX G ?a ?l ?b
      (case a => k_is)
      (case l => k_is)
      (case b => exact Ar.kwb_15)
    have kw_16 : Ar.KwOk (L2.KOf KX) mg "runs_back" ["runs"] [0] := by
      delta L2.KOf
      refine' Ar.kw_mk (st := Ar.topS 42) KX G ?a ?l ?b
      (case a => k_is)
      (case l => k_is)
      (case b => exact Ar.kwb_16)
    have kw_17 : Ar.KwOk (L2.KOf KX) mg "runs_joined" ["other", "one"] [1, 0] := by
      delta L2.KOf
      refine' Ar.kw_mk (st := Ar.topS 43) KX G ?a ?l ?b
      (case a => k_is)
      (case l => k_is)
      (case b => exact Ar.kwb_17)
    have kw_18 : Ar.KwOk (L2.KOf KX) mg "step_after" ["place", "runs"] [1, 0] := by
      delta L2.KOf
      refine' Ar.kw_mk (st := Ar.topS 44) KX G ?a ?l ?b
      (case a => k_is)
      (case l => k_is)
      (case b => exact Ar.kwb_18)
    have excs : ∃ U C T, Ar.Excs (L2.KOf KX) mg U C T := by
      delta L2.KOf
      refine' Ar.excs_mk KX G ?aU ?aC ?aT ?xU ?xC ?xT ?kU ?kC ?kT ?sU ?sC ?sT ?tU ?tC ?tT ?gU ?gC ?gT ?hU ?hC ?hT ?dU ?dC ?dT ?cU ?cC ?cT ?hn ?ht ?mU ?mC ?mT ?uu ?cu ?tu ?cc ?tc ?tt ?u1 ?c1 ?t1 ?u2 ?c2 ?t2 ?nv ?nl
      (case aU => k_is)
      (case aC => k_is)
      (case aT => k_is)
      (case xU => first | k_is | k_exc)
      (case xC => first | k_is | k_exc)
      (case xT => first | k_is | k_exc)
      (case kU => k_is)
      (case kC => k_is)
      (case kT => k_is)
      (case sU => k_is)
      (case sC => k_is)
      (case sT => k_is)
      (case tU => k_is)
      (case tC => k_is)
      (case tT => k_is)
      (case gU => k_is)
      (case gC => k_is)
      (case gT => k_is)
      (case hU => k_is)
      (case hC => k_is)
      (case hT => k_is)
      (case dU => k_is)
      (case dC => k_is)
      (case dT => k_is)
      (case cU => k_is)
      (case cC => k_is)
      (case cT => k_is)
      (case hn => k_is)
      (case ht => k_is)
      (case mU => k_is)
      (case mC => k_is)
      (case mT => k_is)
      (case uu => k_is)
      (case cu => k_is)
      (case tu => k_is)
      (case cc => k_is)
      (case tc => k_is)
      (case tt => k_is)
      (case u1 => kit_is)
      (case c1 => kit_is)
      (case t1 => kit_is)
      (case u2 => kit_is)
      (case c2 => kit_is)
      (case t2 => kit_is)
      (case nv => k_is)
      (case nl => k_is)
    have nob := Ar.nob_mk KX G (by
      intro x hx
      simp only [List.mem_cons, List.not_mem_nil, or_false] at hx
      rcases hx with rfl | rfl | rfl | rfl | rfl | rfl | rfl | rfl | rfl | rfl | rfl | rfl | rfl | rfl | rfl | rfl | rfl | rfl | rfl | rfl | rfl | rfl | rfl | rfl | rfl <;> assumption)
    have h_law2 := h_law.elim fun _ F => Ar.Fun_has F.1 hmg F.2
    have M : Ar.Mod (L2.KOf KX) w mg := { nob := nob, h_law := h_law2, h_is_number := h_is_number, h_is_from := h_is_from, h_is_long := h_is_long, h_tupled := h_tupled, h_sure_number := h_sure_number, h_sure_from := h_sure_from, h_is_route := h_is_route, h_sure_route := h_sure_route, h_turned_letter := h_turned_letter, h_turned_in := h_turned_in, h_turned_route := h_turned_route, h_mirrored_route := h_mirrored_route, h_back_in := h_back_in, h_walked_back := h_walked_back, h_read_back := h_read_back, h_deed_in := h_deed_in, h_deed_of := h_deed_of, h_corners_of := h_corners_of, h_is_closed := h_is_closed, h_area_inside := h_area_inside, h_squares_beside := h_squares_beside, h_bare_in := h_bare_in, h_bare := h_bare, h_are_runs := h_are_runs, h_sure_runs := h_sure_runs, h_run_together := h_run_together, h_runs_of := h_runs_of, h_route_of := h_route_of, h_deed_by_runs := h_deed_by_runs, h_deed_of_runs := h_deed_of_runs, h_length_of := h_length_of, h_runs_back := h_runs_back, h_runs_joined := h_runs_joined, h_step_after := h_step_after, h__law_box := h__law_box, h__law_take := h__law_take, h__law_cells := h__law_cells, h__law_of := h__law_of, h__law_same := h__law_same, h__law_asked := h__law_asked, h__law_caught := h__law_caught, gl_LETTERS := gl_LETTERS, gl_STEPS := gl_STEPS, gl_MIRRORED := gl_MIRRORED, gl_MOST_LETTERS := gl_MOST_LETTERS, gl_MOST_RUNS := gl_MOST_RUNS, kw_0 := kw_0, kw_1 := kw_1, kw_2 := kw_2, kw_3 := kw_3, kw_4 := kw_4, kw_5 := kw_5, kw_6 := kw_6, kw_7 := kw_7, kw_8 := kw_8, kw_9 := kw_9, kw_10 := kw_10, kw_11 := kw_11, kw_12 := kw_12, kw_13 := kw_13, kw_14 := kw_14, kw_15 := kw_15, kw_16 := kw_16, kw_17 := kw_17, kw_18 := kw_18, excs := excs }
    exact h_law.elim fun fd F => ⟨fd, F.2, fun base _ _ => Ar.ok_law M F.1⟩

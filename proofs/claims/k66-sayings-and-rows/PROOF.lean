import PyProof.Rows.All
import Wide.All
import OpenK.AllK
import Wide.FinOn
import HandS.ForMost
import HandS.SortInts
import HandS.TupAny
import HandS.IsInst
import HandS.WideBits
import HandS.Conv
import HandS.Flow
import HandS.Walk
import HandS.Zip
import PySem.Challenge.RW_rowtruce_k66_sayings_and_rows
set_option Elab.async false
set_option linter.all false
set_option maxRecDepth 100000
set_option maxHeartbeats 4000000
/-! The data layer, first part: data D, stores, how they lie in an abstract heap, outcomes, canonical readings. -/
namespace DL
open PySem PySem.Spec PyProof.Rows L2

/-- data without a heap; obj n: the n-th object of the store -/
inductive D where
  | non | bl (b : Bool) | int (i : Int) | str (x : Str) | tup (l : List D) | obj (n : Nat) | rng (b : Bool) | adr (a : Addr) | typ (n : String) | kls (ns : List Int)
/-- the state of a drawing list -/
structure Rng where
  cells : List Int
  pos : Nat
  carry : Int
  seed : Int
/-- an object of the store -/
inductive MO where
  | lst (l : List D) | fro (l : List D) | dic (l : List (Key × D)) | dit (l : List (List Key × D)) | ins (C : Addr) (l : List (Str × D))
/-- the newest object stands first; ids count from the oldest -/
structure Sto where
  m : List MO
  g : Option Rng
structure Loc where
  a : List Addr
  g : Option (Addr × Addr)
def nget {α : Type} : List α → Nat → Option α
  | [], _ => none
  | o :: m, i => if i = m.length then some o else nget m i
def nset {α : Type} : List α → Nat → α → List α
  | [], _, _ => []
  | o :: m, i, u => if i = m.length then u :: m else o :: nset m i u
theorem nget_lt {α : Type} : ∀ {l : List α} {i : Nat} {x : α}, nget l i = some x → i < l.length
  | [], _, _, h => by simp [nget] at h
  | o :: m, i, x, h => by
    unfold nget at h
    split at h
    · rename_i e; rw [e]; simp
    · have := nget_lt h; simp; omega
theorem nget_app {α : Type} : ∀ {ex l : List α} {i : Nat}, i < l.length → nget (ex ++ l) i = nget l i
  | [], _, _, _ => rfl
  | x :: ex, l, i, h => by
    show (if i = (ex ++ l).length then some x else nget (ex ++ l) i) = _
    rw [if_neg (by simp; omega), nget_app h]
theorem nget_of_suffix {α : Type} {l l' : List α} (h : l <:+ l') {i : Nat} {x : α} (e : nget l i = some x) : nget l' i = some x := by
  obtain ⟨ex, rfl⟩ := h
  rw [nget_app (nget_lt e), e]
theorem nget_mem {α : Type} : ∀ {l : List α} {i : Nat} {x : α}, nget l i = some x → x ∈ l
  | [], _, _, h => by simp [nget] at h
  | o :: m, i, x, h => by
    unfold nget at h
    split at h
    · cases h; exact List.mem_cons_self
    · exact List.mem_cons_of_mem _ (nget_mem h)
theorem nget_some {α : Type} : ∀ {l : List α} {i : Nat}, i < l.length → ∃ x, nget l i = some x
  | [], _, h => by simp at h
  | o :: m, i, h => by
    unfold nget
    split
    · exact ⟨_, rfl⟩
    · exact nget_some (by simp at h; omega)
theorem nget_inj {α : Type} : ∀ {l : List α} {i j : Nat} {x : α}, l.Nodup → nget l i = some x → nget l j = some x → i = j
  | [], _, _, _, _, h, _ => by simp [nget] at h
  | o :: m, i, j, x, nd, h1, h2 => by
    unfold nget at h1 h2
    obtain ⟨n1, n2⟩ := List.nodup_cons.mp nd
    split at h1
    · split at h2
      · omega
      · cases h1; exact absurd (nget_mem h2) n1
    · split at h2
      · cases h2; exact absurd (nget_mem h1) n1
      · exact nget_inj n2 h1 h2
theorem nset_length {α : Type} : ∀ {l : List α} {i : Nat} {u : α}, (nset l i u).length = l.length
  | [], _, _ => rfl
  | o :: m, i, u => by
    unfold nset
    split
    · rfl
    · simp [nset_length]
theorem nget_nset {α : Type} : ∀ {l : List α} {i j : Nat} {u : α}, i < l.length → nget (nset l i u) j = if j = i then some u else nget l j
  | [], _, _, _, h => by simp at h
  | o :: m, i, j, u, h => by
    by_cases hi : i = m.length
    · subst hi
      rw [nset, if_pos rfl]
      by_cases hj : j = m.length
      · subst hj; rw [nget, if_pos rfl, if_pos rfl]
      · rw [nget, if_neg hj, if_neg hj, nget, if_neg hj]
    · rw [nset, if_neg hi, nget, nset_length]
      by_cases hj : j = m.length
      · rw [if_pos hj, if_neg (by omega), nget, if_pos hj]
      · rw [if_neg hj, nget_nset (by simp at h; omega)]
        rw [show nget (o :: m) j = nget m j by rw [nget, if_neg hj]]

/-! ### how data lie in the heap -/
/-- a list that stands in the written part -/
def KLs (K : PySem.W.Frag) (a : Addr) (xs : List V) : Prop := ∃ (o : Obj) (its : Array Value) (n : Nat), K.lookup a = some o ∧ o.cls = .type "list" ∧ o.dict = none ∧ o.data = .seq its n ∧ its.size ≤ sizeLine ∧ Vals xs its.toList
section
variable (K : PySem.W.Frag) (H : Hp) (ρ : Loc)
mutual
def RD : D → V → Prop
  | .non, v => v = .non
  | .bl b, v => v = .bl b
  | .int i, v => v = .int i
  | .str x, v => v = .str x
  | .tup l, v => ∃ a vs, v = .ref a ∧ SqT K H a vs ∧ RDs l vs
  | .obj n, v => ∃ a, v = .ref a ∧ nget ρ.a n = some a
  | .rng k, v => ∃ a b, v = .ref (if k = true then b else a) ∧ ρ.g = some (a, b)
  | .adr a, v => v = .ref a
  | .typ n, v => v = .ty n
  | .kls ns, v => ∃ a, v = .ref a ∧ KLs K a (ns.map V.int)
def RDs : List D → List V → Prop
  | [], vs => vs = []
  | d :: ds, vs => ∃ v r, vs = v :: r ∧ RD d v ∧ RDs ds r
end
end
/-- later places -/
def Loc.le (ρ ρ' : Loc) : Prop := ρ.a <:+ ρ'.a ∧ (ρ.g = none ∨ ρ'.g = ρ.g)
theorem Loc.le_refl (ρ : Loc) : ρ.le ρ := ⟨List.suffix_refl _, .inr rfl⟩
theorem Loc.le_trans {ρ ρ' ρ'' : Loc} (h : ρ.le ρ') (h' : ρ'.le ρ'') : ρ.le ρ'' := by
  refine ⟨List.IsSuffix.trans h.1 h'.1, ?_⟩
  rcases h.2 with e | e
  · exact .inl e
  · rcases h'.2 with e' | e'
    · exact .inl (e ▸ e')
    · exact .inr (e'.trans e)
/-- tuples stay -/
def TupX (K : PySem.W.Frag) (H H' : Hp) : Prop := ∀ a vs, SqT K H a vs → SqT K H' a vs
theorem TupX.refl {K : PySem.W.Frag} (H : Hp) : TupX K H H := fun _ _ h => h
theorem TupX.trans {K : PySem.W.Frag} {H H1 H2 : Hp} (a : TupX K H H1) (b : TupX K H1 H2) : TupX K H H2 := fun p vs h => b p vs (a p vs h)
theorem TupX.of_same {K : PySem.W.Frag} {H H' : Hp} (s : Same H H') : TupX K H H' := fun a vs h => by
  rcases h with (h | ⟨o, h⟩) | h
  · exact .inl (.inl (s _ _ h))
  · exact .inl (.inr ⟨o, s _ _ h⟩)
  · exact .inr h
theorem same_new {H : Hp} {p : Addr} {o : HO} (h : H p = none) : Same H (upd H p o) := fun b x e => by
  rw [upd_ne (ne_of_none e h)]
  exact e
/-- a thing that is neither a tuple nor locked is changed -/
def Chg : HO → Prop
  | .lst _ => True
  | .dK _ => True
  | .dT _ => True
  | .ins _ _ _ => True
  | _ => False
theorem Chg.ne {H : Hp} {x a : Addr} {o u : HO} (hx : H x = some o) (c : Chg o) (ha : H a = some u) (nu : ¬ Chg u) : a ≠ x := by
  rintro rfl
  rw [hx] at ha
  cases ha
  exact nu c
theorem TupX.chg {K : PySem.W.Frag} {H : Hp} {x : Addr} {o u : HO} (hx : H x = some o) (c : Chg o) : TupX K H (upd H x u) := fun a vs h => by
  rcases h with (h | ⟨ob, h⟩) | h
  · exact .inl (.inl (by rw [upd_ne (Chg.ne hx c h fun z => z)]; exact h))
  · exact .inl (.inr ⟨ob, by rw [upd_ne (Chg.ne hx c h fun z => z)]; exact h⟩)
  · exact .inr h
theorem sqL_upd {K : PySem.W.Frag} {H : Hp} {x b : Addr} {o : HO} {vs : List V} (ne : b ≠ x) (h : SqL K H b vs) : SqL K (upd H x o) b vs := by
  rcases h with (h | ⟨ob, h⟩) | h
  · exact .inl (.inl (by rw [upd_ne ne]; exact h))
  · exact .inl (.inr ⟨ob, by rw [upd_ne ne]; exact h⟩)
  · exact .inr h

section
variable {K : PySem.W.Frag} {H H' : Hp} {ρ ρ' : Loc}
mutual
theorem RD.mono (l : ρ.le ρ') (t : TupX K H H') : ∀ {d : D} {v : V}, RD K H ρ d v → RD K H' ρ' d v
  | .non, _, h => by unfold RD at h ⊢; exact h
  | .bl _, _, h => by unfold RD at h ⊢; exact h
  | .int _, _, h => by unfold RD at h ⊢; exact h
  | .str _, _, h => by unfold RD at h ⊢; exact h
  | .tup ds, _, h => by
    unfold RD at h ⊢
    obtain ⟨a, vs, e, q, r⟩ := h
    exact ⟨a, vs, e, t _ _ q, RDs.mono l t r⟩
  | .obj n, _, h => by
    unfold RD at h ⊢
    obtain ⟨a, e, q⟩ := h
    exact ⟨a, e, nget_of_suffix l.1 q⟩
  | .rng _, _, h => by
    unfold RD at h ⊢
    obtain ⟨a, b, e, q⟩ := h
    refine ⟨a, b, e, ?_⟩
    rcases l.2 with z | z
    · rw [z] at q; cases q
    · rw [z]; exact q
  | .adr _, _, h => by unfold RD at h ⊢; exact h
  | .typ _, _, h => by unfold RD at h ⊢; exact h
  | .kls _, _, h => by unfold RD at h ⊢; exact h
theorem RDs.mono (l : ρ.le ρ') (t : TupX K H H') : ∀ {ds : List D} {vs : List V}, RDs K H ρ ds vs → RDs K H' ρ' ds vs
  | [], _, h => by unfold RDs at h ⊢; exact h
  | d :: ds, _, h => by
    unfold RDs at h ⊢
    obtain ⟨v, r, e, h1, h2⟩ := h
    exact ⟨v, r, e, RD.mono l t h1, RDs.mono l t h2⟩
end
theorem RDs.length : ∀ {ds : List D} {vs : List V}, RDs K H ρ ds vs → vs.length = ds.length
  | [], _, h => by unfold RDs at h; rw [h]; rfl
  | d :: ds, _, h => by
    unfold RDs at h
    obtain ⟨v, r, rfl, _, h2⟩ := h
    simp [RDs.length h2]
theorem RDs.nil : RDs K H ρ [] [] := by unfold RDs; rfl
theorem RDs.cons {d : D} {ds : List D} {v : V} {vs : List V} (h : RD K H ρ d v) (hs : RDs K H ρ ds vs) : RDs K H ρ (d :: ds) (v :: vs) := by unfold RDs; exact ⟨v, vs, rfl, h, hs⟩
theorem RDs.app : ∀ {ds es : List D} {vs ws : List V}, RDs K H ρ ds vs → RDs K H ρ es ws → RDs K H ρ (ds ++ es) (vs ++ ws)
  | [], _, _, _, h, h' => by unfold RDs at h; rw [h]; exact h'
  | d :: ds, _, _, _, h, h' => by
    unfold RDs at h
    obtain ⟨v, r, rfl, h1, h2⟩ := h
    exact RDs.cons h1 (RDs.app h2 h')
theorem RDs.get : ∀ {ds : List D} {vs : List V} {i : Nat} {d : D}, RDs K H ρ ds vs → ds[i]? = some d → ∃ v, vs[i]? = some v ∧ RD K H ρ d v
  | [], _, _, _, _, e => by simp at e
  | d :: ds, _, 0, _, h, e => by
    unfold RDs at h
    obtain ⟨v, r, rfl, h1, h2⟩ := h
    simp at e
    subst e
    exact ⟨v, by simp, h1⟩
  | d :: ds, _, i + 1, _, h, e => by
    unfold RDs at h
    obtain ⟨v, r, rfl, h1, h2⟩ := h
    obtain ⟨w, q1, q2⟩ := RDs.get (i := i) h2 (by simpa using e)
    exact ⟨w, by simpa using q1, q2⟩
theorem RDs.take : ∀ {ds : List D} {vs : List V} (n : Nat), RDs K H ρ ds vs → RDs K H ρ (ds.take n) (vs.take n)
  | _, _, 0, _ => by simp [RDs.nil]
  | [], _, n + 1, h => by unfold RDs at h; subst h; simp [RDs.nil]
  | d :: ds, _, n + 1, h => by
    unfold RDs at h
    obtain ⟨v, r, rfl, h1, h2⟩ := h
    simp only [List.take_succ_cons]
    exact RDs.cons h1 (RDs.take n h2)
theorem RDs.drop : ∀ {ds : List D} {vs : List V} (n : Nat), RDs K H ρ ds vs → RDs K H ρ (ds.drop n) (vs.drop n)
  | _, _, 0, h => by simpa using h
  | [], _, n + 1, h => by unfold RDs at h; subst h; simp [RDs.nil]
  | d :: ds, _, n + 1, h => by
    unfold RDs at h
    obtain ⟨v, r, rfl, h1, h2⟩ := h
    simp only [List.drop_succ_cons]
    exact RDs.drop n h2
theorem RDs.set : ∀ {ds : List D} {vs : List V} (n : Nat) {d : D} {v : V}, RDs K H ρ ds vs → RD K H ρ d v → RDs K H ρ (ds.set n d) (vs.set n v)
  | [], _, n, _, _, h, _ => by unfold RDs at h; subst h; simp [RDs.nil]
  | e :: ds, _, 0, _, _, h, r => by
    unfold RDs at h
    obtain ⟨v, r', rfl, h1, h2⟩ := h
    exact RDs.cons r h2
  | e :: ds, _, n + 1, _, _, h, r => by
    unfold RDs at h
    obtain ⟨v, r', rfl, h1, h2⟩ := h
    exact RDs.cons h1 (RDs.set n h2 r)
theorem RDs.erase : ∀ {ds : List D} {vs : List V} (n : Nat), RDs K H ρ ds vs → RDs K H ρ (ds.eraseIdx n) (vs.eraseIdx n)
  | [], _, n, h => by unfold RDs at h; subst h; simp [RDs.nil]
  | e :: ds, _, 0, h => by
    unfold RDs at h
    obtain ⟨v, r', rfl, h1, h2⟩ := h
    exact h2
  | e :: ds, _, n + 1, h => by
    unfold RDs at h
    obtain ⟨v, r', rfl, h1, h2⟩ := h
    exact RDs.cons h1 (RDs.erase n h2)
end

/-- pairs by key -/
def RDk {κ : Type} (K : PySem.W.Frag) (H : Hp) (ρ : Loc) (l : List (κ × D)) (vs : List (κ × V)) : Prop := vs.map (·.1) = l.map (·.1) ∧ RDs K H ρ (l.map (·.2)) (vs.map (·.2))
theorem RDk.mono {κ : Type} {K : PySem.W.Frag} {H H' : Hp} {ρ ρ' : Loc} {l : List (κ × D)} {vs : List (κ × V)} (e : ρ.le ρ') (t : TupX K H H') (h : RDk K H ρ l vs) : RDk K H' ρ' l vs := ⟨h.1, h.2.mono e t⟩
/-- an object of the store at its place -/
def RO (K : PySem.W.Frag) (H : Hp) (ρ : Loc) : MO → Addr → Prop
  | .lst l, a => ∃ vs, H a = some (.lst vs) ∧ RDs K H ρ l vs
  | .fro l, a => ∃ vs, Rd H a (.lst vs) ∧ RDs K H ρ l vs
  | .dic l, a => ∃ vs, H a = some (.dK vs) ∧ RDk K H ρ l vs
  | .dit l, a => ∃ vs, H a = some (.dT vs) ∧ RDk K H ρ l vs
  | .ins C l, a => ∃ dx vs, H a = some (.ins C dx vs) ∧ RDk K H ρ l vs
structure RS (K : PySem.W.Frag) (H : Hp) (ρ : Loc) (s : Sto) : Prop where
  len : ρ.a.length = s.m.length
  nd : ρ.a.Nodup
  ob : ∀ n o a, nget s.m n = some o → nget ρ.a n = some a → RO K H ρ o a
  gn : ∀ r, s.g = some r → ∃ a b, ρ.g = some (a, b) ∧ H a = some (.lst [.ref b, .int (r.pos : Nat), .int r.carry, .int r.seed]) ∧ Rd H b (.lst (r.cells.map V.int)) ∧ a ∉ ρ.a ∧ b ∉ ρ.a ∧ a ≠ b
  gz : s.g = none → ρ.g = none
section
variable {K : PySem.W.Frag} {H H' : Hp} {ρ ρ' : Loc} {s s' : Sto}
/-- the object at a after a change elsewhere -/
theorem RO.keep {o : MO} {a : Addr} (e : ρ.le ρ') (t : TupX K H H') (ha : ∀ u, H a = some u → H' a = some u) (h : RO K H ρ o a) : RO K H' ρ' o a := by
  cases o with
  | lst l => obtain ⟨vs, h1, h2⟩ := h; exact ⟨vs, ha _ h1, h2.mono e t⟩
  | fro l =>
    obtain ⟨vs, h1, h2⟩ := h
    refine ⟨vs, ?_, h2.mono e t⟩
    rcases h1 with h1 | ⟨ob, h1⟩
    · exact .inl (ha _ h1)
    · exact .inr ⟨ob, ha _ h1⟩
  | dic l => obtain ⟨vs, h1, h2⟩ := h; exact ⟨vs, ha _ h1, h2.mono e t⟩
  | dit l => obtain ⟨vs, h1, h2⟩ := h; exact ⟨vs, ha _ h1, h2.mono e t⟩
  | ins C l => obtain ⟨dx, vs, h1, h2⟩ := h; exact ⟨dx, vs, ha _ h1, h2.mono e t⟩
theorem rd_same {a : Addr} {o : HO} (h : Same H H') (x : Rd H a o) : Rd H' a o := by
  rcases x with x | ⟨ob, x⟩
  · exact .inl (h _ _ x)
  · exact .inr ⟨ob, h _ _ x⟩
theorem rd_upd {a x : Addr} {o u : HO} (ne : a ≠ x) (h : Rd H a o) : Rd (upd H x u) a o := by
  rcases h with h | ⟨ob, h⟩
  · exact .inl (by rw [upd_ne ne]; exact h)
  · exact .inr ⟨ob, by rw [upd_ne ne]; exact h⟩
theorem rd_some {a : Addr} {o : HO} (h : Rd H a o) : H a ≠ none := by
  rcases h with h | ⟨ob, h⟩ <;> rw [h] <;> simp
theorem RO.tracked {o : MO} {a : Addr} (h : RO K H ρ o a) : H a ≠ none := by
  cases o with
  | lst l => obtain ⟨vs, h1, h2⟩ := h; simp [h1]
  | fro l => obtain ⟨vs, h1, h2⟩ := h; exact rd_some h1
  | dic l => obtain ⟨vs, h1, h2⟩ := h; simp [h1]
  | dit l => obtain ⟨vs, h1, h2⟩ := h; simp [h1]
  | ins C l => obtain ⟨dx, vs, h1, h2⟩ := h; simp [h1]
theorem nget_of_mem {α : Type} : ∀ {l : List α} {x : α}, x ∈ l → ∃ i, nget l i = some x
  | o :: m, x, h => by
    rcases List.mem_cons.mp h with e | h
    · exact ⟨m.length, by rw [nget, if_pos rfl, e]⟩
    · obtain ⟨i, q⟩ := nget_of_mem h
      exact ⟨i, by rw [nget, if_neg (Nat.ne_of_lt (nget_lt q)), q]⟩
theorem RS.fresh (r : RS K H ρ s) {p : Addr} (hp : H p = none) : p ∉ ρ.a := fun h => by
  obtain ⟨i, q⟩ := nget_of_mem h
  obtain ⟨o, e⟩ := nget_some (l := s.m) (i := i) (by rw [← r.len]; exact nget_lt q)
  exact (r.ob i o p e q).tracked hp
theorem RS.same (r : RS K H ρ s) (h : Same H H') : RS K H' ρ s := by
  refine ⟨r.len, r.nd, fun n o a e e' => (r.ob n o a e e').keep (Loc.le_refl _) (TupX.of_same h) fun u q => h _ _ q, fun g e => ?_, r.gz⟩
  obtain ⟨a, b, h1, h2, h3, h4, h5, h6⟩ := r.gn g e
  exact ⟨a, b, h1, h _ _ h2, rd_same h h3, h4, h5, h6⟩
theorem RS.at (r : RS K H ρ s) {n : Nat} {o : MO} (e : nget s.m n = some o) : ∃ a, nget ρ.a n = some a ∧ RO K H ρ o a := by
  obtain ⟨a, q⟩ := nget_some (l := ρ.a) (i := n) (by rw [r.len]; exact nget_lt e)
  exact ⟨a, q, r.ob n o a e q⟩
/-- a new object, just laid at p -/
theorem RS.new (r : RS K H ρ s) {p : Addr} {ho : HO} {o : MO} (hp : H p = none) (h : RO K (upd H p ho) ⟨p :: ρ.a, ρ.g⟩ o p) :
    RS K (upd H p ho) ⟨p :: ρ.a, ρ.g⟩ ⟨o :: s.m, s.g⟩ := by
  have le : ρ.le ⟨p :: ρ.a, ρ.g⟩ := ⟨List.suffix_cons _ _, .inr rfl⟩
  have sm : Same H (upd H p ho) := same_new hp
  have np : p ∉ ρ.a := r.fresh hp
  refine ⟨by simp [r.len], List.nodup_cons.mpr ⟨np, r.nd⟩, fun n u a e e' => ?_, fun g e => ?_, r.gz⟩
  · unfold nget at e e'
    rw [r.len] at e'
    split at e
    · rename_i z
      rw [if_pos z] at e'
      cases e; cases e'
      exact h
    · rename_i z
      rw [if_neg z] at e'
      exact (r.ob n u a e e').keep le (TupX.of_same sm) fun w q => sm _ _ q
  · obtain ⟨a, b, h1, h2, h3, h4, h5, h6⟩ := r.gn g e
    have n1 : p ≠ a := fun z => by rw [← z, hp] at h2; cases h2
    have n2 : p ≠ b := fun z => rd_some h3 (z ▸ hp)
    exact ⟨a, b, h1, sm _ _ h2, rd_same sm h3, by simp; exact ⟨Ne.symm n1, h4⟩, by simp; exact ⟨Ne.symm n2, h5⟩, h6⟩
/-- the n-th object is changed -/
theorem RS.put (r : RS K H ρ s) {n : Nat} {x : Addr} {ho hu : HO} {u : MO} (ex : nget ρ.a n = some x) (hx : H x = some ho) (c : Chg ho) (h : RO K (upd H x hu) ρ u x) : RS K (upd H x hu) ρ ⟨nset s.m n u, s.g⟩ := by
  have t : TupX K H (upd H x hu) := TupX.chg hx c
  have hn : n < s.m.length := by rw [← r.len]; exact nget_lt ex
  refine ⟨by simp [nset_length, r.len], r.nd, fun k o a e e' => ?_, fun g e => ?_, r.gz⟩
  · have e1 : (if k = n then some u else nget s.m k) = some o := by
      rw [← nget_nset hn]
      exact e
    by_cases z : k = n
    · rw [if_pos z] at e1
      subst z
      rw [ex] at e'
      cases e1; cases e'
      exact h
    · rw [if_neg z] at e1
      have ne : a ≠ x := fun q => z (nget_inj r.nd (q ▸ e') ex)
      exact (r.ob k o a e1 e').keep (Loc.le_refl _) t fun w q => by rw [upd_ne ne]; exact q
  · obtain ⟨a, b, h1, h2, h3, h4, h5, h6⟩ := r.gn g e
    have na : a ≠ x := fun z => h4 (z ▸ nget_mem ex)
    have nb : b ≠ x := fun z => h5 (z ▸ nget_mem ex)
    exact ⟨a, b, h1, by rw [upd_ne na]; exact h2, rd_upd nb h3, h4, h5, h6⟩
end
end DL

/-! The data layer, second part: outcomes, canonical readings, operators. -/
namespace DL
open PySem PySem.Spec PyProof.Rows L2

inductive Out (α : Type) where
  | ok (a : α) (s : Sto) | exc (c : Addr) (l : List (Str × D)) (s : Sto) | bad
def Out.bind {α β : Type} (o : Out α) (k : α → Sto → Out β) : Out β := match o with
  | .ok a s => k a s
  | .exc c l s => .exc c l s
  | .bad => .bad
@[simp] theorem bind_ok {α β : Type} {a : α} {s : Sto} {k : α → Sto → Out β} : (Out.ok a s).bind k = k a s := (rfl)
@[simp] theorem bind_exc {α β : Type} {c : Addr} {l : List (Str × D)} {s : Sto} {k : α → Sto → Out β} : (Out.exc c l s : Out α).bind k = .exc c l s := (rfl)
@[simp] theorem bind_bad {α β : Type} {k : α → Sto → Out β} : (Out.bad : Out α).bind k = .bad := (rfl)
abbrev DEnv := List (Option D)
/-- what is wanted of an exception: its class, its dict, the slots, the heap -/
abbrev Wx := Addr → Addr → L2.St → Hp → Prop
def Sl (K : PySem.W.Frag) (H : Hp) (ρ : Loc) (δ : DEnv) (σ : L2.St) : Prop := δ.length = σ.length ∧ ∀ (i : Nat) (d : D), δ[i]? = some (some d) → ∃ v, σ[i]? = some (some v) ∧ RD K H ρ d v
theorem Sl.mono {K : PySem.W.Frag} {H H' : Hp} {ρ ρ' : Loc} {δ : DEnv} {σ : L2.St} (h : Sl K H ρ δ σ) (l : ρ.le ρ') (t : TupX K H H') : Sl K H' ρ' δ σ :=
  ⟨h.1, fun i d e => let ⟨v, q, r⟩ := h.2 i d e; ⟨v, q, r.mono l t⟩⟩
theorem Sl.set {K : PySem.W.Frag} {H : Hp} {ρ : Loc} {δ : DEnv} {σ : L2.St} (h : Sl K H ρ δ σ) {d : D} {v : V} (r : RD K H ρ d v) (i : Nat) : Sl K H ρ (δ.set i (some d)) (σ.set i (some v)) := by
  refine ⟨by simp [h.1], fun j e q => ?_⟩
  by_cases hj : i = j
  · subst hj
    by_cases hi : i < δ.length
    · rw [List.getElem?_set_self hi] at q
      cases q
      exact ⟨v, List.getElem?_set_self (by rw [← h.1]; exact hi), r⟩
    · rw [List.getElem?_eq_none (by simpa using Nat.le_of_not_lt hi)] at q
      cases q
  · rw [List.getElem?_set_ne hj] at q
    obtain ⟨w, q1, q2⟩ := h.2 j e q
    exact ⟨w, by rw [List.getElem?_set_ne hj]; exact q1, q2⟩
theorem Sl.none {K : PySem.W.Frag} {H : Hp} {ρ : Loc} {δ : DEnv} {σ : L2.St} (h : Sl K H ρ δ σ) (i : Nat) (o : Option V) : Sl K H ρ (δ.set i none) (σ.set i o) := by
  refine ⟨by simp [h.1], fun j e q => ?_⟩
  by_cases hj : i = j
  · subst hj
    by_cases hi : i < δ.length
    · rw [List.getElem?_set_self hi] at q
      cases q
    · rw [List.getElem?_eq_none (by simpa using Nat.le_of_not_lt hi)] at q
      cases q
  · rw [List.getElem?_set_ne hj] at q
    obtain ⟨w, q1, q2⟩ := h.2 j e q
    exact ⟨w, by rw [List.getElem?_set_ne hj]; exact q1, q2⟩

/-- what an outcome gives -/
def okG {α β : Type} (K : PySem.W.Frag) (W : Wx) (RR : Hp → Loc → α → β → Prop) (ρ : Loc) (H : Hp) (σ : L2.St) (r : Out α) (Q : β → Hp → Prop) : Prop := match r with
  | .ok d s' => ∀ v H' ρ', ρ.le ρ' → TupX K H H' → RS K H' ρ' s' → RR H' ρ' d v → Q v H'
  | .exc c l s' => ∀ dx H' ρ' vs, ρ.le ρ' → TupX K H H' → RS K H' ρ' s' → H' dx = some (.xd vs) → RDk K H' ρ' l vs → W c dx σ H'
  | .bad => False
section
variable {α β γ γ' : Type} {K : PySem.W.Frag} {W : Wx} {RR : Hp → Loc → γ → γ' → Prop} {ρ ρ1 : Loc} {H H1 : Hp} {σ : L2.St}
theorem okG.from {r : Out γ} {Q : γ' → Hp → Prop} (h : okG K W RR ρ H σ r Q) (l : ρ.le ρ1) (t : TupX K H H1) : okG K W RR ρ1 H1 σ r Q := by
  cases r with
  | ok d s' => exact fun v H' ρ' l' t' => h v H' ρ' (Loc.le_trans l l') (t.trans t')
  | exc c fs s' => exact fun dx H' ρ' vs l' t' => h dx H' ρ' vs (Loc.le_trans l l') (t.trans t')
  | bad => exact h
end
def tG {α β : Type} (K : PySem.W.Frag) (W : Wx) (RR : Hp → Loc → α → β → Prop) (f : DEnv → Sto → Out α) : L2.St → Hp → (β → Hp → Prop) → Prop := fun σ H Q => ∃ ρ δ s, Sl K H ρ δ σ ∧ RS K H ρ s ∧ okG K W RR ρ H σ (f δ s) Q
abbrev rrD (K : PySem.W.Frag) : Hp → Loc → D → V → Prop := fun H ρ d v => RD K H ρ d v
abbrev rrDs (K : PySem.W.Frag) : Hp → Loc → List D → List V → Prop := fun H ρ d v => RDs K H ρ d v
abbrev rrB : Hp → Loc → Bool → Bool → Prop := fun _ _ a b => b = a
abbrev tE (K : PySem.W.Frag) (W : Wx) (f : DEnv → Sto → Out D) : TE := tG K W (rrD K) f
abbrev tA (K : PySem.W.Frag) (W : Wx) (f : DEnv → Sto → Out (List D)) : TA := tG K W (rrDs K) f
abbrev tT (K : PySem.W.Frag) (W : Wx) (f : DEnv → Sto → Out Bool) : TT := tG K W rrB f
abbrev SE (X : Cx) (W : Wx) (e : Expr) (f : DEnv → Sto → Out D) : Prop := PE X e (tE X.K W f)
abbrev SA (X : Cx) (W : Wx) (es : List Expr) (f : DEnv → Sto → Out (List D)) : Prop := PA X es (tA X.K W f)
abbrev ST (X : Cx) (W : Wx) (e : Expr) (f : DEnv → Sto → Out Bool) : Prop := PT X e (tT X.K W f)
abbrev SW (X : Cx) (W : Wx) (e : Expr) (f : DEnv → Sto → Out Bool) : Prop := PW X e (tT X.K W f)
theorem PEweak {X : Cx} {e : Expr} {t t' : TE} (h : PE X e t) (w : ∀ σ H Q, t' σ H Q → t σ H Q) : PE X e t' := ⟨fun pins s σ H Q I q => h.run pins s σ H Q I (w _ _ _ q)⟩
theorem PAweak {X : Cx} {e : List Expr} {t t' : TA} (h : PA X e t) (w : ∀ σ H Q, t' σ H Q → t σ H Q) : PA X e t' := ⟨fun pos pins s σ H Q I q => h.run pos pins s σ H Q I (w _ _ _ q)⟩
theorem PTweak {X : Cx} {e : Expr} {t t' : TT} (h : PT X e t) (w : ∀ σ H Q, t' σ H Q → t σ H Q) : PT X e t' := ⟨fun pins s σ H Q I q => h.run pins s σ H Q I (w _ _ _ q)⟩
theorem PWweak {X : Cx} {e : Expr} {t t' : TT} (h : PW X e t) (w : ∀ σ H Q, t' σ H Q → t σ H Q) : PW X e t' := ⟨fun wh pins s σ H Q I q => h.run wh pins s σ H Q I (w _ _ _ q)⟩

section
variable {α β γ γ' : Type} {K : PySem.W.Frag} {W : Wx} {R1 : Hp → Loc → α → β → Prop} {RR : Hp → Loc → γ → γ' → Prop} {ρ : Loc} {H : Hp} {σ : L2.St} {δ : DEnv} {s : Sto}
/-- one part, then the rest -/
theorem bindG {o : Out α} {k : α → Sto → Out γ} {Q : γ' → Hp → Prop} {R : β → Hp → Prop} (sl : Sl K H ρ δ σ) (rs : RS K H ρ s) (h : okG K W RR ρ H σ (o.bind k) Q)
    (hR : ∀ d s1 v H1 ρ1, Sl K H1 ρ1 δ σ → RS K H1 ρ1 s1 → ρ.le ρ1 → TupX K H H1 → R1 H1 ρ1 d v → okG K W RR ρ1 H1 σ (k d s1) Q → R v H1) : okG K W R1 ρ H σ o R := by
  cases o with
  | ok d s1 => exact fun v H1 ρ1 l t r q => hR d s1 v H1 ρ1 (sl.mono l t) r l t q (okG.from (r := k d s1) h l t)
  | exc c fs s1 => exact h
  | bad => exact h
theorem bindT {f : DEnv → Sto → Out α} {k : α → Sto → Out γ} {Q : γ' → Hp → Prop} {R : β → Hp → Prop} (sl : Sl K H ρ δ σ) (rs : RS K H ρ s) (h : okG K W RR ρ H σ ((f δ s).bind k) Q)
    (hR : ∀ d s1 v H1 ρ1, Sl K H1 ρ1 δ σ → RS K H1 ρ1 s1 → ρ.le ρ1 → TupX K H H1 → R1 H1 ρ1 d v → okG K W RR ρ1 H1 σ (k d s1) Q → R v H1) : tG K W R1 f σ H R := ⟨ρ, δ, s, sl, rs, bindG sl rs h hR⟩
/-- an outcome that is there -/
theorem okG.done {d : γ} {Q : γ' → Hp → Prop} {v : γ'} (h : okG K W RR ρ H σ (.ok d s) Q) (rs : RS K H ρ s) (r : RR H ρ d v) : Q v H := h v H ρ (Loc.le_refl _) (TupX.refl _) rs r
end

/-! ### names, constants, tuples, lists -/
def eVar (i : Nat) : DEnv → Sto → Out D := fun δ s => match δ[i]? with
  | some (some d) => .ok d s
  | _ => .bad
def eC (d : D) : DEnv → Sto → Out D := fun _ s => .ok d s
section
variable {X : Cx} {W : Wx} {pos : Pos}
theorem se_var' {e : Expr} {i : Nat} (h : PE X e (tVar i)) : SE X W e (eVar i) := PEweak h fun σ H Q q => by
  obtain ⟨ρ, δ, s, sl, rs, q⟩ := q
  unfold eVar at q
  split at q
  · rename_i d e
    obtain ⟨v, e1, r⟩ := sl.2 i d e
    exact ⟨v, e1, q.done rs r⟩
  · exact q.elim
theorem se_c' {e : Expr} {d : D} {v : V} (h : PE X e (tC v)) (r : ∀ K H ρ, RD K H ρ d v) : SE X W e (eC d) := PEweak h fun σ H Q q => by
  obtain ⟨ρ, δ, s, sl, rs, q⟩ := q
  exact okG.done (v := v) q rs (r _ _ _)
theorem sv (i : Nat) {x : Str} (hN : X.N[i]? = some x := by rfl) (hv : Vis X.env.scope x := by first | exact Or.inl rfl | exact Or.inr (Or.inl rfl) | exact Or.inr (Or.inr rfl)) (hd : (x == ("__debug__" : Str)) = false := by decide)
    (hcd : (x == ("__classdict__" : Str)) = false := by decide) : SE X W (.Name x pos) (eVar i) := se_var' (pe_var hN hv hd hcd)
theorem se_int {i : Int} {j : Nat} : SE X W (.Constant (.int i) j pos) (eC (.int i)) := se_c' pe_int fun _ _ _ => by unfold RD; rfl
theorem se_bl {b : Bool} {j : Nat} : SE X W (.Constant (.bool b) j pos) (eC (.bl b)) := se_c' pe_bl fun _ _ _ => by unfold RD; rfl
theorem se_non {j : Nat} : SE X W (.Constant .none j pos) (eC .non) := se_c' pe_non fun _ _ _ => by unfold RD; rfl
theorem se_str {x : Str} {j : Nat} : SE X W (.Constant (.str x) j pos) (eC (.str x)) := se_c' pe_str fun _ _ _ => by unfold RD; rfl
/-- a constant of the module that is an int -/
theorem se_globI {x : Str} {i : Int} {t : Tok} (hm : X.mg x = some (.int i t)) (hg : Gl X x := by rfl) (hd : (x == ("__debug__" : Str)) = false := by decide) : SE X W (.Name x pos) (eC (.int i)) :=
  se_c' (pe_glob (v := .int i) hg hm ⟨t, rfl⟩ hd) fun _ _ _ => by unfold RD; rfl
/-- a built-in class as a value -/
theorem se_typ {x : Str} {n : String} (hm : X.mg x = none) (hv : bootBuiltins x = some (.type n) := by decide +kernel) (hg : Gl X x := by rfl) (hn : x ≠ "__name__" := by decide) (hd : (x == ("__debug__" : Str)) = false := by decide) : SE X W (.Name x pos) (eC (.typ n)) :=
  se_c' (pe_bltn (v := .ty n) hg hm hv rfl hn hd) fun _ _ _ => by unfold RD; rfl

def aNil : DEnv → Sto → Out (List D) := fun _ s => .ok [] s
def aCons (f : DEnv → Sto → Out D) (g : DEnv → Sto → Out (List D)) : DEnv → Sto → Out (List D) := fun δ s => (f δ s).bind fun d s1 => (g δ s1).bind fun ds s2 => .ok (d :: ds) s2
theorem sa_nil : SA X W [] aNil := PAweak pa_nil fun σ H Q q => by
  obtain ⟨ρ, δ, s, sl, rs, q⟩ := q
  exact okG.done (v := []) q rs RDs.nil
theorem sa_cons {e : Expr} {es : List Expr} {f : DEnv → Sto → Out D} {g : DEnv → Sto → Out (List D)} (h : SE X W e f) (hs : SA X W es g) (hst : starEach (e :: es) X.env = (false, eval e X.env) :: starEach es X.env := by rfl) : SA X W (e :: es) (aCons f g) :=
  PAweak (pa_cons h hs hst) fun σ H Q q => by
    obtain ⟨ρ, δ, s, sl, rs, q⟩ := q
    refine bindT sl rs q fun d s1 v H1 ρ1 sl1 rs1 l1 t1 r1 q1 => ?_
    refine bindT sl1 rs1 q1 fun ds s2 vs H2 ρ2 sl2 rs2 l2 t2 r2 q2 => ?_
    exact q2.done rs2 (RDs.cons (r1.mono l2 t2) r2)
/-- the longest list that the layer makes -/
abbrev lim : Nat := 1000000
theorem lim_le : lim < sizeLine := by rw [sizeLine_eq]; decide
def mkTup (ds : List D) (s : Sto) : Out D := if ds.length < lim then .ok (.tup ds) s else .bad
def mkObj (o : MO) (s : Sto) : Out D := .ok (.obj s.m.length) ⟨o :: s.m, s.g⟩
def mkLst (ds : List D) (s : Sto) : Out D := if ds.length < lim then mkObj (.lst ds) s else .bad
def eTup (g : DEnv → Sto → Out (List D)) : DEnv → Sto → Out D := fun δ s => (g δ s).bind mkTup
def eLst (g : DEnv → Sto → Out (List D)) : DEnv → Sto → Out D := fun δ s => (g δ s).bind mkLst
section
variable {K : PySem.W.Frag} {ρ : Loc} {H : Hp} {σ : L2.St} {s : Sto} {Q : VK}
/-- a new tuple -/
theorem okG.tup {ds : List D} {vs : List V} (h : okG K W (rrD K) ρ H σ (mkTup ds s) Q) (rs : RS K H ρ s) (r : RDs K H ρ ds vs) : vs.length < lim ∧ ∀ p, H p = none → Q (.ref p) (upd H p (.tup vs)) := by
  unfold mkTup at h
  split at h
  · refine ⟨by rw [r.length]; assumption, fun p hp => ?_⟩
    have sm : Same H (upd H p (.tup vs)) := same_new hp
    refine h (.ref p) _ ρ (Loc.le_refl _) (TupX.of_same sm) (rs.same sm) ?_
    show RD _ _ _ _ _
    unfold RD
    exact ⟨p, vs, rfl, .of upd_same, r.mono (Loc.le_refl _) (TupX.of_same sm)⟩
  · exact h.elim
/-- a new object -/
theorem okG.obj {o : MO} {ho : HO} (h : okG K W (rrD K) ρ H σ (mkObj o s) Q) (rs : RS K H ρ s) (r : ∀ p, H p = none → RO K (upd H p ho) ⟨p :: ρ.a, ρ.g⟩ o p) : ∀ p, H p = none → Q (.ref p) (upd H p ho) := by
  intro p hp
  have sm : Same H (upd H p ho) := same_new hp
  refine h (.ref p) _ ⟨p :: ρ.a, ρ.g⟩ ⟨List.suffix_cons _ _, .inr rfl⟩ (TupX.of_same sm) (rs.new hp (r p hp)) ?_
  show RD _ _ _ _ _
  unfold RD
  exact ⟨p, rfl, by rw [nget, if_pos rs.len.symm]⟩
theorem okG.lst {ds : List D} {vs : List V} (h : okG K W (rrD K) ρ H σ (mkLst ds s) Q) (rs : RS K H ρ s) (r : RDs K H ρ ds vs) : vs.length < lim ∧ ∀ p, H p = none → Q (.ref p) (upd H p (.lst vs)) := by
  unfold mkLst at h
  split at h
  · refine ⟨by rw [r.length]; assumption, okG.obj h rs fun p hp => ⟨vs, upd_same, ?_⟩⟩
    exact RDs.mono (ρ' := ⟨p :: ρ.a, ρ.g⟩) ⟨List.suffix_cons _ _, .inr rfl⟩ (TupX.of_same (same_new hp)) r
  · exact h.elim
end
theorem se_tup {es : List Expr} {g : DEnv → Sto → Out (List D)} {x1} (h : SA X W es g) : SE X W (.Tuple es x1 pos) (eTup g) := PEweak (pe_tup h) fun σ H Q q => by
  obtain ⟨ρ, δ, s, sl, rs, q⟩ := q
  refine bindT sl rs q fun d s1 v H1 ρ1 sl1 rs1 l1 t1 r1 q1 => ?_
  obtain ⟨z, q2⟩ := q1.tup rs1 r1
  exact ⟨Nat.le_of_lt (Nat.lt_trans z lim_le), q2⟩
theorem se_lst {es : List Expr} {g : DEnv → Sto → Out (List D)} (h : SA X W es g) : SE X W (.List es pos) (eLst g) := PEweak (pe_lst h) fun σ H Q q => by
  obtain ⟨ρ, δ, s, sl, rs, q⟩ := q
  refine bindT sl rs q fun d s1 v H1 ρ1 sl1 rs1 l1 t1 r1 q1 => ?_
  obtain ⟨z, q2⟩ := q1.lst rs1 r1
  exact ⟨Nat.le_of_lt (Nat.lt_trans z lim_le), q2⟩

/-! ### operators -/
def rOp (K : PySem.W.Frag) (W : Wx) (op : D → D → Sto → Out D) : R2 := fun x y H Q => ∃ σ ρ s dx dy, RS K H ρ s ∧ RD K H ρ dx x ∧ RD K H ρ dy y ∧ okG K W (rrD K) ρ H σ (op dx dy s) Q
abbrev OpS (X : Cx) (W : Wx) (f : Value → Value → Sem Value) (op : D → D → Sto → Out D) : Prop := OpR X f (rOp X.K W op)
def eBin (op : D → D → Sto → Out D) (f g : DEnv → Sto → Out D) : DEnv → Sto → Out D := fun δ s => (f δ s).bind fun x s1 => (g δ s1).bind fun y s2 => op x y s2
theorem tOp_of {op : D → D → Sto → Out D} {f g : DEnv → Sto → Out D} {K : PySem.W.Frag} {σ : L2.St} {H : Hp} {Q : VK} (q : tE K W (eBin op f g) σ H Q) : tOp (rOp K W op) (tE K W f) (tE K W g) σ H Q := by
  obtain ⟨ρ, δ, s, sl, rs, q⟩ := q
  refine bindT sl rs q fun d s1 v H1 ρ1 sl1 rs1 l1 t1 r1 q1 => ?_
  refine bindT sl1 rs1 q1 fun e s2 u H2 ρ2 sl2 rs2 l2 t2 r2 q2 => ?_
  exact ⟨σ, ρ2, s2, d, e, rs2, r1.mono l2 t2, r2, q2⟩
variable {a b : Expr} {fa fb : DEnv → Sto → Out D} {op : D → D → Sto → Out D}
theorem se_bin {o : Operator} (ho : OpS X W (binaryOp o) op) (ha : SE X W a fa) (hb : SE X W b fb) : SE X W (.BinOp a o b pos) (eBin op fa fb) := PEweak (pe_op ho ha hb) fun _ _ _ q => tOp_of q
theorem se_cmp {o : CmpOp} (ho : OpS X W (compareOp o) op) (ha : SE X W a fa) (hb : SE X W b fb) (hm : behindInMarks o b = false := by first | exact nomark _ | rfl) : SE X W (.Compare a [o] [b] pos) (eBin op fa fb) := PEweak (pe_cmpR ho ha hb hm) fun _ _ _ q => tOp_of q
/-- the truth of what a test gives -/
def cB (f : DEnv → Sto → Out D) : DEnv → Sto → Out Bool := fun δ s => (f δ s).bind fun d s1 => match d with
  | .bl b => .ok b s1
  | _ => .bad
theorem RD.bl_of {K : PySem.W.Frag} {H : Hp} {ρ : Loc} {b : Bool} {v : V} (h : RD K H ρ (.bl b) v) : v = .bl b := by unfold RD at h; exact h
theorem RD.int_of {K : PySem.W.Frag} {H : Hp} {ρ : Loc} {b : Int} {v : V} (h : RD K H ρ (.int b) v) : v = .int b := by unfold RD at h; exact h
theorem RD.str_of {K : PySem.W.Frag} {H : Hp} {ρ : Loc} {b : Str} {v : V} (h : RD K H ρ (.str b) v) : v = .str b := by unfold RD at h; exact h
theorem RD.non_of {K : PySem.W.Frag} {H : Hp} {ρ : Loc} {v : V} (h : RD K H ρ .non v) : v = .non := by unfold RD at h; exact h
theorem RD.tup_of {K : PySem.W.Frag} {H : Hp} {ρ : Loc} {l : List D} {v : V} (h : RD K H ρ (.tup l) v) : ∃ a vs, v = .ref a ∧ SqT K H a vs ∧ RDs K H ρ l vs := by unfold RD at h; exact h
theorem RD.obj_of {K : PySem.W.Frag} {H : Hp} {ρ : Loc} {n : Nat} {v : V} (h : RD K H ρ (.obj n) v) : ∃ a, v = .ref a ∧ nget ρ.a n = some a := by unfold RD at h; exact h
theorem RD.bl {K : PySem.W.Frag} {H : Hp} {ρ : Loc} {b : Bool} : RD K H ρ (.bl b) (.bl b) := by unfold RD; rfl
theorem RD.int {K : PySem.W.Frag} {H : Hp} {ρ : Loc} {b : Int} : RD K H ρ (.int b) (.int b) := by unfold RD; rfl
theorem RD.str {K : PySem.W.Frag} {H : Hp} {ρ : Loc} {b : Str} : RD K H ρ (.str b) (.str b) := by unfold RD; rfl
theorem RD.non {K : PySem.W.Frag} {H : Hp} {ρ : Loc} : RD K H ρ .non .non := by unfold RD; rfl
theorem RD.tupI {K : PySem.W.Frag} {H : Hp} {ρ : Loc} {l : List D} {a : Addr} {vs : List V} (h : SqT K H a vs) (r : RDs K H ρ l vs) : RD K H ρ (.tup l) (.ref a) := by unfold RD; exact ⟨a, vs, rfl, h, r⟩
theorem st_cmp {o : CmpOp} (ho : OpS X W (compareOp o) op) (ha : SE X W a fa) (hb : SE X W b fb) (hm : behindInMarks o b = false := by first | exact nomark _ | rfl) : ST X W (.Compare a [o] [b] pos) (cB (eBin op fa fb)) :=
  PTweak (pt_cmpR ho ha hb hm) fun σ H Q q => by
    obtain ⟨ρ, δ, s, sl, rs, q⟩ := q
    refine tOp_of ⟨ρ, δ, s, sl, rs, bindG sl rs q fun d s1 v H1 ρ1 sl1 rs1 l1 t1 r1 q1 => ?_⟩
    cases d with
    | bl b => exact ⟨b, RD.bl_of r1, q1.done rs1 rfl⟩
    | _ => exact q1.elim
/-- a chain of two comparisons -/
def eChain (op op' : D → D → Sto → Out D) (f g h : DEnv → Sto → Out D) : DEnv → Sto → Out D := fun δ s => (f δ s).bind fun x s1 => (g δ s1).bind fun y s2 => (op x y s2).bind fun z s3 => match z with
  | .bl true => (h δ s3).bind fun u s4 => op' y u s4
  | .bl false => .ok (.bl false) s3
  | _ => .bad
theorem tChain_of {op op' : D → D → Sto → Out D} {f g h : DEnv → Sto → Out D} {K : PySem.W.Frag} {σ : L2.St} {H : Hp} {Q : VK} (q : tE K W (eChain op op' f g h) σ H Q) : tChain (rOp K W op) (rOp K W op') (tE K W f) (tE K W g) (tE K W h) σ H Q := by
  obtain ⟨ρ, δ, s, sl, rs, q⟩ := q
  refine bindT sl rs q fun d s1 v H1 ρ1 sl1 rs1 l1 t1 r1 q1 => ?_
  refine bindT sl1 rs1 q1 fun e s2 u H2 ρ2 sl2 rs2 l2 t2 r2 q2 => ?_
  refine ⟨σ, ρ2, s2, d, e, rs2, r1.mono l2 t2, r2, bindG sl2 rs2 q2 fun z s3 w H3 ρ3 sl3 rs3 l3 t3 r3 q3 => ?_⟩
  cases z with
  | bl k =>
    refine ⟨k, RD.bl_of r3, ?_⟩
    cases k with
    | true =>
      rw [if_pos rfl]
      refine bindT sl3 rs3 q3 fun z4 s4 w4 H4 ρ4 sl4 rs4 l4 t4 r4 q4 => ?_
      exact ⟨σ, ρ4, s4, e, z4, rs4, r2.mono (Loc.le_trans l3 l4) (t3.trans t4), r4, q4⟩
    | false =>
      rw [if_neg Bool.false_ne_true]
      exact okG.done (v := V.bl false) q3 rs3 RD.bl
  | _ => exact q3.elim
theorem se_chain {o o' : CmpOp} {op' : D → D → Sto → Out D} {c : Expr} {fc : DEnv → Sto → Out D} (ho : OpS X W (compareOp o) op) (ho' : OpS X W (compareOp o') op') (ha : SE X W a fa) (hb : SE X W b fb) (hc : SE X W c fc)
    (hm : lastMarks [o, o'] [b, c] = false := by with_unfolding_all rfl) : SE X W (.Compare a [o, o'] [b, c] pos) (eChain op op' fa fb fc) := PEweak (pe_chain ho ho' ha hb hc hm) fun _ _ _ q => tChain_of q
theorem st_chain {o o' : CmpOp} {op' : D → D → Sto → Out D} {c : Expr} {fc : DEnv → Sto → Out D} (ho : OpS X W (compareOp o) op) (ho' : OpS X W (compareOp o') op') (ha : SE X W a fa) (hb : SE X W b fb) (hc : SE X W c fc)
    (hm : lastMarks [o, o'] [b, c] = false := by with_unfolding_all rfl) : ST X W (.Compare a [o, o'] [b, c] pos) (cB (eChain op op' fa fb fc)) :=
  PTweak (pt_chain ho ho' ha hb hc hm) fun σ H Q q => by
    obtain ⟨ρ, δ, s, sl, rs, q⟩ := q
    refine tChain_of ⟨ρ, δ, s, sl, rs, bindG sl rs q fun d s1 v H1 ρ1 sl1 rs1 l1 t1 r1 q1 => ?_⟩
    cases d with
    | bl b => exact ⟨b, RD.bl_of r1, q1.done rs1 rfl⟩
    | _ => exact q1.elim

/-! ### truth -/
def truthD (s : Sto) : D → Option Bool
  | .non => some false
  | .bl b => some b
  | .int i => some (i != 0)
  | .str y => if y.length < lim then some ((y.length : Int) != 0) else none
  | .tup l => some (!l.isEmpty)
  | .obj n => match nget s.m n with
    | some (.lst l) => some (!l.isEmpty)
    | some (.fro l) => some (!l.isEmpty)
    | some (.dic l) => some (!l.isEmpty)
    | _ => none
  | _ => none
theorem emp_of {K : PySem.W.Frag} {H : Hp} {ρ : Loc} {ds : List D} {vs : List V} (h : RDs K H ρ ds vs) : ds.isEmpty = vs.isEmpty := by
  have e := h.length
  cases ds <;> cases vs <;> first | rfl | cases e
theorem empk_of {κ : Type} {K : PySem.W.Frag} {H : Hp} {ρ : Loc} {l : List (κ × D)} {vs : List (κ × V)} (h : RDk K H ρ l vs) : l.isEmpty = vs.isEmpty := by
  have e := congrArg List.length h.1
  simp at e
  cases l <;> cases vs <;> first | rfl | (simp at e)
theorem tru_of {K : PySem.W.Frag} {H : Hp} {ρ : Loc} {s : Sto} (rs : RS K H ρ s) {d : D} {v : V} {k : Bool} (r : RD K H ρ d v) (h : truthD s d = some k) : TruV K v H k := by
  cases d with
  | non => cases RD.non_of r; cases h; rfl
  | bl b => cases RD.bl_of r; cases h; rfl
  | int b => cases RD.int_of r; cases h; rfl
  | str b =>
    cases RD.str_of r
    have h : (if b.length < lim then some ((b.length : Int) != 0) else none) = some k := h
    by_cases z : b.length < lim
    · rw [if_pos z] at h
      cases h
      exact ⟨Nat.le_of_lt (Nat.lt_trans z lim_le), rfl⟩
    · rw [if_neg z] at h
      cases h
  | tup l =>
    obtain ⟨a, vs, rfl, q, z⟩ := RD.tup_of r
    cases h
    exact .inr (.inl ⟨vs, q, by rw [emp_of z]⟩)
  | obj n =>
    obtain ⟨a, rfl, q⟩ := RD.obj_of r
    have h : (match nget s.m n with
      | some (.lst l) => some (!l.isEmpty)
      | some (.fro l) => some (!l.isEmpty)
      | some (.dic l) => some (!l.isEmpty)
      | _ => none) = some k := h
    split at h
    · rename_i l e
      cases h
      obtain ⟨vs, h1, h2⟩ := rs.ob n _ a e q
      exact .inl ⟨vs, .of h1, by rw [emp_of h2]⟩
    · rename_i l e
      cases h
      obtain ⟨vs, h1, h2⟩ := rs.ob n _ a e q
      exact .inl ⟨vs, .inl h1, by rw [emp_of h2]⟩
    · rename_i l e
      cases h
      obtain ⟨vs, h1, h2⟩ := rs.ob n _ a e q
      exact .inr (.inr ⟨vs, h1, by rw [empk_of h2]⟩)
    · cases h
  | rng _ => cases h
  | adr _ => cases h
  | typ _ => cases h
  | kls _ => cases h
def tru {α : Type} (d : D) (s : Sto) (k : Bool → Out α) : Out α := match truthD s d with
  | some b => k b
  | none => .bad
def cTru (f : DEnv → Sto → Out D) : DEnv → Sto → Out Bool := fun δ s => (f δ s).bind fun d s1 => tru d s1 fun b => .ok b s1
theorem st_tru (ha : SE X W a fa) (he : ∀ whole, isTrue a X.env whole = (do let v ← whole; standAt a.pos; holding [v] (truthy v)) := by intro _; rfl) : ST X W a (cTru fa) :=
  PTweak (pt_truth ha he) fun σ H Q q => by
    obtain ⟨ρ, δ, s, sl, rs, q⟩ := q
    refine bindT sl rs q fun d s1 v H1 ρ1 sl1 rs1 l1 t1 r1 q1 => ?_
    unfold tru at q1
    split at q1
    · rename_i b e
      exact ⟨b, tru_of rs1 r1 e, q1.done rs1 rfl⟩
    · exact q1.elim

/-! ### and, or, not, if -/
variable {ca cb : DEnv → Sto → Out Bool} {rest : List Expr}
def cAnd (c d : DEnv → Sto → Out Bool) : DEnv → Sto → Out Bool := fun δ s => (c δ s).bind fun b s1 => if b = true then d δ s1 else .ok false s1
def cOr (c d : DEnv → Sto → Out Bool) : DEnv → Sto → Out Bool := fun δ s => (c δ s).bind fun b s1 => if b = true then .ok true s1 else d δ s1
def cNot (c : DEnv → Sto → Out Bool) : DEnv → Sto → Out Bool := fun δ s => (c δ s).bind fun b s1 => .ok (!b) s1
theorem sw_and1 (ha : ST X W a ca) : SW X W (.BoolOp .And [a] pos) ca := pw_and1 ha
theorem sw_or1 (ha : ST X W a ca) : SW X W (.BoolOp .Or [a] pos) ca := pw_or1 ha
theorem sw_and (ha : ST X W a ca) (hb : SW X W (.BoolOp .And (b :: rest) pos) cb) : SW X W (.BoolOp .And (a :: b :: rest) pos) (cAnd ca cb) := PWweak (pw_and ha hb) fun σ H Q q => by
  obtain ⟨ρ, δ, s, sl, rs, q⟩ := q
  refine bindT sl rs q fun d s1 v H1 ρ1 sl1 rs1 l1 t1 r1 q1 => ?_
  cases r1
  cases d with
  | true => rw [if_pos rfl]; exact ⟨ρ1, δ, s1, sl1, rs1, q1⟩
  | false => rw [if_neg Bool.false_ne_true]; exact okG.done (v := false) q1 rs1 rfl
theorem sw_or (ha : ST X W a ca) (hb : SW X W (.BoolOp .Or (b :: rest) pos) cb) : SW X W (.BoolOp .Or (a :: b :: rest) pos) (cOr ca cb) := PWweak (pw_or ha hb) fun σ H Q q => by
  obtain ⟨ρ, δ, s, sl, rs, q⟩ := q
  refine bindT sl rs q fun d s1 v H1 ρ1 sl1 rs1 l1 t1 r1 q1 => ?_
  cases r1
  cases d with
  | false => rw [if_neg Bool.false_ne_true]; exact ⟨ρ1, δ, s1, sl1, rs1, q1⟩
  | true => rw [if_pos rfl]; exact okG.done (v := true) q1 rs1 rfl
theorem sw_pt (h : SW X W a ca) : ST X W a ca := PW.pt h
theorem st_not (ha : ST X W a ca) : ST X W (.UnaryOp .Not a pos) (cNot ca) := PTweak (pt_not ha) fun σ H Q q => by
  obtain ⟨ρ, δ, s, sl, rs, q⟩ := q
  refine bindT sl rs q fun d s1 v H1 ρ1 sl1 rs1 l1 t1 r1 q1 => ?_
  cases r1
  exact q1.done rs1 rfl
def eIf (c : DEnv → Sto → Out Bool) (f g : DEnv → Sto → Out D) : DEnv → Sto → Out D := fun δ s => (c δ s).bind fun b s1 => if b = true then f δ s1 else g δ s1
theorem se_if {c : Expr} {cc : DEnv → Sto → Out Bool} (hc : ST X W c cc) (ha : SE X W a fa) (hb : SE X W b fb) : SE X W (.IfExp c a b pos) (eIf cc fa fb) := PEweak (pe_ifExp hc ha hb) fun σ H Q q => by
  obtain ⟨ρ, δ, s, sl, rs, q⟩ := q
  refine bindT sl rs q fun d s1 v H1 ρ1 sl1 rs1 l1 t1 r1 q1 => ?_
  cases r1
  cases d with
  | true => rw [if_pos rfl]; exact ⟨ρ1, δ, s1, sl1, rs1, q1⟩
  | false => rw [if_neg Bool.false_ne_true]; exact ⟨ρ1, δ, s1, sl1, rs1, q1⟩
/-- as values -/
def eAnd (f g : DEnv → Sto → Out D) : DEnv → Sto → Out D := fun δ s => (f δ s).bind fun d s1 => tru d s1 fun b => if b = true then g δ s1 else .ok d s1
def eOr (f g : DEnv → Sto → Out D) : DEnv → Sto → Out D := fun δ s => (f δ s).bind fun d s1 => tru d s1 fun b => if b = true then .ok d s1 else g δ s1
def eNot (f : DEnv → Sto → Out D) : DEnv → Sto → Out D := fun δ s => (f δ s).bind fun d s1 => tru d s1 fun b => .ok (.bl (!b)) s1
theorem se_one {op} (h : SE X W a fa) : SE X W (.BoolOp op [a] pos) fa := pe_one h
theorem se_and (ha : SE X W a fa) (hb : SE X W (.BoolOp .And (b :: rest) pos) fb) : SE X W (.BoolOp .And (a :: b :: rest) pos) (eAnd fa fb) := PEweak (pe_andT ha hb) fun σ H Q q => by
  obtain ⟨ρ, δ, s, sl, rs, q⟩ := q
  refine bindT sl rs q fun d s1 v H1 ρ1 sl1 rs1 l1 t1 r1 q1 => ?_
  unfold tru at q1
  split at q1
  · rename_i k e
    refine ⟨k, tru_of rs1 r1 e, ?_⟩
    cases k with
    | true => rw [if_pos rfl]; exact ⟨ρ1, δ, s1, sl1, rs1, q1⟩
    | false => rw [if_neg Bool.false_ne_true]; exact q1.done rs1 r1
  · exact q1.elim
theorem se_or (ha : SE X W a fa) (hb : SE X W (.BoolOp .Or (b :: rest) pos) fb) : SE X W (.BoolOp .Or (a :: b :: rest) pos) (eOr fa fb) := PEweak (pe_orT ha hb) fun σ H Q q => by
  obtain ⟨ρ, δ, s, sl, rs, q⟩ := q
  refine bindT sl rs q fun d s1 v H1 ρ1 sl1 rs1 l1 t1 r1 q1 => ?_
  unfold tru at q1
  split at q1
  · rename_i k e
    refine ⟨k, tru_of rs1 r1 e, ?_⟩
    cases k with
    | false => rw [if_neg Bool.false_ne_true]; exact ⟨ρ1, δ, s1, sl1, rs1, q1⟩
    | true => rw [if_pos rfl]; exact q1.done rs1 r1
  · exact q1.elim
theorem se_not (ha : SE X W a fa) : SE X W (.UnaryOp .Not a pos) (eNot fa) := PEweak (pe_notT ha) fun σ H Q q => by
  obtain ⟨ρ, δ, s, sl, rs, q⟩ := q
  refine bindT sl rs q fun d s1 v H1 ρ1 sl1 rs1 l1 t1 r1 q1 => ?_
  unfold tru at q1
  split at q1
  · rename_i k e
    exact ⟨k, tru_of rs1 r1 e, q1.done rs1 RD.bl⟩
  · exact q1.elim
end
end DL

/-! The data layer, third part: operators by values. -/
namespace DL
open PySem PySem.Spec PyProof.Rows L2
section
variable {X : Cx} {W : Wx}
theorem TupX.tup {K : PySem.W.Frag} {H : Hp} {p : Addr} {o : HO} (h : H p = none) : TupX K H (upd H p o) := TupX.of_same (same_new h)

def opAdd : D → D → Sto → Out D
  | .int a, .int b, s => .ok (.int (a + b)) s
  | .tup a, .tup b, s => mkTup (a ++ b) s
  | .str a, .str b, s => if a.length + b.length < lim then .ok (.str (a ++ b)) s else .bad
  | .obj n, .obj m, s => match nget s.m n, nget s.m m with
    | some (.lst a), some (.lst b) => mkLst (a ++ b) s
    | _, _ => .bad
  | _, _, _ => .bad
theorem ops_add : OpS X W (binaryOp .Add) opAdd := by
  intro pins s σ H x y v u Q I rx ry h
  obtain ⟨σ', ρ, st, dx, dy, rs, r1, r2, h⟩ := h
  cases dx with
  | int a =>
    cases dy with
    | int b =>
      cases RD.int_of r1; cases RD.int_of r2
      exact op_add pins s σ H _ _ v u Q I rx ry ⟨a, b, rfl, rfl, okG.done (v := V.int (a + b)) h rs RD.int⟩
    | _ => exact h.elim
  | str a =>
    cases dy with
    | str b =>
      cases RD.str_of r1; cases RD.str_of r2
      have h : okG X.K W (rrD X.K) ρ H σ' (if a.length + b.length < lim then .ok (.str (a ++ b)) st else .bad) Q := h
      by_cases z : a.length + b.length < lim
      · rw [if_pos z] at h
        exact op_add_str pins s σ H _ _ v u Q I rx ry ⟨a, b, rfl, rfl, Nat.le_of_lt (Nat.lt_trans z lim_le), h.done rs RD.str⟩
      · rw [if_neg z] at h
        exact h.elim
    | _ => exact h.elim
  | tup a =>
    cases dy with
    | tup b =>
      obtain ⟨p, vs, rfl, q1, z1⟩ := RD.tup_of r1
      obtain ⟨p2, ws, rfl, q2, z2⟩ := RD.tup_of r2
      have h : okG X.K W (rrD X.K) ρ H σ' (mkTup (a ++ b) st) Q := h
      obtain ⟨l, hq⟩ := h.tup rs (z1.app z2)
      rw [List.length_append] at l
      have le := Nat.le_of_lt (Nat.lt_trans l lim_le)
      have hz : ∀ p, RD X.K H ρ (.tup (a ++ b)) (.ref p) → Q (.ref p) H := fun p r => by
        unfold mkTup at h
        split at h
        · exact h.done rs r
        · exact h.elim
      refine op_catA pins s σ H _ _ v u Q I rx ry ⟨p, p2, vs, ws, rfl, rfl, q1, q2, le, fun e => ?_, fun _ e => ?_, fun _ _ => hq⟩
      · subst e
        have : a = [] := by have := z1.length; cases a with | nil => rfl | cons _ _ => cases this
        subst this
        exact hz p2 (RD.tupI q2 z2)
      · subst e
        have : b = [] := by have := z2.length; cases b with | nil => rfl | cons _ _ => cases this
        subst this
        exact hz p (by rw [List.append_nil]; exact RD.tupI q1 z1)
    | _ => exact h.elim
  | obj n =>
    cases dy with
    | obj m =>
      obtain ⟨p, rfl, q1⟩ := RD.obj_of r1
      obtain ⟨p2, rfl, q2⟩ := RD.obj_of r2
      have h : okG X.K W (rrD X.K) ρ H σ' (match nget st.m n, nget st.m m with
        | some (.lst a), some (.lst b) => mkLst (a ++ b) st
        | _, _ => .bad) Q := h
      split at h
      · rename_i a b e1 e2
        obtain ⟨vs, h1, z1⟩ := rs.ob n _ p e1 q1
        obtain ⟨ws, h2, z2⟩ := rs.ob m _ p2 e2 q2
        obtain ⟨l, hq⟩ := h.lst rs (z1.app z2)
        rw [List.length_append] at l
        exact op_cat pins s σ H _ _ v u Q I rx ry ⟨p, p2, vs, ws, rfl, rfl, h1, h2, Nat.le_of_lt (Nat.lt_trans l lim_le), hq⟩
      · exact h.elim
    | _ => exact h.elim
  | _ => exact h.elim
/-- two ints -/
def opI (c : Int → Int → Prop) [∀ a b, Decidable (c a b)] (g : Int → Int → D) : D → D → Sto → Out D
  | .int a, .int b, s => if c a b then .ok (g a b) s else .bad
  | _, _, _ => .bad
theorem ops_int {f : Value → Value → Sem Value} {c c' : Int → Int → Prop} [∀ a b, Decidable (c a b)] {g : Int → Int → V} {g' : Int → Int → D} (h : OpR X f (rI c' g)) (hc : ∀ a b, c a b → c' a b) (r : ∀ K H ρ a b, RD K H ρ (g' a b) (g a b)) : OpS X W f (opI c g') := by
  intro pins s σ H x y v u Q I rx ry q
  obtain ⟨σ', ρ, st, dx, dy, rs, r1, r2, q⟩ := q
  cases dx with
  | int a =>
    cases dy with
    | int b =>
      cases RD.int_of r1; cases RD.int_of r2
      have q : okG X.K W (rrD X.K) ρ H σ' (if c a b then .ok (g' a b) st else .bad) Q := q
      by_cases z : c a b
      · rw [if_pos z] at q
        exact h pins s σ H _ _ v u Q I rx ry ⟨a, b, rfl, rfl, hc _ _ z, q.done rs (r _ _ _ _ _)⟩
      · rw [if_neg z] at q
        exact q.elim
    | _ => exact q.elim
  | _ => exact q.elim
def opN (g : Int → Int → D) : D → D → Sto → Out D
  | .int a, .int b, s => .ok (g a b) s
  | _, _, _ => .bad
theorem ops_nt {f : Value → Value → Sem Value} {g : Int → Int → V} {g' : Int → Int → D} (h : OpR X f (rI0 g)) (r : ∀ K H ρ a b, RD K H ρ (g' a b) (g a b)) : OpS X W f (opN g') := by
  intro pins s σ H x y v u Q I rx ry q
  obtain ⟨σ', ρ, st, dx, dy, rs, r1, r2, q⟩ := q
  cases dx with
  | int a =>
    cases dy with
    | int b =>
      cases RD.int_of r1; cases RD.int_of r2
      have q : okG X.K W (rrD X.K) ρ H σ' (.ok (g' a b) st) Q := q
      exact h pins s σ H _ _ v u Q I rx ry ⟨a, b, rfl, rfl, q.done rs (r _ _ _ _ _)⟩
    | _ => exact q.elim
  | _ => exact q.elim
@[simp] theorem opI_int {c : Int → Int → Prop} [∀ a b, Decidable (c a b)] {g : Int → Int → D} {a b : Int} {s : Sto} : opI c g (.int a) (.int b) s = if c a b then .ok (g a b) s else .bad := (rfl)
@[simp] theorem opN_int {g : Int → Int → D} {a b : Int} {s : Sto} : opN g (.int a) (.int b) s = .ok (g a b) s := (rfl)
def opSub := opN fun a b => .int (a - b)
def opAnd := opN fun a b => .int (Builtin.bitAnd a b)
def opOr := opN fun a b => .int (Builtin.bitOr a b)
def opXor := opN fun a b => .int (Builtin.bitXor a b)
def opFdiv := opI (fun a b => 0 < b ∧ b < 1073741824) fun a b => .int (a / b)
def opMod := opI (fun a b => 0 < b) fun a b => .int (a % b)
def opPow := opI (fun a b => 0 ≤ b ∧ b ≤ 1000000 ∧ a.natAbs < 2 ^ 64) fun a b => .int (a ^ b.toNat)
def opShl := opI (fun a b => 0 ≤ b ∧ b ≤ 1000000 ∧ a.natAbs < 2 ^ 64) fun a b => .int (a * 2 ^ b.toNat)
def opShr := opI (fun a b => 0 ≤ b) fun a b => .int (a / 2 ^ b.toNat)
def opLt := opN fun a b => .bl (decide (a < b))
def opLe := opN fun a b => .bl (decide (a ≤ b))
def opGt := opN fun a b => .bl (decide (b < a))
def opGe := opN fun a b => .bl (decide (b ≤ a))
theorem ops_sub : OpS X W (binaryOp .Sub) opSub := ops_nt op_sub fun _ _ _ _ _ => RD.int
theorem ops_and : OpS X W (binaryOp .BitAnd) opAnd := ops_nt op_and fun _ _ _ _ _ => RD.int
theorem ops_or : OpS X W (binaryOp .BitOr) opOr := ops_nt op_or fun _ _ _ _ _ => RD.int
theorem ops_xor : OpS X W (binaryOp .BitXor) opXor := ops_nt op_xor fun _ _ _ _ _ => RD.int
theorem ops_fdiv : OpS X W (binaryOp .FloorDiv) opFdiv := ops_int op_fdiv (fun _ _ h => h) fun _ _ _ _ _ => RD.int
theorem ops_mod : OpS X W (binaryOp .Mod) opMod := ops_int op_mod (fun _ _ h => h) fun _ _ _ _ _ => RD.int
theorem ops_pow : OpS X W (binaryOp .Pow) opPow := ops_int op_pow (fun _ _ h => h) fun _ _ _ _ _ => RD.int
theorem ops_shl : OpS X W (binaryOp .LShift) opShl := ops_int op_shl (fun _ _ h => h) fun _ _ _ _ _ => RD.int
theorem ops_shr : OpS X W (binaryOp .RShift) opShr := ops_int op_shr (fun _ _ h => h) fun _ _ _ _ _ => RD.int
theorem ops_lt : OpS X W (compareOp .Lt) opLt := ops_nt op_lt fun _ _ _ _ _ => RD.bl
theorem ops_le : OpS X W (compareOp .LtE) opLe := ops_nt op_le fun _ _ _ _ _ => RD.bl
theorem ops_gt : OpS X W (compareOp .Gt) opGt := ops_nt op_gt fun _ _ _ _ _ => RD.bl
theorem ops_ge : OpS X W (compareOp .GtE) opGe := ops_nt op_ge fun _ _ _ _ _ => RD.bl
/-- in place, on ints -/
theorem iops_add : OpS X W (inplaceOp .Add) (opN fun a b => .int (a + b)) := ops_nt iop_add fun _ _ _ _ _ => RD.int
theorem iops_sub : OpS X W (inplaceOp .Sub) opSub := ops_nt iop_sub fun _ _ _ _ _ => RD.int
def opIadd := opN fun a b => .int (a + b)

/-- * -/
def opMul : D → D → Sto → Out D
  | .int a, .int b, s => if (-(2 ^ 64) < a ∧ a < 2 ^ 64) ∨ (-(2 ^ 64) < b ∧ b < 2 ^ 64) then .ok (.int (a * b)) s else .bad
  | .obj n, .int k, s => match nget s.m n with
    | some (.lst l) => if k < 2 ^ 63 ∧ -(2 ^ 63) ≤ k then mkLst (List.replicate k.toNat l).flatten s else .bad
    | _ => .bad
  | _, _, _ => .bad
theorem RDs.rep {K : PySem.W.Frag} {H : Hp} {ρ : Loc} {ds : List D} {vs : List V} (h : RDs K H ρ ds vs) : ∀ k : Nat, RDs K H ρ (List.replicate k ds).flatten (List.replicate k vs).flatten
  | 0 => by simp [RDs.nil]
  | k + 1 => by
    simp only [List.replicate_succ, List.flatten_cons]
    exact h.app (RDs.rep h k)
theorem flat_len {α : Type} (l : List α) (k : Nat) : (List.replicate k l).flatten.length = l.length * k := by
  induction k with
  | zero => simp
  | succ k ih => rw [List.replicate_succ, List.flatten_cons, List.length_append, ih, Nat.mul_succ, Nat.add_comm]
theorem ops_mul : OpS X W (binaryOp .Mult) opMul := by
  intro pins s σ H x y v u Q I rx ry h
  obtain ⟨σ', ρ, st, dx, dy, rs, r1, r2, h⟩ := h
  cases dx with
  | int a =>
    cases dy with
    | int b =>
      cases RD.int_of r1; cases RD.int_of r2
      have h : okG X.K W (rrD X.K) ρ H σ' (if (-(2 ^ 64) < a ∧ a < 2 ^ 64) ∨ (-(2 ^ 64) < b ∧ b < 2 ^ 64) then .ok (.int (a * b)) st else .bad) Q := h
      by_cases z : (-(2 ^ 64) < a ∧ a < 2 ^ 64) ∨ (-(2 ^ 64) < b ∧ b < 2 ^ 64)
      · rw [if_pos z] at h
        exact op_mul pins s σ H _ _ v u Q I rx ry ⟨a, b, rfl, rfl, z, h.done rs RD.int⟩
      · rw [if_neg z] at h
        exact h.elim
    | _ => exact h.elim
  | obj n =>
    cases dy with
    | int k =>
      obtain ⟨p, rfl, q1⟩ := RD.obj_of r1
      cases RD.int_of r2
      have h : okG X.K W (rrD X.K) ρ H σ' (match nget st.m n with
        | some (.lst l) => if k < 2 ^ 63 ∧ -(2 ^ 63) ≤ k then mkLst (List.replicate k.toNat l).flatten st else .bad
        | _ => .bad) Q := h
      split at h
      · rename_i l e1
        obtain ⟨vs, h1, z1⟩ := rs.ob n _ p e1 q1
        by_cases z : k < 2 ^ 63 ∧ -(2 ^ 63) ≤ k
        · rw [if_pos z] at h
          obtain ⟨l2, hq⟩ := h.lst rs (z1.rep k.toNat)
          rw [flat_len] at l2
          exact op_rep pins s σ H _ _ v u Q I rx ry ⟨p, k, vs, rfl, rfl, h1, z.2, z.1, Nat.le_of_lt (Nat.lt_trans l2 lim_le), hq⟩
        · rw [if_neg z] at h
          exact h.elim
      · exact h.elim
    | _ => exact h.elim
  | _ => exact h.elim

/-! ### == of data -/
mutual
/-- plain data that may be compared, n deep -/
def pd : Nat → D → Bool
  | _, .non => true
  | _, .bl _ => true
  | _, .int _ => true
  | _, .str x => PyData.strOk x
  | n + 1, .tup l => pds n l
  | _, _ => false
def pds : Nat → List D → Bool
  | _, [] => true
  | n, d :: ds => pd n d && pds n ds
end
mutual
def deq : D → D → Bool
  | .non, .non => true
  | .bl a, .bl b => a == b
  | .bl a, .int j => (if a then 1 else 0) == j
  | .int i, .bl b => i == (if b then 1 else 0)
  | .int i, .int j => i == j
  | .str x, .str y => x == y
  | .tup l, .tup r => deqs l r
  | _, _ => false
def deqs : List D → List D → Bool
  | [], [] => true
  | d :: ds, e :: es => deq d e && deqs ds es
  | _, _ => false
end
mutual
def pyOf : D → PyData
  | .non => .none
  | .bl b => .bool b
  | .int i => .int i
  | .str x => .str x
  | .tup l => .tuple (pyOfs l)
  | _ => .none
def pyOfs : List D → List PyData
  | [] => []
  | d :: ds => pyOf d :: pyOfs ds
end
mutual
theorem eqv_pyOf : ∀ (n m : Nat) (d e : D), pd n d = true → pd m e = true → PyData.eqv (pyOf d) (pyOf e) = deq d e
  | n, m, .non, e, _, h => by cases e <;> first | rfl | (simp [pd] at h)
  | n, m, .bl _, e, _, h => by cases e <;> first | rfl | (simp [pd] at h)
  | n, m, .int _, e, _, h => by cases e <;> first | rfl | (simp [pd] at h)
  | n, m, .str _, e, _, h => by cases e <;> first | rfl | (simp [pd] at h)
  | 0, m, .tup _, e, h, _ => by simp [pd] at h
  | n + 1, m, .tup l, e, h1, h => by
    cases e with
    | tup r =>
      cases m with
      | zero => simp [pd] at h
      | succ m =>
        have h1 : pds n l = true := h1
        have h2 : pds m r = true := h
        show PyData.eqvAll (pyOfs l) (pyOfs r) = deqs l r
        exact eqv_pyOfs n m l r h1 h2
    | _ => first | rfl | (simp [pd] at h)
  | n, m, .obj _, e, h, _ => by simp [pd] at h
  | n, m, .rng _, e, h, _ => by simp [pd] at h
  | n, m, .adr _, e, h, _ => by simp [pd] at h
  | n, m, .typ _, e, h, _ => by simp [pd] at h
  | n, m, .kls _, e, h, _ => by simp [pd] at h
theorem eqv_pyOfs : ∀ (n m : Nat) (d e : List D), pds n d = true → pds m e = true → PyData.eqvAll (pyOfs d) (pyOfs e) = deqs d e
  | _, _, [], [], _, _ => rfl
  | _, _, [], _ :: _, _, _ => rfl
  | _, _, _ :: _, [], _, _ => rfl
  | n, m, d :: ds, e :: es, h1, h2 => by
    have h1 : (pd n d && pds n ds) = true := h1
    have h2 : (pd m e && pds m es) = true := h2
    rw [Bool.and_eq_true] at h1 h2
    show (PyData.eqv (pyOf d) (pyOf e) && PyData.eqvAll (pyOfs ds) (pyOfs es)) = (deq d e && deqs ds es)
    rw [eqv_pyOf n m d e h1.1 h2.1, eqv_pyOfs n m ds es h1.2 h2.2]
end
mutual
theorem canLay_pyOf : ∀ (n : Nat) (d : D), pd n d = true → (pyOf d).canLay0 = true ∧ (pyOf d).depth ≤ n
  | n, .non, _ => ⟨rfl, Nat.zero_le _⟩
  | n, .bl _, _ => ⟨rfl, Nat.zero_le _⟩
  | n, .int _, _ => ⟨rfl, Nat.zero_le _⟩
  | n, .str x, h => ⟨by have h : PyData.strOk x = true := h; exact h, Nat.zero_le _⟩
  | 0, .tup _, h => by simp [pd] at h
  | n + 1, .tup l, h => by
    have h : pds n l = true := h
    obtain ⟨h1, h2⟩ := canLay_pyOfs n l h
    refine ⟨h1, ?_⟩
    show PyData.depthAll (pyOfs l) + 1 ≤ n + 1
    omega
  | n, .obj _, h => by simp [pd] at h
  | n, .rng _, h => by simp [pd] at h
  | n, .adr _, h => by simp [pd] at h
  | n, .typ _, h => by simp [pd] at h
  | n, .kls _, h => by simp [pd] at h
theorem canLay_pyOfs : ∀ (n : Nat) (d : List D), pds n d = true → PyData.canLayAll0 (pyOfs d) = true ∧ PyData.depthAll (pyOfs d) ≤ n
  | _, [], _ => ⟨rfl, Nat.zero_le _⟩
  | n, d :: ds, h => by
    have h : (pd n d && pds n ds) = true := h
    rw [Bool.and_eq_true] at h
    obtain ⟨h1, h2⟩ := canLay_pyOf n d h.1
    obtain ⟨h3, h4⟩ := canLay_pyOfs n ds h.2
    refine ⟨?_, ?_⟩
    · show ((pyOf d).canLay0 && PyData.canLayAll0 (pyOfs ds)) = true
      rw [h1, h3]; rfl
    · show max (pyOf d).depth (PyData.depthAll (pyOfs ds)) ≤ n
      exact Nat.max_le.mpr ⟨h2, h4⟩
end
theorem shaped_of (n : Nat) (d : D) (h : pd n d = true) (hn : n ≤ 64) : SeqAt.shaped (pyOf d) = true := by
  obtain ⟨h1, h2⟩ := canLay_pyOf n d h
  unfold SeqAt.shaped
  rw [h1, decide_eq_true (Nat.le_trans h2 hn)]
  rfl
theorem shaped_ofs (n : Nat) (d : List D) (h : pds n d = true) (hn : n ≤ 60) : SeqAt.shaped (.list (pyOfs d)) = true := by
  obtain ⟨h1, h2⟩ := canLay_pyOfs n d h
  unfold SeqAt.shaped
  have h3 : (PyData.list (pyOfs d)).canLay0 = true := h1
  have h4 : (PyData.list (pyOfs d)).depth ≤ 64 := by show PyData.depthAll (pyOfs d) + 1 ≤ 64; omega
  rw [h3, decide_eq_true h4]
  rfl
mutual
theorem dp_of {K : PySem.W.Frag} {H : Hp} {ρ : Loc} : ∀ (n : Nat) (d : D) (v : V), pd n d = true → RD K H ρ d v → Dp K H v (pyOf d)
  | n, .non, _, _, r => by cases RD.non_of r; exact .non
  | n, .bl _, _, _, r => by cases RD.bl_of r; exact .bl _
  | n, .int _, _, _, r => by cases RD.int_of r; exact .int _
  | n, .str _, _, _, r => by cases RD.str_of r; exact .str _
  | 0, .tup _, _, h, _ => by simp [pd] at h
  | n + 1, .tup l, _, h, r => by
    have h : pds n l = true := h
    obtain ⟨a, vs, rfl, q, z⟩ := RD.tup_of r
    exact .tup q (dps_of n l vs h z)
  | n, .obj _, _, h, _ => by simp [pd] at h
  | n, .rng _, _, h, _ => by simp [pd] at h
  | n, .adr _, _, h, _ => by simp [pd] at h
  | n, .typ _, _, h, _ => by simp [pd] at h
  | n, .kls _, _, h, _ => by simp [pd] at h
theorem dps_of {K : PySem.W.Frag} {H : Hp} {ρ : Loc} : ∀ (n : Nat) (d : List D) (v : List V), pds n d = true → RDs K H ρ d v → DpAll K H v (pyOfs d)
  | _, [], _, _, r => by unfold RDs at r; subst r; exact .nil
  | n, d :: ds, _, h, r => by
    have h : (pd n d && pds n ds) = true := h
    rw [Bool.and_eq_true] at h
    unfold RDs at r
    obtain ⟨v, vs, rfl, r1, r2⟩ := r
    exact .cons (dp_of n d v h.1 r1) (dps_of n ds vs h.2 r2)
end
def eqO (ne : Bool) (d e : D) (s : Sto) : Out D := if (pd 50 d && pd 50 e) = true then .ok (.bl (ne ^^ deq d e)) s else .bad
/-- == (ne false) and != (ne true) of plain data, and of lists of plain data -/
def opEqG (ne : Bool) : D → D → Sto → Out D
  | .obj n, .obj m, s => match nget s.m n, nget s.m m with
    | some (.lst a), some (.lst b) => if (pds 50 a && pds 50 b) = true then .ok (.bl (ne ^^ deqs a b)) s else .bad
    | _, _ => .bad
  | d, e, s => eqO ne d e s
def opEq := opEqG false
def opNe := opEqG true
theorem opEqG_rel {ne : Bool} {dx dy : D} {st : Sto} {ρ : Loc} {H : Hp} {σ' : L2.St} {x y : V} {Q : VK} {K : PySem.W.Frag} (rs : RS K H ρ st) (r1 : RD K H ρ dx x) (r2 : RD K H ρ dy y) (h : okG K W (rrD K) ρ H σ' (opEqG ne dx dy st) Q) :
    ∃ d e, Dp K H x d ∧ Dp K H y e ∧ SeqAt.shaped d = true ∧ SeqAt.shaped e = true ∧ Q (.bl (ne ^^ PyData.eqv d e)) H := by
  have plain : ∀ {d e : D}, RD K H ρ d x → RD K H ρ e y → okG K W (rrD K) ρ H σ' (eqO ne d e st) Q → ∃ d e, Dp K H x d ∧ Dp K H y e ∧ SeqAt.shaped d = true ∧ SeqAt.shaped e = true ∧ Q (.bl (ne ^^ PyData.eqv d e)) H := by
    intro d e r1 r2 h
    unfold eqO at h
    split at h
    · rename_i z
      rw [Bool.and_eq_true] at z
      refine ⟨_, _, dp_of 50 d x z.1 r1, dp_of 50 e y z.2 r2, shaped_of 50 d z.1 (by decide), shaped_of 50 e z.2 (by decide), ?_⟩
      rw [eqv_pyOf 50 50 d e z.1 z.2]
      exact h.done rs RD.bl
    · exact h.elim
  cases dx with
  | obj n =>
    cases dy with
    | obj m =>
      obtain ⟨p, rfl, q1⟩ := RD.obj_of r1
      obtain ⟨p2, rfl, q2⟩ := RD.obj_of r2
      have h : okG K W (rrD K) ρ H σ' (match nget st.m n, nget st.m m with
        | some (.lst a), some (.lst b) => if (pds 50 a && pds 50 b) = true then .ok (.bl (ne ^^ deqs a b)) st else .bad
        | _, _ => .bad) Q := h
      split at h
      · rename_i a b e1 e2
        obtain ⟨vs, h1, z1⟩ := rs.ob n _ p e1 q1
        obtain ⟨ws, h2, z2⟩ := rs.ob m _ p2 e2 q2
        by_cases z : (pds 50 a && pds 50 b) = true
        · rw [if_pos z] at h
          rw [Bool.and_eq_true] at z
          refine ⟨_, _, .lst (.of h1) (dps_of 50 a vs z.1 z1), .lst (.of h2) (dps_of 50 b ws z.2 z2), shaped_ofs 50 a z.1 (by decide), shaped_ofs 50 b z.2 (by decide), ?_⟩
          rw [show PyData.eqv (.list (pyOfs a)) (.list (pyOfs b)) = deqs a b from eqv_pyOfs 50 50 a b z.1 z.2]
          exact h.done rs RD.bl
        · rw [if_neg z] at h
          exact h.elim
      · exact h.elim
    | _ => exact plain r1 r2 h
  | _ => exact plain r1 r2 h
theorem ops_eq (hu : X.A.units + 64 < cLine) : OpS X W (compareOp .Eq) opEq := by
  intro pins s σ H x y v u Q I rx ry h
  obtain ⟨σ', ρ, st, dx, dy, rs, r1, r2, h⟩ := h
  obtain ⟨d, e, h1, h2, h3, h4, q⟩ := opEqG_rel rs r1 r2 h
  rw [Bool.false_xor] at q
  exact op_eqD hu pins s σ H x y v u Q I rx ry ⟨d, e, h1, h2, h3, h4, q⟩
theorem ops_ne (hu : X.A.units + 64 < cLine) : OpS X W (compareOp .NotEq) opNe := by
  intro pins s σ H x y v u Q I rx ry h
  obtain ⟨σ', ρ, st, dx, dy, rs, r1, r2, h⟩ := h
  obtain ⟨d, e, h1, h2, h3, h4, q⟩ := opEqG_rel rs r1 r2 h
  rw [Bool.true_xor] at q
  exact op_neD hu pins s σ H x y v u Q I rx ry ⟨d, e, h1, h2, h3, h4, q⟩
/-- is None, is not None -/
def isNon : D → Bool
  | .non => true
  | _ => false
def opIsG (no : Bool) : D → D → Sto → Out D
  | d, .non, s => .ok (.bl (no ^^ isNon d)) s
  | _, _, _ => .bad
def opIs := opIsG false
def opIsNot := opIsG true
theorem isn_of {K : PySem.W.Frag} {H : Hp} {ρ : Loc} {d : D} {x : V} (r : RD K H ρ d x) : decide (x = .non) = isNon d := by
  cases d with
  | non => cases RD.non_of r; rfl
  | bl b => cases RD.bl_of r; rfl
  | int b => cases RD.int_of r; rfl
  | str b => cases RD.str_of r; rfl
  | tup l => obtain ⟨a, vs, rfl, _⟩ := RD.tup_of r; rfl
  | obj n => obtain ⟨a, rfl, _⟩ := RD.obj_of r; rfl
  | rng _ => unfold RD at r; obtain ⟨a, b, rfl, _⟩ := r; rfl
  | adr _ => unfold RD at r; subst r; rfl
  | typ _ => unfold RD at r; subst r; rfl
  | kls _ => unfold RD at r; obtain ⟨a, rfl, _⟩ := r; rfl
theorem ops_is : OpS X W (compareOp .Is) opIs := by
  intro pins s σ H x y v u Q I rx ry h
  obtain ⟨σ', ρ, st, dx, dy, rs, r1, r2, h⟩ := h
  cases dy with
  | non =>
    cases RD.non_of r2
    have h : okG X.K W (rrD X.K) ρ H σ' (.ok (.bl (false ^^ isNon dx)) st) Q := h
    refine op_isN pins s σ H _ _ v u Q I rx ry ⟨rfl, ?_⟩
    rw [isn_of r1]
    rw [Bool.false_xor] at h
    exact h.done rs RD.bl
  | _ => exact (show False from by cases dx <;> exact h).elim
theorem ops_isnot : OpS X W (compareOp .IsNot) opIsNot := by
  intro pins s σ H x y v u Q I rx ry h
  obtain ⟨σ', ρ, st, dx, dy, rs, r1, r2, h⟩ := h
  cases dy with
  | non =>
    cases RD.non_of r2
    have h : okG X.K W (rrD X.K) ρ H σ' (.ok (.bl (true ^^ isNon dx)) st) Q := h
    refine op_notN pins s σ H _ _ v u Q I rx ry ⟨rfl, ?_⟩
    rw [isn_of r1]
    rw [Bool.true_xor] at h
    exact h.done rs RD.bl
  | _ => exact (show False from by cases dx <;> exact h).elim
/-- in, not in: a flat thing, a tuple or list of flat things -/
def flD : D → Bool
  | .non => true
  | .bl _ => true
  | .int _ => true
  | .str _ => true
  | _ => false
def inO (no : Bool) (d : D) (l : List D) (s : Sto) : Out D := if (flD d && l.all flD) = true then .ok (.bl (no ^^ l.any fun y => deq y d)) s else .bad
def opInG (no : Bool) : D → D → Sto → Out D
  | d, .tup l, s => inO no d l s
  | d, .obj n, s => match nget s.m n with
    | some (.lst l) => inO no d l s
    | _ => .bad
  | _, _, _ => .bad
def opIn := opInG false
def opNotIn := opInG true
theorem flat_of {K : PySem.W.Frag} {H : Hp} {ρ : Loc} {d : D} {x : V} (r : RD K H ρ d x) (h : flD d = true) : flatV x = true := by
  cases d with
  | non => cases RD.non_of r; rfl
  | bl b => cases RD.bl_of r; rfl
  | int b => cases RD.int_of r; rfl
  | str b => cases RD.str_of r; rfl
  | _ => cases h
theorem eqV_of {K : PySem.W.Frag} {H : Hp} {ρ : Loc} {d e : D} {x y : V} (r : RD K H ρ d x) (r' : RD K H ρ e y) (h : flD d = true) (h' : flD e = true) : eqV x y = deq d e := by
  cases d with
  | non => cases RD.non_of r; cases e with
    | non => cases RD.non_of r'; rfl
    | bl b => cases RD.bl_of r'; rfl
    | int b => cases RD.int_of r'; rfl
    | str b => cases RD.str_of r'; rfl
    | _ => cases h'
  | bl b => cases RD.bl_of r; cases e with
    | non => cases RD.non_of r'; rfl
    | bl b => cases RD.bl_of r'; rfl
    | int b => cases RD.int_of r'; rfl
    | str b => cases RD.str_of r'; rfl
    | _ => cases h'
  | int b => cases RD.int_of r; cases e with
    | non => cases RD.non_of r'; rfl
    | bl b => cases RD.bl_of r'; rfl
    | int b => cases RD.int_of r'; rfl
    | str b => cases RD.str_of r'; rfl
    | _ => cases h'
  | str b => cases RD.str_of r; cases e with
    | non => cases RD.non_of r'; rfl
    | bl b => cases RD.bl_of r'; rfl
    | int b => cases RD.int_of r'; rfl
    | str b => cases RD.str_of r'; rfl
    | _ => cases h'
  | _ => cases h
theorem inV_of {K : PySem.W.Frag} {H : Hp} {ρ : Loc} {d : D} {x : V} (r : RD K H ρ d x) (h : flD d = true) : ∀ {l : List D} {vs : List V}, RDs K H ρ l vs → l.all flD = true → vs.all flatV = true ∧ inV x vs = l.any fun y => deq y d
  | [], _, z, _ => by unfold RDs at z; subst z; exact ⟨rfl, rfl⟩
  | e :: l, _, z, ha => by
    unfold RDs at z
    obtain ⟨v, vs, rfl, z1, z2⟩ := z
    rw [List.all_cons, Bool.and_eq_true] at ha
    obtain ⟨q1, q2⟩ := inV_of r h z2 ha.2
    refine ⟨by rw [List.all_cons, flat_of z1 ha.1, q1]; rfl, ?_⟩
    show (eqV v x || inV x vs) = _
    rw [List.any_cons, q2, eqV_of z1 r ha.1 h]
theorem opInG_rel {no : Bool} {dx dy : D} {st : Sto} {ρ : Loc} {H : Hp} {σ' : L2.St} {x y : V} {Q : VK} {K : PySem.W.Frag} (rs : RS K H ρ st) (r1 : RD K H ρ dx x) (r2 : RD K H ρ dy y) (h : okG K W (rrD K) ρ H σ' (opInG no dx dy st) Q) :
    ∃ p xs, y = .ref p ∧ (SqL K H p xs ∨ SqT K H p xs) ∧ flatV x = true ∧ xs.all flatV = true ∧ Q (.bl (if no then !inV x xs else inV x xs)) H := by
  have main : ∀ {l : List D} {vs : List V}, RDs K H ρ l vs → okG K W (rrD K) ρ H σ' (inO no dx l st) Q → flatV x = true ∧ vs.all flatV = true ∧ Q (.bl (if no then !inV x vs else inV x vs)) H := by
    intro l vs z h
    unfold inO at h
    split at h
    · rename_i e
      rw [Bool.and_eq_true] at e
      obtain ⟨q1, q2⟩ := inV_of r1 e.1 z e.2
      refine ⟨flat_of r1 e.1, q1, ?_⟩
      rw [q2]
      have h := h.done rs RD.bl
      cases no
      · simpa using h
      · simpa using h
    · exact h.elim
  cases dy with
  | tup l =>
    obtain ⟨p, vs, rfl, q, z⟩ := RD.tup_of r2
    exact ⟨p, vs, rfl, .inr q, main z (by cases dx <;> exact h)⟩
  | obj n =>
    obtain ⟨p, rfl, q⟩ := RD.obj_of r2
    have h : okG K W (rrD K) ρ H σ' (match nget st.m n with
      | some (.lst l) => inO no dx l st
      | _ => .bad) Q := by cases dx <;> exact h
    split at h
    · rename_i l e
      obtain ⟨vs, h1, z⟩ := rs.ob n _ p e q
      exact ⟨p, vs, rfl, .inl (.of h1), main z h⟩
    · exact h.elim
  | _ => exact (show False from by cases dx <;> exact h).elim
theorem ops_in : OpS X W (compareOp .In) opIn := by
  intro pins s σ H x y v u Q I rx ry h
  obtain ⟨σ', ρ, st, dx, dy, rs, r1, r2, h⟩ := h
  exact op_in_seq pins s σ H x y v u Q I rx ry (opInG_rel rs r1 r2 h)
theorem ops_notin : OpS X W (compareOp .NotIn) opNotIn := by
  intro pins s σ H x y v u Q I rx ry h
  obtain ⟨σ', ρ, st, dx, dy, rs, r1, r2, h⟩ := h
  exact op_notIn_seq pins s σ H x y v u Q I rx ry (opInG_rel rs r1 r2 h)
end
end DL

/-! The data layer, fourth part: subscripts, slices, built-in calls and methods. -/
namespace DL
open PySem PySem.Spec PyProof.Rows L2
section
variable {X : Cx} {W : Wx} {pos : Pos} {a b e : Expr} {es : List Expr} {fa fb : DEnv → Sto → Out D} {g : DEnv → Sto → Out (List D)}

/-! ### subscripts -/
def optO (o : Option D) (s : Sto) : Out D := match o with
  | some d => .ok d s
  | none => .bad
@[simp] theorem optO_some {d : D} {s : Sto} : optO (some d) s = .ok d s := (rfl)
def opIx : D → D → Sto → Out D
  | .tup l, .int i, s => optO (atI l i) s
  | .obj n, .int i, s => match nget s.m n with
    | some (.lst l) => optO (atI l i) s
    | some (.fro l) => optO (atI l i) s
    | _ => .bad
  | .rng k, .int i, s => match s.g with
    | some r => if k = true then optO ((atI r.cells i).map .int) s else if i = 0 then .ok (.rng true) s else if i = 1 then .ok (.int (r.pos : Nat)) s else if i = 2 then .ok (.int r.carry) s else if i = 3 then .ok (.int r.seed) s else .bad
    | none => .bad
  | _, _, _ => .bad
/-- the drawing list lies there -/
theorem RS.rng {K : PySem.W.Frag} {H : Hp} {ρ : Loc} {s : Sto} {r : Rng} {v : V} {k : Bool} (rs : RS K H ρ s) (e : s.g = some r) (h : RD K H ρ (.rng k) v) :
    ∃ a b, v = .ref (if k = true then b else a) ∧ ρ.g = some (a, b) ∧ H a = some (.lst [.ref b, .int (r.pos : Nat), .int r.carry, .int r.seed]) ∧ Rd H b (.lst (r.cells.map V.int)) ∧ a ∉ ρ.a ∧ b ∉ ρ.a ∧ a ≠ b := by
  unfold RD at h
  obtain ⟨a, b, e1, e2⟩ := h
  obtain ⟨a', b', h1, h2⟩ := rs.gn r e
  rw [e2] at h1
  cases h1
  exact ⟨a, b, e1, e2, h2⟩
theorem atI_map {α β : Type} (f : α → β) (xs : List α) (i : Int) : atI (xs.map f) i = (atI xs i).map f := by
  unfold atI
  rw [List.length_map]
  cases ixN xs.length i with
  | none => rfl
  | some j => simp
theorem RS.rng_ix {K : PySem.W.Frag} {H : Hp} {ρ : Loc} {σ' : L2.St} {s : Sto} {r : Rng} {v : V} {k : Bool} {i : Int} {Q : VK} (rs : RS K H ρ s) (e : s.g = some r) (h : RD K H ρ (.rng k) v)
    (q : okG K W (rrD K) ρ H σ' (if k = true then optO ((atI r.cells i).map .int) s else if i = 0 then .ok (.rng true) s else if i = 1 then .ok (.int (r.pos : Nat)) s else if i = 2 then .ok (.int r.carry) s else if i = 3 then .ok (.int r.seed) s else .bad) Q) :
    ∃ p xs z, v = .ref p ∧ SqL K H p xs ∧ atI xs i = some z ∧ Q z H := by
  obtain ⟨a, b, e1, e2, h1, h2, _⟩ := rs.rng e h
  subst e1
  cases k with
  | true =>
    rw [if_pos rfl] at q
    cases ea : atI r.cells i with
    | none => rw [ea] at q; exact q.elim
    | some c =>
      rw [ea] at q
      exact ⟨b, _, .int c, rfl, .inl h2, by rw [atI_map, ea]; rfl, okG.done (d := D.int c) q rs (by show RD _ _ _ _ _; unfold RD; rfl)⟩
  | false =>
    rw [if_neg Bool.false_ne_true] at q
    refine ⟨a, [.ref b, .int (r.pos : Nat), .int r.carry, .int r.seed], ?_⟩
    by_cases i0 : i = 0
    · rw [if_pos i0] at q
      subst i0
      exact ⟨.ref b, rfl, .of h1, rfl, q.done rs (by show RD _ _ _ _ _; unfold RD; exact ⟨a, b, rfl, e2⟩)⟩
    rw [if_neg i0] at q
    by_cases i1 : i = 1
    · rw [if_pos i1] at q
      subst i1
      exact ⟨.int (r.pos : Nat), rfl, .of h1, rfl, q.done rs (by show RD _ _ _ _ _; unfold RD; rfl)⟩
    rw [if_neg i1] at q
    by_cases i2 : i = 2
    · rw [if_pos i2] at q
      subst i2
      exact ⟨.int r.carry, rfl, .of h1, rfl, q.done rs (by show RD _ _ _ _ _; unfold RD; rfl)⟩
    rw [if_neg i2] at q
    by_cases i3 : i = 3
    · rw [if_pos i3] at q
      subst i3
      exact ⟨.int r.seed, rfl, .of h1, rfl, q.done rs (by show RD _ _ _ _ _; unfold RD; rfl)⟩
    rw [if_neg i3] at q
    exact q.elim
theorem atI_rel {K : PySem.W.Frag} {H : Hp} {ρ : Loc} {ds : List D} {vs : List V} {i : Int} {d : D} (r : RDs K H ρ ds vs) (h : atI ds i = some d) : ∃ v, atI vs i = some v ∧ RD K H ρ d v := by
  unfold atI at h ⊢
  rw [r.length]
  cases q : ixN ds.length i with
  | none => rw [q] at h; cases h
  | some j =>
    rw [q] at h
    exact r.get h
theorem optO_rel {K : PySem.W.Frag} {H : Hp} {ρ : Loc} {σ' : L2.St} {st : Sto} {ds : List D} {vs : List V} {i : Int} {Q : VK} (rs : RS K H ρ st) (r : RDs K H ρ ds vs) (h : okG K W (rrD K) ρ H σ' (optO (atI ds i) st) Q) : ∃ v, atI vs i = some v ∧ Q v H := by
  cases q : atI ds i with
  | none => rw [q] at h; exact h.elim
  | some d =>
    rw [q] at h
    obtain ⟨v, e, r1⟩ := atI_rel r q
    exact ⟨v, e, okG.done (d := d) h rs r1⟩
theorem ixs : IxR X (rOp X.K W opIx) := by
  intro value slice pins s σ H x y v u Q I rx ry h hs
  obtain ⟨σ', ρ, st, dx, dy, rs, r1, r2, h⟩ := h
  cases dx with
  | tup l =>
    cases dy with
    | int i =>
      obtain ⟨p, vs, rfl, q, z⟩ := RD.tup_of r1
      cases RD.int_of r2
      obtain ⟨w, e, hq⟩ := optO_rel rs z h
      exact ix_tup value slice pins s σ H _ _ v u Q I rx ry ⟨p, vs, i, w, rfl, rfl, q, e, hq⟩ hs
    | _ => exact h.elim
  | obj n =>
    cases dy with
    | int i =>
      obtain ⟨p, rfl, q⟩ := RD.obj_of r1
      cases RD.int_of r2
      have h : okG X.K W (rrD X.K) ρ H σ' (match nget st.m n with
        | some (.lst l) => optO (atI l i) st
        | some (.fro l) => optO (atI l i) st
        | _ => .bad) Q := h
      split at h
      · rename_i l e1
        obtain ⟨vs, h1, z⟩ := rs.ob n _ p e1 q
        obtain ⟨w, e, hq⟩ := optO_rel rs z h
        exact ix_list value slice pins s σ H _ _ v u Q I rx ry ⟨p, vs, i, w, rfl, rfl, .of h1, e, hq⟩ hs
      · rename_i l e1
        obtain ⟨vs, h1, z⟩ := rs.ob n _ p e1 q
        obtain ⟨w, e, hq⟩ := optO_rel rs z h
        exact ix_list value slice pins s σ H _ _ v u Q I rx ry ⟨p, vs, i, w, rfl, rfl, .inl h1, e, hq⟩ hs
      · exact h.elim
    | _ => exact h.elim
  | rng k =>
    cases dy with
    | int i =>
      cases RD.int_of r2
      have h : okG X.K W (rrD X.K) ρ H σ' (match st.g with
        | some r => if k = true then optO ((atI r.cells i).map .int) st else if i = 0 then .ok (.rng true) st else if i = 1 then .ok (.int (r.pos : Nat)) st else if i = 2 then .ok (.int r.carry) st else if i = 3 then .ok (.int r.seed) st else .bad
        | none => .bad) Q := h
      split at h
      · rename_i r er
        obtain ⟨p, xs, z, rfl, h1, h2, h3⟩ := rs.rng_ix er r1 h
        exact ix_list value slice pins s σ H _ _ v u Q I rx ry ⟨p, xs, i, z, rfl, rfl, h1, h2, h3⟩ hs
      · exact h.elim
    | _ => exact h.elim
  | _ => exact h.elim
theorem se_ix (ha : SE X W a fa) (hb : SE X W b fb) (hs : PlainIx b := by exact fun _ _ => rfl) : SE X W (.Subscript a b pos) (eBin opIx fa fb) := PEweak (pe_ix ixs ha hb hs) fun _ _ _ q => tOp_of q

/-! ### slices -/
def cutD (xs : List D) (lo hi : Option Int) : List D := (xs.drop (HT.sIx xs.length 0 lo)).take (HT.sIx xs.length xs.length hi - HT.sIx xs.length 0 lo)
def opSl : D → Option Int → Option Int → Sto → Out D
  | .tup l, lo, hi, s => .ok (.tup (cutD l lo hi)) s
  | .obj n, lo, hi, s => match nget s.m n with
    | some (.lst l) => mkObj (.lst (cutD l lo hi)) s
    | _ => .bad
  | _, _, _, _ => .bad
theorem cut_rel {K : PySem.W.Frag} {H : Hp} {ρ : Loc} {ds : List D} {vs : List V} (r : RDs K H ρ ds vs) (lo hi : Option Int) : RDs K H ρ (cutD ds lo hi) (cutV vs lo hi) := by
  unfold cutD cutV
  rw [r.length]
  exact (r.drop _).take _
def rSl (K : PySem.W.Frag) (W : Wx) : V → Option Int → Option Int → Hp → VK → Prop := fun x lo hi H Q => ∃ σ ρ s d, RS K H ρ s ∧ RD K H ρ d x ∧ okG K W (rrD K) ρ H σ (opSl d lo hi s) Q
theorem okG.obj' {K : PySem.W.Frag} {ρ : Loc} {H : Hp} {σ : L2.St} {s : Sto} {Q : VK} {ds : List D} {vs : List V} (h : okG K W (rrD K) ρ H σ (mkObj (.lst ds) s) Q) (rs : RS K H ρ s) (r : RDs K H ρ ds vs) : ∀ p, H p = none → Q (.ref p) (upd H p (.lst vs)) :=
  okG.obj h rs fun p hp => ⟨vs, upd_same, RDs.mono (ρ' := ⟨p :: ρ.a, ρ.g⟩) ⟨List.suffix_cons _ _, .inr rfl⟩ (TupX.of_same (same_new hp)) r⟩
theorem sls : SlR X (rSl X.K W) := by
  intro pins s σ H x v vl vu lo hi sl Q I rx hs pl pu h
  obtain ⟨σ', ρ, st, d, rs, r1, h⟩ := h
  cases d with
  | tup l =>
    obtain ⟨p, vs, rfl, q, z⟩ := RD.tup_of r1
    have h : okG X.K W (rrD X.K) ρ H σ' (.ok (.tup (cutD l lo hi)) st) Q := h
    have cr := cut_rel z lo hi
    refine sl_tupA pins s σ H _ v vl vu lo hi sl Q I rx hs pl pu ⟨p, vs, rfl, q, fun w => ?_, fun _ p2 hp => ?_⟩
    · refine h.done rs ?_
      have : cutD l lo hi = l := by
        unfold cutD
        rw [← z.length, w.1, w.2, List.drop_zero, Nat.sub_zero, z.length, List.take_length]
      rw [this]
      exact r1
    · have sm : Same H (upd H p2 (.tup (cutV vs lo hi))) := same_new hp
      exact h (.ref p2) _ ρ (Loc.le_refl _) (TupX.of_same sm) (rs.same sm) (RD.tupI (.of upd_same) (cr.mono (Loc.le_refl _) (TupX.of_same sm)))
  | obj n =>
    obtain ⟨p, rfl, q⟩ := RD.obj_of r1
    have h : okG X.K W (rrD X.K) ρ H σ' (match nget st.m n with
      | some (.lst l) => mkObj (.lst (cutD l lo hi)) st
      | _ => .bad) Q := h
    split at h
    · rename_i l e1
      obtain ⟨vs, h1, z⟩ := rs.ob n _ p e1 q
      exact sl_list pins s σ H _ v vl vu lo hi sl Q I rx hs pl pu ⟨p, vs, rfl, .of h1, okG.obj' h rs (cut_rel z lo hi)⟩
    · exact h.elim
  | _ => exact h.elim
/-- a slice's part -/
def oNone : DEnv → Sto → Out (Option Int) := fun _ s => .ok none s
def oSome (f : DEnv → Sto → Out D) : DEnv → Sto → Out (Option Int) := fun δ s => (f δ s).bind fun d s1 => match d with
  | .int i => .ok (some i) s1
  | _ => .bad
abbrev rrO : Hp → Loc → Option Int → Option Int → Prop := fun _ _ a b => b = a
abbrev SO (X : Cx) (W : Wx) (e : Option Expr) (f : DEnv → Sto → Out (Option Int)) : Prop := PO X e (tG X.K W rrO f)
theorem so_none : SO X W none oNone := ⟨fun pins s σ H Q I q => po_none.run pins s σ H Q I (by
  obtain ⟨ρ, δ, st, sl, rs, q⟩ := q
  exact okG.done (v := none) q rs rfl)⟩
theorem so_some (h : SE X W e fa) : SO X W (some e) (oSome fa) := ⟨fun pins s σ H Q I q => (po_some h).run pins s σ H Q I (by
  obtain ⟨ρ, δ, st, sl, rs, q⟩ := q
  refine bindT sl rs q fun d s1 v H1 ρ1 sl1 rs1 l1 t1 r1 q1 => ?_
  cases d with
  | int i => cases RD.int_of r1; exact ⟨i, rfl, q1.done rs1 rfl⟩
  | _ => exact q1.elim)⟩
def eSl (f : DEnv → Sto → Out D) (lo hi : DEnv → Sto → Out (Option Int)) : DEnv → Sto → Out D := fun δ s => (f δ s).bind fun d s1 => (lo δ s1).bind fun l s2 => (hi δ s2).bind fun h s3 => opSl d l h s3
theorem se_slice {lo hi : Option Expr} {fl fh : DEnv → Sto → Out (Option Int)} {p2 : Pos} (he : SE X W e fa) (hl : SO X W lo fl) (hh : SO X W hi fh) : SE X W (.Subscript e (.Slice lo hi none p2) pos) (eSl fa fl fh) := PEweak (pe_slice sls he hl hh) fun σ H Q q => by
  obtain ⟨ρ, δ, s, sl, rs, q⟩ := q
  refine bindT sl rs q fun d s1 v H1 ρ1 sl1 rs1 l1 t1 r1 q1 => ?_
  refine bindT sl1 rs1 q1 fun l s2 v2 H2 ρ2 sl2 rs2 l2 t2 r2 q2 => ?_
  refine bindT sl2 rs2 q2 fun h s3 v3 H3 ρ3 sl3 rs3 l3 t3 r3 q3 => ?_
  cases r2; cases r3
  exact ⟨σ, ρ3, s3, d, rs3, r1.mono (Loc.le_trans l2 l3) (t2.trans t3), q3⟩

/-! ### unary -/
def opNeg : D → Sto → Out D
  | .int i, s => .ok (.int (-i)) s
  | _, _ => .bad
def opInv : D → Sto → Out D
  | .int i, s => .ok (.int (Builtin.bitNot i)) s
  | _, _ => .bad
def eUn (op : D → Sto → Out D) (f : DEnv → Sto → Out D) : DEnv → Sto → Out D := fun δ s => (f δ s).bind op
theorem se_neg (ha : SE X W a fa) : SE X W (.UnaryOp .USub a pos) (eUn opNeg fa) := PEweak (pe_un un_neg ha) fun σ H Q q => by
  obtain ⟨ρ, δ, s, sl, rs, q⟩ := q
  refine bindT sl rs q fun d s1 v H1 ρ1 sl1 rs1 l1 t1 r1 q1 => ?_
  cases d with
  | int i => cases RD.int_of r1; exact ⟨i, rfl, okG.done (d := D.int (-i)) q1 rs1 RD.int⟩
  | _ => exact q1.elim
theorem se_inv (ha : SE X W a fa) : SE X W (.UnaryOp .Invert a pos) (eUn opInv fa) := PEweak (pe_un un_inv ha) fun σ H Q q => by
  obtain ⟨ρ, δ, s, sl, rs, q⟩ := q
  refine bindT sl rs q fun d s1 v H1 ρ1 sl1 rs1 l1 t1 r1 q1 => ?_
  cases d with
  | int i => cases RD.int_of r1; exact ⟨i, rfl, okG.done (d := D.int (Builtin.bitNot i)) q1 rs1 RD.int⟩
  | _ => exact q1.elim
/-- n.bit_length() -/
def opBits : D → Sto → Out D
  | .int i, s => .ok (.int (Builtin.Int.intBits i : Nat)) s
  | _, _ => .bad
theorem se_bits {apos : Pos} (ha : SE X W a fa) (hbase : attributeBase a "bit_length" X.env (eval a X.env) = eval a X.env := by rfl) (hline : (apos.endLine == pos.line) = true := by rfl) : SE X W (.Call (.Attribute a "bit_length" apos) [] [] pos) (eUn opBits fa) := PEweak (pe_bits ha hbase hline) fun σ H Q q => by
  obtain ⟨ρ, δ, s, sl, rs, q⟩ := q
  refine bindT sl rs q fun d s1 v H1 ρ1 sl1 rs1 l1 t1 r1 q1 => ?_
  cases d with
  | int i => cases RD.int_of r1; exact ⟨i, rfl, okG.done (d := D.int (Builtin.Int.intBits i : Nat)) q1 rs1 RD.int⟩
  | _ => exact q1.elim

/-! ### calls of built-ins by values -/
def rCall (K : PySem.W.Frag) (W : Wx) (op : List D → Sto → Out D) : List V → Hp → VK → Prop := fun vs H Q => ∃ σ ρ s ds, RS K H ρ s ∧ RDs K H ρ ds vs ∧ okG K W (rrD K) ρ H σ (op ds s) Q
abbrev CallS (X : Cx) (W : Wx) (f : Value) (op : List D → Sto → Out D) : Prop := CallR X f (rCall X.K W op)
def eCall (op : List D → Sto → Out D) (g : DEnv → Sto → Out (List D)) : DEnv → Sto → Out D := fun δ s => (g δ s).bind op
theorem tCB_of {op : List D → Sto → Out D} {K : PySem.W.Frag} {σ : L2.St} {H : Hp} {Q : VK} (q : tE K W (eCall op g) σ H Q) : tCB (rCall K W op) (tA K W g) σ H Q := by
  obtain ⟨ρ, δ, s, sl, rs, q⟩ := q
  refine bindT sl rs q fun d s1 v H1 ρ1 sl1 rs1 l1 t1 r1 q1 => ?_
  exact ⟨σ, ρ1, s1, d, rs1, r1, q1⟩
theorem se_callB {x : Str} {p : Pos} {id : String} {op : List D → Sto → Out D} (hc : CallS X W (.builtin id) op) (hm : X.mg x = none) (ha : SA X W (e :: es) g) (hg : Gl X x := by rfl) (hv : bootBuiltins x = some (.builtin id) := by decide +kernel) (hn : x ≠ "__name__" := by decide) (hdb : (x == ("__debug__" : Str)) = false := by decide)
    (he : starEach (e :: es) X.env = (false, eval e X.env) :: starEach es X.env := by rfl) (hpl : (backTo pos (starEach es X.env)).any (·.1) = false := by rfl) : SE X W (.Call (.Name x p) (e :: es) [] pos) (eCall op g) :=
  PEweak (pe_callB hc hg hm hv ha hn hdb he hpl) fun _ _ _ q => tCB_of q
theorem se_callTy {x : Str} {p : Pos} {T : String} {op : List D → Sto → Out D} (hc : CallS X W (.type T) op) (hm : X.mg x = none) (ha : SA X W (e :: es) g) (hg : Gl X x := by rfl) (hv : bootBuiltins x = some (.type T) := by decide +kernel) (hn : x ≠ "__name__" := by decide) (hdb : (x == ("__debug__" : Str)) = false := by decide)
    (he : starEach (e :: es) X.env = (false, eval e X.env) :: starEach es X.env := by rfl) (hpl : (backTo pos (starEach es X.env)).any (·.1) = false := by rfl) : SE X W (.Call (.Name x p) (e :: es) [] pos) (eCall op g) :=
  PEweak (pe_callTy hc hg hm hv ha hn hdb he hpl) fun _ _ _ q => tCB_of q
theorem RDs.one {K : PySem.W.Frag} {H : Hp} {ρ : Loc} {d : D} {vs : List V} (h : RDs K H ρ [d] vs) : ∃ v, vs = [v] ∧ RD K H ρ d v := by
  unfold RDs at h
  obtain ⟨v, r, rfl, h1, h2⟩ := h
  unfold RDs at h2
  subst h2
  exact ⟨v, rfl, h1⟩
theorem RDs.two {K : PySem.W.Frag} {H : Hp} {ρ : Loc} {d e : D} {vs : List V} (h : RDs K H ρ [d, e] vs) : ∃ v w, vs = [v, w] ∧ RD K H ρ d v ∧ RD K H ρ e w := by
  unfold RDs at h
  obtain ⟨v, r, rfl, h1, h2⟩ := h
  obtain ⟨w, rfl, h3⟩ := h2.one
  exact ⟨v, w, rfl, h1, h3⟩
/-- one thing -/
def f1 (op : D → Sto → Out D) : List D → Sto → Out D
  | [d], s => op d s
  | _, _ => .bad
@[simp] theorem f1_one {op : D → Sto → Out D} {d : D} {s : Sto} : f1 op [d] s = op d s := (rfl)
theorem calls1 {f : Value} {op : D → Sto → Out D} (h : ∀ (pins : List (Addr × Obj)) (s : Shared) (σ : L2.St) (H : Hp) (x : V) (us : List Value) (Q : VK) (σ' : L2.St) (ρ : Loc) (st : Sto) (d : D), Inv X pins σ H s → Vals [x] us → RS X.K H ρ st → RD X.K H ρ d x → okG X.K W (rrD X.K) ρ H σ' (op d st) Q →
    wpAny (model X.prog X.w) X.A (call f us) (EP X pins σ Q) X.xe s) : CallS X W f (f1 op) := by
  intro pins s σ H xs us Q I r q
  obtain ⟨σ', ρ, st, ds, rs, r1, q⟩ := q
  match ds, r1, q with
  | [], _, q => exact q.elim
  | [d], r1, q =>
    obtain ⟨v, rfl, r2⟩ := r1.one
    exact h pins s σ H v us Q σ' ρ st d I r rs r2 q
  | _ :: _ :: _, _, q => exact q.elim
/-- len -/
def opLen (d : D) (s : Sto) : Out D := match d with
  | .tup l => .ok (.int l.length) s
  | .str x => if x.length < lim then .ok (.int x.length) s else .bad
  | .obj n => match nget s.m n with
    | some (.lst l) => .ok (.int l.length) s
    | some (.fro l) => .ok (.int l.length) s
    | some (.dic l) => .ok (.int l.length) s
    | _ => .bad
  | .rng true => match s.g with
    | some r => .ok (.int r.cells.length) s
    | none => .bad
  | _ => .bad
theorem calls_len : CallS X W (.builtin "len") (f1 opLen) := calls1 fun pins s σ H x us Q σ' ρ st d I r rs rd q => by
  cases d with
  | tup l =>
    obtain ⟨p, vs, rfl, h1, z⟩ := RD.tup_of rd
    refine call_len_seq pins s σ H _ us Q I r ⟨p, vs, rfl, .inr h1, ?_⟩
    rw [z.length]
    exact okG.done (d := D.int l.length) q rs RD.int
  | str y =>
    cases RD.str_of rd
    have q : okG X.K W (rrD X.K) ρ H σ' (if y.length < lim then .ok (.int y.length) st else .bad) Q := q
    by_cases z : y.length < lim
    · rw [if_pos z] at q
      exact call_len_str pins s σ H _ us Q I r ⟨y, rfl, Nat.le_of_lt (Nat.lt_trans z lim_le), q.done rs RD.int⟩
    · rw [if_neg z] at q
      exact q.elim
  | obj n =>
    obtain ⟨p, rfl, e⟩ := RD.obj_of rd
    have q : okG X.K W (rrD X.K) ρ H σ' (match nget st.m n with
      | some (.lst l) => .ok (.int l.length) st
      | some (.fro l) => .ok (.int l.length) st
      | some (.dic l) => .ok (.int l.length) st
      | _ => .bad) Q := q
    split at q
    · rename_i l e1
      obtain ⟨vs, h1, z⟩ := rs.ob n _ p e1 e
      refine call_len_seq pins s σ H _ us Q I r ⟨p, vs, rfl, .inl (.of h1), ?_⟩
      rw [z.length]
      exact q.done rs RD.int
    · rename_i l e1
      obtain ⟨vs, h1, z⟩ := rs.ob n _ p e1 e
      refine call_len_seq pins s σ H _ us Q I r ⟨p, vs, rfl, .inl (.inl h1), ?_⟩
      rw [z.length]
      exact q.done rs RD.int
    · rename_i l e1
      obtain ⟨vs, h1, z⟩ := rs.ob n _ p e1 e
      refine call_lenD pins s σ H _ us Q I r ⟨p, vs, rfl, h1, ?_⟩
      have e := congrArg List.length z.1
      simp only [List.length_map] at e
      rw [e]
      exact q.done rs RD.int
    · exact q.elim
  | rng k =>
    cases k with
    | false => exact q.elim
    | true =>
      have q : okG X.K W (rrD X.K) ρ H σ' (match st.g with
        | some r => .ok (.int r.cells.length) st
        | none => .bad) Q := q
      split at q
      · rename_i g eg
        obtain ⟨a, b, e1, e2, h1, h2, _⟩ := rs.rng eg rd
        subst e1
        refine call_len_seq pins s σ H _ us Q I r ⟨b, _, rfl, .inl (.inl h2), ?_⟩
        rw [List.length_map]
        exact q.done rs RD.int
      · exact q.elim
  | _ => exact q.elim
/-- abs -/
def opAbs (d : D) (s : Sto) : Out D := match d with
  | .int i => .ok (.int (if i < 0 then -i else i)) s
  | _ => .bad
theorem calls_abs : CallS X W (.builtin "abs") (f1 opAbs) := calls1 fun pins s σ H x us Q σ' ρ st d I r rs rd q => by
  cases d with
  | int i => cases RD.int_of rd; exact call_abs pins s σ H _ us Q I r ⟨i, rfl, okG.done (d := D.int (if i < 0 then -i else i)) q rs RD.int⟩
  | _ => exact q.elim
/-- int -/
def opInt (d : D) (s : Sto) : Out D := match d with
  | .int i => .ok (.int i) s
  | .bl b => .ok (.int (if b then 1 else 0)) s
  | _ => .bad
theorem calls_int : CallS X W (.type "int") (f1 opInt) := calls1 fun pins s σ H x us Q σ' ρ st d I r rs rd q => by
  cases d with
  | int i => cases RD.int_of rd; exact call_int1 pins s σ H _ us Q I r (.inl ⟨i, rfl, okG.done (d := D.int i) q rs RD.int⟩)
  | bl b => cases RD.bl_of rd; exact call_int1 pins s σ H _ us Q I r (.inr ⟨b, rfl, okG.done (d := D.int (if b then 1 else 0)) q rs RD.int⟩)
  | _ => exact q.elim
/-- list, tuple -/
def opList (d : D) (s : Sto) : Out D := match d with
  | .tup l => mkLst l s
  | .obj n => match nget s.m n with
    | some (.lst l) => mkLst l s
    | some (.fro l) => mkLst l s
    | _ => .bad
  | _ => .bad
def opTuple (d : D) (s : Sto) : Out D := match d with
  | .tup l => .ok (.tup l) s
  | .obj n => match nget s.m n with
    | some (.lst l) => mkTup l s
    | some (.fro l) => mkTup l s
    | _ => .bad
  | _ => .bad
theorem calls_list : CallS X W (.type "list") (f1 opList) := calls1 fun pins s σ H x us Q σ' ρ st d I r rs rd q => by
  cases d with
  | tup l =>
    obtain ⟨p, vs, rfl, h1, z⟩ := RD.tup_of rd
    exact call_list_of pins s σ H _ us Q I r ⟨p, vs, rfl, .inr h1, (okG.lst (ds := l) q rs z).2⟩
  | obj n =>
    obtain ⟨p, rfl, e⟩ := RD.obj_of rd
    have q : okG X.K W (rrD X.K) ρ H σ' (match nget st.m n with
      | some (.lst l) => mkLst l st
      | some (.fro l) => mkLst l st
      | _ => .bad) Q := q
    split at q
    · rename_i l e1
      obtain ⟨vs, h1, z⟩ := rs.ob n _ p e1 e
      exact call_list_of pins s σ H _ us Q I r ⟨p, vs, rfl, .inl (.of h1), (q.lst rs z).2⟩
    · rename_i l e1
      obtain ⟨vs, h1, z⟩ := rs.ob n _ p e1 e
      exact call_list_of pins s σ H _ us Q I r ⟨p, vs, rfl, .inl (.inl h1), (q.lst rs z).2⟩
    · exact q.elim
  | _ => exact q.elim
theorem calls_tuple : CallS X W (.type "tuple") (f1 opTuple) := calls1 fun pins s σ H x us Q σ' ρ st d I r rs rd q => by
  cases d with
  | tup l =>
    obtain ⟨p, vs, e, h1, z⟩ := RD.tup_of rd
    subst e
    exact call_tuple_of pins s σ H _ us Q I r ⟨p, vs, rfl, .inr ⟨h1, okG.done (d := D.tup l) q rs rd⟩⟩
  | obj n =>
    obtain ⟨p, rfl, e⟩ := RD.obj_of rd
    have q : okG X.K W (rrD X.K) ρ H σ' (match nget st.m n with
      | some (.lst l) => mkTup l st
      | some (.fro l) => mkTup l st
      | _ => .bad) Q := q
    split at q
    · rename_i l e1
      obtain ⟨vs, h1, z⟩ := rs.ob n _ p e1 e
      exact call_tuple_of pins s σ H _ us Q I r ⟨p, vs, rfl, .inl ⟨.of h1, (q.tup rs z).2⟩⟩
    · rename_i l e1
      obtain ⟨vs, h1, z⟩ := rs.ob n _ p e1 e
      exact call_tuple_of pins s σ H _ us Q I r ⟨p, vs, rfl, .inl ⟨.inl h1, (q.tup rs z).2⟩⟩
    · exact q.elim
  | _ => exact q.elim

/-! ### of a list of ints, of bools -/
def intsOf : List D → Option (List Int)
  | [] => some []
  | .int i :: l => (intsOf l).map (i :: ·)
  | _ => none
def blsOf : List D → Option (List Bool)
  | [] => some []
  | .bl i :: l => (blsOf l).map (i :: ·)
  | _ => none
theorem ints_rel {K : PySem.W.Frag} {H : Hp} {ρ : Loc} : ∀ {l : List D} {ns : List Int} {vs : List V}, intsOf l = some ns → RDs K H ρ l vs → vs = ns.map V.int
  | [], _, _, h, r => by cases h; unfold RDs at r; exact r
  | d :: l, ns, _, h, r => by
    unfold RDs at r
    obtain ⟨v, vs, rfl, r1, r2⟩ := r
    cases d with
    | int i =>
      have h : (intsOf l).map (i :: ·) = some ns := h
      cases q : intsOf l with
      | none => rw [q] at h; cases h
      | some ms =>
        rw [q] at h
        cases h
        rw [RD.int_of r1, ints_rel q r2]
        rfl
    | _ => cases h
theorem bls_rel {K : PySem.W.Frag} {H : Hp} {ρ : Loc} : ∀ {l : List D} {ns : List Bool} {vs : List V}, blsOf l = some ns → RDs K H ρ l vs → vs = ns.map V.bl
  | [], _, _, h, r => by cases h; unfold RDs at r; exact r
  | d :: l, ns, _, h, r => by
    unfold RDs at r
    obtain ⟨v, vs, rfl, r1, r2⟩ := r
    cases d with
    | bl i =>
      have h : (blsOf l).map (i :: ·) = some ns := h
      cases q : blsOf l with
      | none => rw [q] at h; cases h
      | some ms =>
        rw [q] at h
        cases h
        rw [RD.bl_of r1, bls_rel q r2]
        rfl
    | _ => cases h
@[simp] theorem intsOf_map (ns : List Int) : intsOf (ns.map D.int) = some ns := by
  induction ns with
  | nil => rfl
  | cons n ns ih => show (intsOf (ns.map D.int)).map (n :: ·) = _; rw [ih]; rfl
@[simp] theorem blsOf_map (ns : List Bool) : blsOf (ns.map D.bl) = some ns := by
  induction ns with
  | nil => rfl
  | cons n ns ih => show (blsOf (ns.map D.bl)).map (n :: ·) = _; rw [ih]; rfl
theorem RDs_ints {K : PySem.W.Frag} {H : Hp} {ρ : Loc} : ∀ (ns : List Int), RDs K H ρ (ns.map D.int) (ns.map V.int)
  | [] => RDs.nil
  | n :: ns => RDs.cons RD.int (RDs_ints ns)
/-- a list of ints in the store -/
def onInts (d : D) (s : Sto) (k : List Int → Out D) : Out D := match d with
  | .obj n => match nget s.m n with
    | some (.lst l) => match intsOf l with
      | some ns => k ns
      | none => .bad
    | _ => .bad
  | _ => .bad
theorem onInts_rel {K : PySem.W.Frag} {H : Hp} {ρ : Loc} {σ' : L2.St} {d : D} {x : V} {st : Sto} {k : List Int → Out D} {Q : VK} (rs : RS K H ρ st) (r : RD K H ρ d x) (q : okG K W (rrD K) ρ H σ' (onInts d st k) Q) : ∃ a ns, x = .ref a ∧ SqL K H a (ns.map V.int) ∧ okG K W (rrD K) ρ H σ' (k ns) Q := by
  unfold onInts at q
  cases d with
  | obj n =>
    obtain ⟨p, rfl, e⟩ := RD.obj_of r
    simp only at q
    split at q
    · rename_i l e1
      obtain ⟨vs, h1, z⟩ := rs.ob n _ p e1 e
      split at q
      · rename_i ns e2
        exact ⟨p, ns, rfl, by rw [← ints_rel e2 z]; exact .of h1, q⟩
      · exact q.elim
    · exact q.elim
  | _ => exact q.elim
def opSum (d : D) (s : Sto) : Out D := onInts d s fun ns => .ok (.int ns.sum) s
theorem calls_sum (hc : X.calm = true) : CallS X W (.builtin "sum") (f1 opSum) := calls1 fun pins s σ H x us Q σ' ρ st d I r rs rd q => by
  obtain ⟨a, ns, rfl, h1, q⟩ := onInts_rel rs rd q
  exact cr_sum hc pins s σ H _ us Q I r ⟨a, ns, rfl, h1, q.done rs RD.int⟩
def maxL : List Int → Int
  | [] => 0
  | [a] => a
  | a :: b :: l => max a (maxL (b :: l))
def minL : List Int → Int
  | [] => 0
  | [a] => a
  | a :: b :: l => min a (minL (b :: l))
theorem maxL_spec : ∀ (l : List Int), l ≠ [] → maxL l ∈ l ∧ ∀ y ∈ l, y ≤ maxL l
  | [], h => absurd rfl h
  | [a], _ => by simp [maxL]
  | a :: b :: l, _ => by
    obtain ⟨h1, h2⟩ := maxL_spec (b :: l) (by simp)
    show max a (maxL (b :: l)) ∈ _ ∧ ∀ y ∈ _, y ≤ max a (maxL (b :: l))
    refine ⟨?_, fun y hy => ?_⟩
    · rcases Int.le_total a (maxL (b :: l)) with z | z
      · rw [Int.max_eq_right z]; exact List.mem_cons_of_mem _ h1
      · rw [Int.max_eq_left z]; exact List.mem_cons_self
    · rcases List.mem_cons.mp hy with e | e
      · omega
      · have := h2 y e; omega
theorem minL_spec : ∀ (l : List Int), l ≠ [] → minL l ∈ l ∧ ∀ y ∈ l, minL l ≤ y
  | [], h => absurd rfl h
  | [a], _ => by simp [minL]
  | a :: b :: l, _ => by
    obtain ⟨h1, h2⟩ := minL_spec (b :: l) (by simp)
    show min a (minL (b :: l)) ∈ _ ∧ ∀ y ∈ _, min a (minL (b :: l)) ≤ y
    refine ⟨?_, fun y hy => ?_⟩
    · rcases Int.le_total a (minL (b :: l)) with z | z
      · rw [Int.min_eq_left z]; exact List.mem_cons_self
      · rw [Int.min_eq_right z]; exact List.mem_cons_of_mem _ h1
    · rcases List.mem_cons.mp hy with e | e
      · omega
      · have := h2 y e; omega
/-- max, min of a list of ints or of two ints -/
def fMax : List D → Sto → Out D
  | [d], s => onInts d s fun ns => if ns ≠ [] then .ok (.int (maxL ns)) s else .bad
  | [.int a, .int b], s => .ok (.int (if b > a then b else a)) s
  | _, _ => .bad
def fMin : List D → Sto → Out D
  | [d], s => onInts d s fun ns => if ns ≠ [] then .ok (.int (minL ns)) s else .bad
  | [.int a, .int b], s => .ok (.int (if b < a then b else a)) s
  | _, _ => .bad
theorem two_ints {K : PySem.W.Frag} {H : Hp} {ρ : Loc} {a b : Int} {vs : List V} (h : RDs K H ρ [.int a, .int b] vs) : vs = [.int a, .int b] := by
  obtain ⟨v, w, rfl, h1, h2⟩ := h.two
  rw [RD.int_of h1, RD.int_of h2]
theorem calls_max (hc : X.calm = true) : CallS X W (.builtin "max") fMax := by
  intro pins s σ H xs us Q I r q
  obtain ⟨σ', ρ, st, ds, rs, r1, q⟩ := q
  unfold fMax at q
  split at q
  · obtain ⟨v, rfl, rd⟩ := r1.one
    obtain ⟨a, ns, rfl, h1, q⟩ := onInts_rel rs rd q
    by_cases z : ns ≠ []
    · rw [if_pos z] at q
      obtain ⟨m1, m2⟩ := maxL_spec ns z
      refine cr_max hc pins s σ H _ us Q I r ⟨a, ns, rfl, h1, List.length_pos_iff.mpr z, fun m hm hy => ?_⟩
      have e : m = maxL ns := Int.le_antisymm (m2 m hm) (hy _ m1)
      rw [e]
      exact q.done rs RD.int
    · rw [if_neg z] at q
      exact q.elim
  · rename_i a b
    rw [two_ints r1] at r
    exact call_max2 hc pins s σ H _ us Q I r ⟨a, b, rfl, q.done rs RD.int⟩
  · exact q.elim
theorem calls_min (hc : X.calm = true) : CallS X W (.builtin "min") fMin := by
  intro pins s σ H xs us Q I r q
  obtain ⟨σ', ρ, st, ds, rs, r1, q⟩ := q
  unfold fMin at q
  split at q
  · obtain ⟨v, rfl, rd⟩ := r1.one
    obtain ⟨a, ns, rfl, h1, q⟩ := onInts_rel rs rd q
    by_cases z : ns ≠ []
    · rw [if_pos z] at q
      obtain ⟨m1, m2⟩ := minL_spec ns z
      refine cr_min hc pins s σ H _ us Q I r ⟨a, ns, rfl, h1, List.length_pos_iff.mpr z, fun m hm hy => ?_⟩
      have e : m = minL ns := Int.le_antisymm (hy _ m1) (m2 m hm)
      rw [e]
      exact q.done rs RD.int
    · rw [if_neg z] at q
      exact q.elim
  · rename_i a b
    rw [two_ints r1] at r
    exact call_min2 hc pins s σ H _ us Q I r ⟨a, b, rfl, q.done rs RD.int⟩
  · exact q.elim
/-- sorted, of ints -/
def isort (ns : List Int) : List Int := ns.mergeSort fun a b => decide (a ≤ b)
theorem isort_perm (ns : List Int) : (isort ns).Perm ns := List.mergeSort_perm _ _
theorem isort_sorted (ns : List Int) : (isort ns).Pairwise (· ≤ ·) := by
  have := List.pairwise_mergeSort (le := fun a b : Int => decide (a ≤ b)) (fun a b c h1 h2 => by simp at *; omega) (fun a b => by simp; omega) ns
  exact this.imp fun h => by simpa using h
theorem isort_uniq {ns ms : List Int} (p : ms.Perm ns) (h : ms.Pairwise (· ≤ ·)) : ms = isort ns := List.Perm.eq_of_pairwise (fun x y _ _ h1 h2 => Int.le_antisymm h1 h2) h (isort_sorted ns) (p.trans (isort_perm ns).symm)
def opSorted (d : D) (s : Sto) : Out D := onInts d s fun ns => mkObj (.lst ((isort ns).map D.int)) s
theorem calls_sorted : CallS X W (.builtin "sorted") (f1 opSorted) := calls1 fun pins s σ H x us Q σ' ρ st d I r rs rd q => by
  obtain ⟨a, ns, rfl, h1, q⟩ := onInts_rel rs rd q
  refine cr_sortedI pins s σ H _ us Q I r ⟨a, ns, rfl, h1, fun ms p pm so hp => ?_⟩
  rw [isort_uniq pm so]
  exact okG.obj' q rs (RDs_ints _) p hp
/-- any, all of a list of bools -/
def onBls (d : D) (s : Sto) (k : List Bool → Out D) : Out D := match d with
  | .obj n => match nget s.m n with
    | some (.lst l) => match blsOf l with
      | some ns => k ns
      | none => .bad
    | _ => .bad
  | _ => .bad
theorem onBls_rel {K : PySem.W.Frag} {H : Hp} {ρ : Loc} {σ' : L2.St} {d : D} {x : V} {st : Sto} {k : List Bool → Out D} {Q : VK} (rs : RS K H ρ st) (r : RD K H ρ d x) (q : okG K W (rrD K) ρ H σ' (onBls d st k) Q) : ∃ a ns, x = .ref a ∧ SqL K H a (ns.map V.bl) ∧ okG K W (rrD K) ρ H σ' (k ns) Q := by
  unfold onBls at q
  cases d with
  | obj n =>
    obtain ⟨p, rfl, e⟩ := RD.obj_of r
    simp only at q
    split at q
    · rename_i l e1
      obtain ⟨vs, h1, z⟩ := rs.ob n _ p e1 e
      split at q
      · rename_i ns e2
        exact ⟨p, ns, rfl, by rw [← bls_rel e2 z]; exact .of h1, q⟩
      · exact q.elim
    · exact q.elim
  | _ => exact q.elim
def opAny (d : D) (s : Sto) : Out D := onBls d s fun ns => .ok (.bl (ns.any id)) s
def opAll (d : D) (s : Sto) : Out D := onBls d s fun ns => .ok (.bl (ns.all id)) s
theorem calls_any (hc : X.calm = true) : CallS X W (.builtin "any") (f1 opAny) := calls1 fun pins s σ H x us Q σ' ρ st d I r rs rd q => by
  obtain ⟨a, ns, rfl, h1, q⟩ := onBls_rel rs rd q
  exact cr_any hc pins s σ H _ us Q I r ⟨a, ns, rfl, h1, q.done rs RD.bl⟩
theorem calls_all (hc : X.calm = true) : CallS X W (.builtin "all") (f1 opAll) := calls1 fun pins s σ H x us Q σ' ρ st d I r rs rd q => by
  obtain ⟨a, ns, rfl, h1, q⟩ := onBls_rel rs rd q
  exact cr_all hc pins s σ H _ us Q I r ⟨a, ns, rfl, h1, q.done rs RD.bl⟩
end
end DL

/-! The data layer, fifth part: isinstance, methods of lists, any and all of ints. -/
namespace DL
open PySem PySem.Spec PyProof.Rows L2
section
variable {X : Cx} {W : Wx} {pos : Pos} {a b e : Expr} {es : List Expr} {fa fb : DEnv → Sto → Out D} {g : DEnv → Sto → Out (List D)}

/-! ### isinstance(x, T), T a built-in class -/
def tyD (s : Sto) : D → Option String
  | .non => some "NoneType"
  | .bl _ => some "bool"
  | .int _ => some "int"
  | .str _ => some "str"
  | .tup _ => some "tuple"
  | .obj n => match nget s.m n with
    | some (.lst _) => some "list"
    | some (.dic _) => some "dict"
    | some (.dit _) => some "dict"
    | _ => none
  | _ => none
theorem tyD_rel {K : PySem.W.Frag} {H : Hp} {ρ : Loc} {s : Sto} {d : D} {x : V} {t : String} (rs : RS K H ρ s) (r : RD K H ρ d x) (h : tyD s d = some t) : TyX K H x (.type t) := by
  cases d with
  | non => cases RD.non_of r; cases h; exact .base .non
  | bl b => cases RD.bl_of r; cases h; exact .base (.bl b)
  | int b => cases RD.int_of r; cases h; exact .base (.int b)
  | str b => cases RD.str_of r; cases h; exact .base (.str b)
  | tup l =>
    obtain ⟨p, vs, rfl, q, _⟩ := RD.tup_of r
    cases h
    rcases q with (q | ⟨o, q⟩) | ⟨o, its, n, q, c, _⟩
    · exact .base (.tup q)
    · exact .fTuple q
    · exact .kTuple q c
  | obj n =>
    obtain ⟨p, rfl, q⟩ := RD.obj_of r
    have h : (match nget s.m n with
      | some (.lst _) => some "list"
      | some (.dic _) => some "dict"
      | some (.dit _) => some "dict"
      | _ => none) = some t := h
    split at h
    · rename_i l e1
      obtain ⟨vs, h1, _⟩ := rs.ob n _ p e1 q
      cases h
      exact .base (.lst h1)
    · rename_i l e1
      obtain ⟨vs, h1, _⟩ := rs.ob n _ p e1 q
      cases h
      exact .base (.dK h1)
    · rename_i l e1
      obtain ⟨vs, h1, _⟩ := rs.ob n _ p e1 q
      cases h
      exact .base (.dT h1)
    · cases h
  | _ => cases h
def isaB (t T : String) : Bool := t == T || (t == "bool" && T == "int") || T == "object"
def fIsi : List D → Sto → Out D
  | [d, .typ T], s => match tyD s d with
    | some t => if kitB t T = some (isaB t T) then .ok (.bl (isaB t T)) s else .bad
    | none => .bad
  | _, _ => .bad
theorem calls_isi : CallS X W (.builtin "isinstance") fIsi := by
  intro pins s σ H xs us Q I r q
  obtain ⟨σ', ρ, st, ds, rs, r1, q⟩ := q
  unfold fIsi at q
  split at q
  · rename_i d T
    obtain ⟨v, w, rfl, h1, h2⟩ := r1.two
    unfold RD at h2
    subst h2
    split at q
    · rename_i t e
      split at q
      · rename_i k
        exact call_isi pins s σ H _ us Q I r ⟨v, .ty T, .type t, .type T, isaB t T, rfl, by first | exact .ty T | constructor, tyD_rel rs h1 e, kit_ty k, q.done rs RD.bl⟩
      · exact q.elim
    · exact q.elim
  · exact q.elim

/-! ### methods of lists -/
def rMt (K : PySem.W.Frag) (W : Wx) (op : D → List D → Sto → Out D) : V → List V → Hp → VK → Prop := fun x xs H Q => ∃ σ ρ s d ds, RS K H ρ s ∧ RD K H ρ d x ∧ RDs K H ρ ds xs ∧ okG K W (rrD K) ρ H σ (op d ds s) Q
def isLst (s : Sto) : D → Bool
  | .obj n => match nget s.m n with
    | some (.lst _) => true
    | _ => false
  | _ => false
theorem isLst_rel {K : PySem.W.Frag} {H : Hp} {ρ : Loc} {s : Sto} {d : D} {x : V} (rs : RS K H ρ s) (r : RD K H ρ d x) (h : isLst s d = true) : tyV K "list" x H := by
  cases d with
  | obj n =>
    obtain ⟨p, rfl, q⟩ := RD.obj_of r
    have h : (match nget s.m n with
      | some (.lst _) => true
      | _ => false) = true := h
    split at h
    · rename_i l e1
      obtain ⟨vs, h1, _⟩ := rs.ob n _ p e1 q
      exact .inl ⟨rfl, vs, .of h1⟩
    · cases h
  | _ => cases h
def eMeth (op : D → List D → Sto → Out D) (f : DEnv → Sto → Out D) (g : DEnv → Sto → Out (List D)) : DEnv → Sto → Out D := fun δ s => (f δ s).bind fun d s1 => if isLst s1 d = true then (g δ s1).bind fun ds s2 => op d ds s2 else .bad
theorem se_meth {id : String} {name : Str} {apos : Pos} {op : D → List D → Sto → Out D} (slot : Slot "list" name id) (hty : typeOf (.builtin id) = pure (.type "method_descriptor")) (hm : MtR X id (rMt X.K W op)) (ho : SE X W a fa) (ha : SA X W (e :: es) g)
    (hbase : attributeBase a name X.env (eval a X.env) = eval a X.env := by rfl)
    (hfew : ((backTo pos (starEach (e :: es) X.env)).all (fun x => !x.1) && (backToKw pos (keywordEach [] X.env)).all (fun x => x.1.isSome)
      && decide ((e :: es).length + ([] : List Keyword).length + (if ([] : List Keyword).isEmpty then 0 else 1) < 30)) = true := by rfl)
    (hline : (apos.endLine == pos.line) = true := by rfl) (hs : starEach (e :: es) X.env = (false, eval e X.env) :: starEach es X.env := by rfl) (hplain : (backTo pos (starEach es X.env)).any (·.1) = false := by rfl) :
    SE X W (.Call (.Attribute a name apos) (e :: es) [] pos) (eMeth op fa g) := PEweak (pe_bm PySem.F.plainAttrs_list slot hty hm ho ha hbase hfew hline hs hplain) fun σ H Q q => by
  obtain ⟨ρ, δ, s, sl, rs, q⟩ := q
  refine bindT sl rs q fun d s1 v H1 ρ1 sl1 rs1 l1 t1 r1 q1 => ?_
  by_cases z : isLst s1 d = true
  · rw [if_pos z] at q1
    refine ⟨isLst_rel rs1 r1 z, bindT sl1 rs1 q1 fun ds s2 v2 H2 ρ2 sl2 rs2 l2 t2 r2 q2 => ?_⟩
    exact ⟨σ, ρ2, s2, d, ds, rs2, r1.mono l2 t2, r2, q2⟩
  · rw [if_neg z] at q1
    exact q1.elim
def eMeth0 (op : D → List D → Sto → Out D) (f : DEnv → Sto → Out D) : DEnv → Sto → Out D := fun δ s => (f δ s).bind fun d s1 => if isLst s1 d = true then op d [] s1 else .bad
theorem se_meth0 {id : String} {name : Str} {apos : Pos} {op : D → List D → Sto → Out D} (slot : Slot "list" name id) (hty : typeOf (.builtin id) = pure (.type "method_descriptor")) (hm : MtR X id (rMt X.K W op)) (ho : SE X W a fa)
    (hbase : attributeBase a name X.env (eval a X.env) = eval a X.env := by rfl) (hline : (apos.endLine == pos.line) = true := by rfl) : SE X W (.Call (.Attribute a name apos) [] [] pos) (eMeth0 op fa) :=
  PEweak (pe_bm0 PySem.F.plainAttrs_list slot hty hm ho hbase hline) fun σ H Q q => by
  obtain ⟨ρ, δ, s, sl, rs, q⟩ := q
  refine bindT sl rs q fun d s1 v H1 ρ1 sl1 rs1 l1 t1 r1 q1 => ?_
  by_cases z : isLst s1 d = true
  · rw [if_pos z] at q1
    exact ⟨isLst_rel rs1 r1 z, σ, ρ1, s1, d, [], rs1, r1, RDs.nil, q1⟩
  · rw [if_neg z] at q1
    exact q1.elim
/-- the list of the receiver -/
def onLst (d : D) (s : Sto) (k : Nat → List D → Out D) : Out D := match d with
  | .obj n => match nget s.m n with
    | some (.lst l) => k n l
    | _ => .bad
  | _ => .bad
theorem onLst_rel {K : PySem.W.Frag} {H : Hp} {ρ : Loc} {σ' : L2.St} {d : D} {x : V} {st : Sto} {k : Nat → List D → Out D} {Q : VK} (rs : RS K H ρ st) (r : RD K H ρ d x) (q : okG K W (rrD K) ρ H σ' (onLst d st k) Q) :
    ∃ a n l vs, x = .ref a ∧ nget ρ.a n = some a ∧ H a = some (.lst vs) ∧ RDs K H ρ l vs ∧ okG K W (rrD K) ρ H σ' (k n l) Q := by
  unfold onLst at q
  cases d with
  | obj n =>
    obtain ⟨p, rfl, e⟩ := RD.obj_of r
    simp only at q
    split at q
    · rename_i l e1
      obtain ⟨vs, h1, z⟩ := rs.ob n _ p e1 e
      exact ⟨p, n, l, vs, rfl, e, h1, z, q⟩
    · exact q.elim
  | _ => exact q.elim
/-- a list is changed: d is handed back -/
theorem okG.put {K : PySem.W.Frag} {ρ : Loc} {H : Hp} {σ : L2.St} {s : Sto} {Q : VK} {n : Nat} {a : Addr} {us ws : List V} {l : List D} {d : D} {v : V} (h : okG K W (rrD K) ρ H σ (.ok d ⟨nset s.m n (.lst l), s.g⟩) Q) (rs : RS K H ρ s) (ea : nget ρ.a n = some a) (ha : H a = some (.lst us))
    (z : RDs K H ρ l ws) (r : RD K H ρ d v) : Q v (upd H a (.lst ws)) := by
  have t : TupX K H (upd H a (.lst ws)) := TupX.chg ha trivial
  exact h v _ ρ (Loc.le_refl _) t (rs.put ea ha trivial ⟨ws, upd_same, z.mono (Loc.le_refl _) t⟩) (r.mono (Loc.le_refl _) t)
def mAppend (d : D) (ds : List D) (s : Sto) : Out D := onLst d s fun n l => match ds with
  | [y] => if l.length < lim then .ok .non ⟨nset s.m n (.lst (l ++ [y])), s.g⟩ else .bad
  | _ => .bad
theorem ms_append : MtR X "list.append" (rMt X.K W mAppend) := by
  intro pins s σ H x xs v us Q I rx rv h
  obtain ⟨σ', ρ, st, d, ds, rs, r1, r2, hh⟩ := h
  obtain ⟨p, n, l, vs, rfl, ea, ha, z, h⟩ := onLst_rel rs r1 hh
  clear hh
  split at h
  · rename_i y
    obtain ⟨w, rfl, rw'⟩ := r2.one
    split at h
    · rename_i hl
      exact mt_append pins s σ H _ _ v us Q I rx rv ⟨p, vs, w, rfl, rfl, ha, by rw [z.length]; exact Nat.lt_trans hl lim_le, h.put rs ea ha (z.app (RDs.cons rw' RDs.nil)) RD.non⟩
    · exact h.elim
  · exact h.elim
def mPop (d : D) (ds : List D) (s : Sto) : Out D := onLst d s fun n l => match ds, l[l.length - 1]? with
  | [], some y => .ok y ⟨nset s.m n (.lst l.dropLast), s.g⟩
  | _, _ => .bad
theorem RDs.dropLast {K : PySem.W.Frag} {H : Hp} {ρ : Loc} {l : List D} {vs : List V} (z : RDs K H ρ l vs) : RDs K H ρ l.dropLast vs.dropLast := by
  rw [List.dropLast_eq_take, List.dropLast_eq_take, z.length]
  exact z.take _
theorem ms_pop : MtR X "list.pop" (rMt X.K W mPop) := by
  intro pins s σ H x xs v us Q I rx rv h
  obtain ⟨σ', ρ, st, d, ds, rs, r1, r2, hh⟩ := h
  obtain ⟨p, n, l, vs, rfl, ea, ha, z, h⟩ := onLst_rel rs r1 hh
  clear hh
  split at h
  · rename_i y e
    unfold RDs at r2
    subst r2
    obtain ⟨w, ew, rw'⟩ := z.get e
    exact mt_pop pins s σ H _ _ v us Q I rx rv ⟨p, vs, w, rfl, rfl, ha, by rw [z.length]; exact ew, h.put rs ea ha z.dropLast rw'⟩
  · exact h.elim
def mPopAt (d : D) (ds : List D) (s : Sto) : Out D := onLst d s fun n l => match ds with
  | [.int i] => match ixN l.length i with
    | some k => if l.length < lim then optO l[k]? ⟨nset s.m n (.lst (l.eraseIdx k)), s.g⟩ else .bad
    | none => .bad
  | _ => .bad
theorem ms_popAt : MtR X "list.pop" (rMt X.K W mPopAt) := by
  intro pins s σ H x xs v us Q I rx rv h
  obtain ⟨σ', ρ, st, d, ds, rs, r1, r2, hh⟩ := h
  obtain ⟨p, n, l, vs, rfl, ea, ha, z, h⟩ := onLst_rel rs r1 hh
  clear hh
  split at h
  · rename_i i
    obtain ⟨w, rfl, rw'⟩ := r2.one
    cases RD.int_of rw'
    split at h
    · rename_i k e
      split at h
      · rename_i hl
        obtain ⟨e1, e2, e3, e4⟩ := ixN_seq e
        cases q : l[k]? with
        | none => rw [q] at h; exact h.elim
        | some y =>
          rw [q] at h
          obtain ⟨u, eu, ru⟩ := z.get q
          have hlim : lim = 1000000 := rfl
          refine mt_popAt pins s σ H _ _ v us Q I rx rv ⟨p, vs, i, k, u, rfl, rfl, ha, by omega, by omega, by rw [z.length]; exact e1, eu, okG.put h rs ea ha (z.erase k) ru⟩
      · exact h.elim
    · exact h.elim
  · exact h.elim
/-- extend by a list or a tuple -/
def mExtend (d : D) (ds : List D) (s : Sto) : Out D := onLst d s fun n l => match ds with
  | [.tup r] => if l.length + r.length < lim then .ok .non ⟨nset s.m n (.lst (l ++ r)), s.g⟩ else .bad
  | [.obj m] => match nget s.m m with
    | some (.lst r) => if l.length + r.length < lim then .ok .non ⟨nset s.m n (.lst (l ++ r)), s.g⟩ else .bad
    | _ => .bad
  | _ => .bad
open PySem.AutoSeq1 in
theorem list_extend_tuple (l : Addr) (items : Array Value) (n : Nat) (b : Addr) (items2 : Array Value) (n2 : Nat) (dd : Option Addr) (sl : Array (Option Value)) (hs0 : ¬(!items.isEmpty && Builtin.List.listTooLong (items.size + items2.size)) = true) (hs1 : items.size ≤ sizeLine) (hs2 : items.size + items2.size ≤ sizeLine + 1) :
    Meets (Builtin.«list.extend» ⟨[.ref l, .ref b], []⟩) (fun _ R s => s.heap.get? l = some { cls := .type "list", dict := none, data := .seq items n, slots := #[] } ∧ s.heap.get? b = some { cls := .type "tuple", dict := dd, data := .seq items2 n2, slots := sl } ∧ R (.ok (.ret Value.none)) { s with heap := s.heap.update l (Obj.mapSeq fun x => x ++ items2), toks := s.toks }) :=
  .of_wp fun prog w A R s h => by
    obtain ⟨hp, g, d, tk, os⟩ := s; obtain ⟨hl, hb, h⟩ := h; have f1 := idx_int; have f2 := AutoSeq1.sub_tuple_tuple; have f3 := AutoSeq1.sub_list_list; have f4 := AutoSeq1.sub_tuple_list; have f5 := AutoSeq1.sub_list_tuple;
    have hz' : (items ++ items2).size ≤ sizeLine + 1 := by rw [Array.size_append]; exact hs2
    wp_walk using (wpAny_updateSeq hl rfl (hz := hs1) (_hz' := hz')), wpAny_loadPart' hl, wpAny_loadPart' hb; exact ⟨_, rfl, h⟩
def rExtendT (K : PySem.W.Frag) : V → List V → Hp → VK → Prop := fun x vs H Q => ∃ l b xs zs, x = .ref l ∧ vs = [.ref b] ∧ H l = some (.lst xs) ∧ SqT K H b zs ∧ xs.length + zs.length ≤ sizeLine ∧ Q .non (upd H l (.lst (xs ++ zs)))
theorem mt_extendT : MtM X "list.extend" (rExtendT X.K) := by
  intro pins s σ H x vs v us Q I rx rv h
  obtain ⟨l, b, xs, zs, rfl, rfl, hH, hB, hz, q⟩ := h
  cases rx
  obtain ⟨u, rfl, ru⟩ := rv.one
  cases ru
  obtain ⟨z, its, n, r, hl, e⟩ := I.lstM hH
  obtain ⟨its2, r2, ⟨o, e2, c2, n2, d2⟩, hl2⟩ := I.tuple hB
  obtain ⟨oc, od, dt, sl⟩ := o
  simp only at c2 d2
  subst c2 d2
  have h3 := r2.length
  have hsz : its.toArray.size + its2.toArray.size ≤ sizeLine := by rw [List.size_toArray, List.size_toArray]; omega
  have hlong : ¬ (!its.toArray.isEmpty && Builtin.List.listTooLong (its.toArray.size + its2.toArray.size)) = true := by
    rw [notLongL hsz, Bool.and_false]
    exact Bool.false_ne_true
  refine call_meets F.slot_list_extend ⟨_, e, rfl⟩ F.entry_list_extend (F.args_list_extend_2 _ _)
    (list_extend_tuple l its.toArray n b its2.toArray n2 od sl hlong (by rw [List.size_toArray]; omega) (by omega)) ⟨e, e2, ?_⟩
  refine ⟨.non, _, I.lset (its' := its ++ its2) hH e (by simp) (r.append r2) ?_, rfl, q⟩
  rw [List.length_append]
  omega
theorem ms_extend : MtR X "list.extend" (rMt X.K W mExtend) := by
  intro pins s σ H x xs v us Q I rx rv h
  obtain ⟨σ', ρ, st, d, ds, rs, r1, r2, hh⟩ := h
  obtain ⟨p, n, l, vs, rfl, ea, ha, z, h⟩ := onLst_rel rs r1 hh
  clear hh
  split at h
  · rename_i r
    obtain ⟨w, rfl, rw'⟩ := r2.one
    obtain ⟨p2, ws, rfl, q2, z2⟩ := RD.tup_of rw'
    split at h
    · rename_i hl
      exact mt_extendT pins s σ H _ _ v us Q I rx rv ⟨p, p2, vs, ws, rfl, rfl, ha, q2, by rw [z.length, z2.length]; exact Nat.le_of_lt (Nat.lt_trans hl lim_le), h.put rs ea ha (z.app z2) RD.non⟩
    · exact h.elim
  · rename_i m
    obtain ⟨w, rfl, rw'⟩ := r2.one
    obtain ⟨p2, rfl, e2⟩ := RD.obj_of rw'
    split at h
    · rename_i r e3
      obtain ⟨ws, h2, z2⟩ := rs.ob m _ p2 e3 e2
      split at h
      · rename_i hl
        exact mt_extend pins s σ H _ _ v us Q I rx rv ⟨p, p2, vs, ws, rfl, rfl, ha, h2, by rw [z.length, z2.length]; exact Nat.le_of_lt (Nat.lt_trans hl lim_le), h.put rs ea ha (z.app z2) RD.non⟩
      · exact h.elim
    · exact h.elim
  · exact h.elim

/-! ### any, all of bools and ints -/
def trsOf : List D → Option (List Bool)
  | [] => some []
  | .bl i :: l => (trsOf l).map (i :: ·)
  | .int i :: l => (trsOf l).map ((i != 0) :: ·)
  | _ => none
/-- the truth of a bool or an int -/
def TrV : V → Bool → Prop
  | .bl b, k => k = b
  | .int i, k => k = (i != 0)
  | _, _ => False
theorem trs_rel {K : PySem.W.Frag} {H : Hp} {ρ : Loc} : ∀ {l : List D} {ns : List Bool} {vs : List V}, trsOf l = some ns → RDs K H ρ l vs → Paired TrV vs ns
  | [], _, _, h, r => by cases h; unfold RDs at r; subst r; exact .nil
  | d :: l, ns, _, h, r => by
    unfold RDs at r
    obtain ⟨v, vs, rfl, r1, r2⟩ := r
    cases d with
    | bl i =>
      have h : (trsOf l).map (i :: ·) = some ns := h
      cases q : trsOf l with
      | none => rw [q] at h; cases h
      | some ms =>
        rw [q] at h
        cases h
        rw [RD.bl_of r1]
        exact .cons rfl (trs_rel q r2)
    | int i =>
      have h : (trsOf l).map ((i != 0) :: ·) = some ns := h
      cases q : trsOf l with
      | none => rw [q] at h; cases h
      | some ms =>
        rw [q] at h
        cases h
        rw [RD.int_of r1]
        exact .cons rfl (trs_rel q r2)
    | _ => cases h
theorem tr_get : ∀ {vs : List V} {ns : List Bool} {us : List Value} {i : Nat} {u : Value}, Paired TrV vs ns → Vals vs us → us[i]? = some u → ∃ v b, vs[i]? = some v ∧ ns[i]? = some b ∧ RelV v u ∧ TrV v b
  | _, _, _, _, _, .nil, .nil, h => by simp at h
  | _, _, _, 0, _, .cons p _, .cons r _, h => by
    simp at h
    subst h
    exact ⟨_, _, rfl, rfl, r, p⟩
  | _, _, _, i + 1, _, .cons _ p, .cons _ r, h => by
    obtain ⟨v, b, h1, h2, h3⟩ := tr_get (i := i) p r (by simpa using h)
    exact ⟨v, b, by simpa using h1, by simpa using h2, h3⟩
theorem truth_mixed {prog : Program} {w : World} {A : Around} {vs : List V} {bs : List Bool} {its : List Value} (p : Paired TrV vs bs) (rv : Vals vs its) :
    TruthOf prog w A (fun i v => its.toArray[i]? = some v) (fun i => bs.getD i false) := fun i v s Q E hv hq => by
  have hv' : its[i]? = some v := by simpa using hv
  obtain ⟨x, b, h1, h2, h3, h4⟩ := tr_get p rv hv'
  have hg : bs.getD i false = b := by rw [List.getD_eq_getElem?_getD, h2] <;> rfl
  have hq' : Q (bs.getD i false) s := hq
  rw [hg] at hq'
  cases x with
  | bl y =>
    cases h3
    cases h4
    exact wpAny_truthy_bool hq'
  | int y =>
    obtain ⟨t, rfl⟩ := h3
    cases h4
    exact PySem.P.truthy_int hq'
  | _ => exact h4.elim
def rAnyG (K : PySem.W.Frag) : List V → Hp → VK → Prop := fun vs H Q => ∃ (a : Addr) (xs : List V) (bs : List Bool), vs = [V.ref a] ∧ SqL K H a xs ∧ Paired TrV xs bs ∧ Q (.bl (bs.any id)) H
def rAllG (K : PySem.W.Frag) : List V → Hp → VK → Prop := fun vs H Q => ∃ (a : Addr) (xs : List V) (bs : List Bool), vs = [V.ref a] ∧ SqL K H a xs ∧ Paired TrV xs bs ∧ Q (.bl (bs.all id)) H
theorem cr_anyG (hc : X.calm = true) : CallR X (.builtin "any") (rAnyG X.K) := by
  intro pins s σ H vs us Q I r h
  obtain ⟨a, xs, bs, rfl, hs, hp, q⟩ := h
  obtain ⟨its, rv, hl, _⟩ := I.list hs
  rw [Vals.ref1 r]
  refine call_any_walk (iter_any hl.isList fun s₂ e2 st hne => ?_)
  subst e2
  refine ⟨_, _, _, _, _, _, _, rfl, Walks.list (A := X.A.in1) (I.ok.hd hc) _ a hne its.toArray, st, truth_mixed hp rv, fun h' tk hk => ?_⟩
  refine ⟨.bl _, H, I.kept fun b o eo => hk b o (fun hmem => ?_) (Heap.get?_push_of_some _ eo), ?_, q⟩
  · rcases List.mem_cons.mp hmem with e1 | hmem
    · exact absurd (e1 ▸ Heap.lt_size eo) (Nat.lt_irrefl _)
    · cases hmem
  · show Value.bool _ = Value.bool _
    rw [← L2.any_range, List.size_toArray, ← rv.length, Paired.length hp]
theorem cr_allG (hc : X.calm = true) : CallR X (.builtin "all") (rAllG X.K) := by
  intro pins s σ H vs us Q I r h
  obtain ⟨a, xs, bs, rfl, hs, hp, q⟩ := h
  obtain ⟨its, rv, hl, _⟩ := I.list hs
  rw [Vals.ref1 r]
  refine call_all_walk (iter_any hl.isList fun s₂ e2 st hne => ?_)
  subst e2
  refine ⟨_, _, _, _, _, _, _, rfl, Walks.list (A := X.A.in1) (I.ok.hd hc) _ a hne its.toArray, st, truth_mixed hp rv, fun h' tk hk => ?_⟩
  refine ⟨.bl _, H, I.kept fun b o eo => hk b o (fun hmem => ?_) (Heap.get?_push_of_some _ eo), ?_, q⟩
  · rcases List.mem_cons.mp hmem with e1 | hmem
    · exact absurd (e1 ▸ Heap.lt_size eo) (Nat.lt_irrefl _)
    · cases hmem
  · show Value.bool _ = Value.bool _
    rw [← L2.all_range, List.size_toArray, ← rv.length, Paired.length hp]
def onTrs (d : D) (s : Sto) (k : List Bool → Out D) : Out D := onLst d s fun _ l => match trsOf l with
  | some bs => k bs
  | none => .bad
def opAnyG (d : D) (s : Sto) : Out D := onTrs d s fun bs => .ok (.bl (bs.any id)) s
def opAllG (d : D) (s : Sto) : Out D := onTrs d s fun bs => .ok (.bl (bs.all id)) s
theorem calls_anyG (hc : X.calm = true) : CallS X W (.builtin "any") (f1 opAnyG) := calls1 fun pins s σ H x us Q σ' ρ st d I r rs rd q => by
  obtain ⟨p, n, l, vs, rfl, ea, ha, z, q⟩ := onLst_rel rs rd q
  split at q
  · rename_i bs e
    exact cr_anyG hc pins s σ H _ us Q I r ⟨p, vs, bs, rfl, .of ha, trs_rel e z, q.done rs RD.bl⟩
  · exact q.elim
theorem calls_allG (hc : X.calm = true) : CallS X W (.builtin "all") (f1 opAllG) := calls1 fun pins s σ H x us Q σ' ρ st d I r rs rd q => by
  obtain ⟨p, n, l, vs, rfl, ea, ha, z, q⟩ := onLst_rel rs rd q
  split at q
  · rename_i bs e
    exact cr_allG hc pins s σ H _ us Q I r ⟨p, vs, bs, rfl, .of ha, trs_rel e z, q.done rs RD.bl⟩
  · exact q.elim
end
end DL

/-! The data layer, sixth part: statements, targets, loops. -/
namespace DL
open PySem PySem.Spec PyProof.Rows L2

inductive Res where
  | nx (δ : DEnv) (s : Sto) | rt (d : D) (s : Sto) | bk (δ : DEnv) (s : Sto) | ct (δ : DEnv) (s : Sto) | ex (δ : DEnv) (c : Addr) (l : List (Str × D)) (s : Sto) | bad
def okS (K : PySem.W.Frag) (W : Wx) (Dn : Ends) (ρ : Loc) (H : Hp) (r : Res) : Prop := match r with
  | .nx δ' s' => ∀ σ' H' ρ', ρ.le ρ' → TupX K H H' → Sl K H' ρ' δ' σ' → RS K H' ρ' s' → Dn.nx σ' H'
  | .rt d s' => ∀ v H' ρ', ρ.le ρ' → TupX K H H' → RS K H' ρ' s' → RD K H' ρ' d v → Dn.rt v H'
  | .bk δ' s' => ∀ σ' H' ρ', ρ.le ρ' → TupX K H H' → Sl K H' ρ' δ' σ' → RS K H' ρ' s' → Dn.bk σ' H'
  | .ct δ' s' => ∀ σ' H' ρ', ρ.le ρ' → TupX K H H' → Sl K H' ρ' δ' σ' → RS K H' ρ' s' → Dn.ct σ' H'
  | .ex δ' c l s' => ∀ σ' dx H' ρ' vs, ρ.le ρ' → TupX K H H' → Sl K H' ρ' δ' σ' → RS K H' ρ' s' → H' dx = some (.xd vs) → RDk K H' ρ' l vs → W c dx σ' H'
  | .bad => False
def tS (K : PySem.W.Frag) (W : Wx) (f : DEnv → Sto → Res) : TS := fun Dn σ H => ∃ ρ δ s, Sl K H ρ δ σ ∧ RS K H ρ s ∧ okS K W Dn ρ H (f δ s)
abbrev SS (X : Cx) (W : Wx) (st : Stmt) (f : DEnv → Sto → Res) : Prop := PS X st (tS X.K W f)
abbrev SSs (X : Cx) (W : Wx) (st : List Stmt) (f : DEnv → Sto → Res) : Prop := PSs X st (tS X.K W f)
theorem PSweak {X : Cx} {st : Stmt} {t t' : TS} (h : PS X st t) (w : ∀ Dn σ H, t' Dn σ H → t Dn σ H) : PS X st t' := ⟨fun pins s σ H Dn I q => h.run pins s σ H Dn I (w _ _ _ q)⟩
theorem PSsweak {X : Cx} {st : List Stmt} {t t' : TS} (h : PSs X st t) (w : ∀ Dn σ H, t' Dn σ H → t Dn σ H) : PSs X st t' := ⟨fun pins s σ H Dn I q => h.run pins s σ H Dn I (w _ _ _ q)⟩
section
variable {K : PySem.W.Frag} {W : Wx} {Dn : Ends} {ρ ρ1 : Loc} {H H1 : Hp} {σ : L2.St} {δ : DEnv} {s : Sto}
theorem okS.from {r : Res} (h : okS K W Dn ρ H r) (l : ρ.le ρ1) (t : TupX K H H1) : okS K W Dn ρ1 H1 r := by
  cases r with
  | nx δ' s' => exact fun σ' H' ρ' l' t' => h σ' H' ρ' (Loc.le_trans l l') (t.trans t')
  | rt d s' => exact fun σ' H' ρ' l' t' => h σ' H' ρ' (Loc.le_trans l l') (t.trans t')
  | bk δ' s' => exact fun σ' H' ρ' l' t' => h σ' H' ρ' (Loc.le_trans l l') (t.trans t')
  | ct δ' s' => exact fun σ' H' ρ' l' t' => h σ' H' ρ' (Loc.le_trans l l') (t.trans t')
  | ex δ' c fs s' => exact fun σ' dx H' ρ' vs l' t' => h σ' dx H' ρ' vs (Loc.le_trans l l') (t.trans t')
  | bad => exact h
end
/-- an expression, then the rest of its statement -/
def Out.to {α : Type} (o : Out α) (δ : DEnv) (k : α → Sto → Res) : Res := match o with
  | .ok a s => k a s
  | .exc c l s => .ex δ c l s
  | .bad => .bad
@[simp] theorem to_ok {α : Type} {a : α} {s : Sto} {δ : DEnv} {k : α → Sto → Res} : (Out.ok a s).to δ k = k a s := (rfl)
@[simp] theorem to_exc {α : Type} {c : Addr} {l : List (Str × D)} {s : Sto} {δ : DEnv} {k : α → Sto → Res} : (Out.exc c l s : Out α).to δ k = .ex δ c l s := (rfl)
@[simp] theorem to_bad {α : Type} {δ : DEnv} {k : α → Sto → Res} : (Out.bad : Out α).to δ k = .bad := (rfl)
section
variable {α β : Type} {K : PySem.W.Frag} {W : Wx} {R1 : Hp → Loc → α → β → Prop} {Dn : Ends} {ρ : Loc} {H : Hp} {σ : L2.St} {δ : DEnv} {s : Sto}
theorem bindSo {o : Out α} {k : α → Sto → Res} {R : β → Hp → Prop} (sl : Sl K H ρ δ σ) (h : okS K W Dn ρ H (o.to δ k))
    (hR : ∀ d s1 v H1 ρ1, Sl K H1 ρ1 δ σ → RS K H1 ρ1 s1 → ρ.le ρ1 → TupX K H H1 → R1 H1 ρ1 d v → okS K W Dn ρ1 H1 (k d s1) → R v H1) : okG K W R1 ρ H σ o R := by
  cases o with
  | ok d s1 => exact fun v H1 ρ1 l t r q => hR d s1 v H1 ρ1 (sl.mono l t) r l t q (okS.from (r := k d s1) h l t)
  | exc c fs s1 => exact fun dx H' ρ' vs l t r hx hk => h σ dx H' ρ' vs l t (sl.mono l t) r hx hk
  | bad => exact h
theorem bindS {f : DEnv → Sto → Out α} {k : α → Sto → Res} {R : β → Hp → Prop} (sl : Sl K H ρ δ σ) (rs : RS K H ρ s) (h : okS K W Dn ρ H ((f δ s).to δ k))
    (hR : ∀ d s1 v H1 ρ1, Sl K H1 ρ1 δ σ → RS K H1 ρ1 s1 → ρ.le ρ1 → TupX K H H1 → R1 H1 ρ1 d v → okS K W Dn ρ1 H1 (k d s1) → R v H1) : tG K W R1 f σ H R := ⟨ρ, δ, s, sl, rs, bindSo sl h hR⟩
end
section
variable {X : Cx} {W : Wx} {pos : Pos} {a b e : Expr} {es : List Expr} {fa fb : DEnv → Sto → Out D} {st : Stmt} {rest : List Stmt} {f g : DEnv → Sto → Res}
/-! ### blocks, small statements -/
def sNil : DEnv → Sto → Res := fun δ s => .nx δ s
def sSeq (f g : DEnv → Sto → Res) : DEnv → Sto → Res := fun δ s => match f δ s with
  | .nx δ' s' => g δ' s'
  | r => r
theorem ss_nil : SSs X W [] sNil := PSsweak pss_nil fun Dn σ H q => by
  obtain ⟨ρ, δ, s, sl, rs, q⟩ := q
  exact q σ H ρ (Loc.le_refl _) (TupX.refl _) sl rs
theorem ss_cons (h : SS X W st f) (h2 : SSs X W rest g) : SSs X W (st :: rest) (sSeq f g) := PSsweak (pss_cons h h2) fun Dn σ H q => by
  obtain ⟨ρ, δ, s, sl, rs, q⟩ := q
  refine ⟨ρ, δ, s, sl, rs, ?_⟩
  unfold sSeq at q
  cases e : f δ s with
  | nx δ' s' =>
    rw [e] at q
    exact fun σ' H' ρ' l t sl' rs' => ⟨ρ', δ', s', sl', rs', okS.from q l t⟩
  | rt d s' => rw [e] at q; exact q
  | bk δ' s' => rw [e] at q; exact q
  | ct δ' s' => rw [e] at q; exact q
  | ex δ' c l s' => rw [e] at q; exact q
  | bad => rw [e] at q; exact q
theorem ss_one (h : SS X W st f) : SSs X W [st] f := pss_one h
def sRet (f : DEnv → Sto → Out D) : DEnv → Sto → Res := fun δ s => (f δ s).to δ fun d s1 => .rt d s1
theorem ss_ret (h : SE X W e fa) : SS X W (.Return (some e) pos) (sRet fa) := PSweak (ps_ret h) fun Dn σ H q => by
  obtain ⟨ρ, δ, s, sl, rs, q⟩ := q
  exact bindS sl rs q fun d s1 v H1 ρ1 sl1 rs1 l1 t1 r1 q1 => q1 v H1 ρ1 (Loc.le_refl _) (TupX.refl _) rs1 r1
def sRetN : DEnv → Sto → Res := fun _ s => .rt .non s
theorem ss_retN : SS X W (.Return none pos) sRetN := PSweak ps_retN fun Dn σ H q => by
  obtain ⟨ρ, δ, s, sl, rs, q⟩ := q
  exact q .non H ρ (Loc.le_refl _) (TupX.refl _) rs RD.non
def sExpr (f : DEnv → Sto → Out D) : DEnv → Sto → Res := fun δ s => (f δ s).to δ fun _ s1 => .nx δ s1
theorem ss_expr (h : SE X W e fa) (hs : swapsWith e none pos.line X.env = pure false := by rfl) : SS X W (.Expr e pos) (sExpr fa) := PSweak (ps_expr h hs) fun Dn σ H q => by
  obtain ⟨ρ, δ, s, sl, rs, q⟩ := q
  exact bindS sl rs q fun d s1 v H1 ρ1 sl1 rs1 l1 t1 r1 q1 => q1 σ H1 ρ1 (Loc.le_refl _) (TupX.refl _) sl1 rs1
theorem ss_pass : SS X W (.Pass pos) sNil := PSweak ps_pass fun Dn σ H q => by
  obtain ⟨ρ, δ, s, sl, rs, q⟩ := q
  exact q σ H ρ (Loc.le_refl _) (TupX.refl _) sl rs
def sBrk : DEnv → Sto → Res := fun δ s => .bk δ s
theorem ss_break : SS X W (.Break pos) sBrk := PSweak ps_break fun Dn σ H q => by
  obtain ⟨ρ, δ, s, sl, rs, q⟩ := q
  exact q σ H ρ (Loc.le_refl _) (TupX.refl _) sl rs
def sCnt : DEnv → Sto → Res := fun δ s => .ct δ s
theorem ss_continue : SS X W (.Continue pos) sCnt := PSweak ps_continue fun Dn σ H q => by
  obtain ⟨ρ, δ, s, sl, rs, q⟩ := q
  exact q σ H ρ (Loc.le_refl _) (TupX.refl _) sl rs
theorem ss_doc {x j pos'} : SS X W (.Expr (.Constant (.str x) j pos) pos') sNil := PSweak ps_doc fun Dn σ H q => by
  obtain ⟨ρ, δ, s, sl, rs, q⟩ := q
  exact q σ H ρ (Loc.le_refl _) (TupX.refl _) sl rs
/-- code that is never come to -/
def sNo : DEnv → Sto → Res := fun _ _ => .bad
theorem ss_no : SS X W st sNo := PSweak ps_never fun Dn σ H q => by
  obtain ⟨ρ, δ, s, sl, rs, q⟩ := q
  exact q
theorem sss_no : SSs X W rest sNo := PSsweak pss_never fun Dn σ H q => by
  obtain ⟨ρ, δ, s, sl, rs, q⟩ := q
  exact q
def sIf (c : DEnv → Sto → Out Bool) (f g : DEnv → Sto → Res) : DEnv → Sto → Res := fun δ s => (c δ s).to δ fun b s1 => if b = true then f δ s1 else g δ s1
theorem ss_if {c : Expr} {cc : DEnv → Sto → Out Bool} {sa sb : List Stmt} (hc : ST X W c cc) (ha : SSs X W sa f) (hb : SSs X W sb g) : SS X W (.If c sa sb pos) (sIf cc f g) := PSweak (ps_if hc ha hb) fun Dn σ H q => by
  obtain ⟨ρ, δ, s, sl, rs, q⟩ := q
  refine bindS sl rs q fun d s1 v H1 ρ1 sl1 rs1 l1 t1 r1 q1 => ?_
  cases r1
  cases d with
  | true => rw [if_pos rfl]; exact ⟨ρ1, δ, s1, sl1, rs1, q1⟩
  | false => rw [if_neg Bool.false_ne_true]; exact ⟨ρ1, δ, s1, sl1, rs1, q1⟩
/-- name = e -/
def sSet (i : Nat) (f : DEnv → Sto → Out D) : DEnv → Sto → Res := fun δ s => (f δ s).to δ fun d s1 => .nx (δ.set i (some d)) s1
theorem asg_of {i : Nat} {K : PySem.W.Frag} {Dn : Ends} {σ : L2.St} {H : Hp} (q : tS K W (sSet i fa) Dn σ H) : tAsg (tE K W fa) (gName i) Dn σ H := by
  obtain ⟨ρ, δ, s, sl, rs, q⟩ := q
  exact bindS sl rs q fun d s1 v H1 ρ1 sl1 rs1 l1 t1 r1 q1 => q1 (σ.set i (some v)) H1 ρ1 (Loc.le_refl _) (TupX.refl _) (sl1.set r1 i) rs1
theorem ss_set (i : Nat) {x : Str} {pos' : Pos} (hN : X.N.Nodup) (he : SE X W e fa) (hi : X.N[i]? = some x := by rfl) (hx : L2.Loc X.env.scope x := by first | exact .inl rfl | exact .inr rfl) (hs : swapsWith e (some (.Name x pos')) pos.line X.env = pure false := by rfl)
    (hf : X.fn x = true ∨ X.env.scope.names.lookup x = some .local := by first | exact .inl rfl | exact .inr rfl | assumption) : SS X W (.Assign [.Name x pos'] e pos) (sSet i fa) := PSweak (ps_set hN hi hx he hs hf) fun _ _ _ q => asg_of q
/-- name op= e -/
def sAug (i : Nat) (op : D → D → Sto → Out D) (f : DEnv → Sto → Out D) : DEnv → Sto → Res := fun δ s => (eVar i δ s).to δ fun x _ => (f δ s).to δ fun y s1 => (op x y s1).to δ fun z s2 => .nx (δ.set i (some z)) s2
theorem ss_aug (i : Nat) {x : Str} {o : Operator} {op : D → D → Sto → Out D} {pos' : Pos} (hN : X.N.Nodup) (ho : OpS X W (inplaceOp o) op) (he : SE X W e fa) (hi : X.N[i]? = some x := by rfl) (hx : L2.Loc X.env.scope x := by first | exact .inl rfl | exact .inr rfl)
    (hf : X.fn x = true ∨ X.env.scope.names.lookup x = some .local := by first | exact .inl rfl | exact .inr rfl | assumption) : SS X W (.AugAssign (.Name x pos') o e pos) (sAug i op fa) := PSweak (ps_aug hN hi hx he ho hf) fun Dn σ H q => by
  obtain ⟨ρ, δ, s, sl, rs, q⟩ := q
  unfold sAug eVar at q
  cases ed : δ[i]? with
  | none => rw [ed] at q; exact q.elim
  | some od =>
    cases od with
    | none => rw [ed] at q; exact q.elim
    | some d =>
      rw [ed] at q
      obtain ⟨v, ev, r⟩ := sl.2 i d ed
      refine ⟨v, ev, bindS (f := fa) sl rs q fun y s1 w H1 ρ1 sl1 rs1 l1 t1 r1 q1 => ?_⟩
      refine ⟨σ, ρ1, s1, d, y, rs1, r.mono l1 t1, r1, ?_⟩
      cases eo : op d y s1 with
      | ok z s2 =>
        rw [eo] at q1
        exact fun u H2 ρ2 l2 t2 rs2 r2 => q1 (σ.set i (some u)) H2 ρ2 l2 t2 ((sl1.mono l2 t2).set r2 i) rs2
      | exc c l s2 =>
        rw [eo] at q1
        exact fun dx H' ρ' vs l t rs' hx hk => q1 σ dx H' ρ' vs l t (sl1.mono l t) rs' hx hk
      | bad => rw [eo] at q1; exact q1

/-! ### targets: names and tuples of targets -/
inductive Pat where
  | nm (i : Nat) | tp (ps : List Pat)
mutual
def pm : Pat → D → Option (List (Nat × D))
  | .nm i, d => some [(i, d)]
  | .tp ps, .tup l => pms ps l
  | .tp _, _ => none
def pms : List Pat → List D → Option (List (Nat × D))
  | [], [] => some []
  | p :: ps, d :: ds => match pm p d, pms ps ds with
    | some x, some y => some (x ++ y)
    | _, _ => none
  | _, _ => none
end
mutual
def psl : Pat → List Nat
  | .nm i => [i]
  | .tp ps => psls ps
def psls : List Pat → List Nat
  | [] => []
  | p :: ps => psl p ++ psls ps
end
def setAll {α : Type} : List (Option α) → List (Nat × α) → List (Option α)
  | l, [] => l
  | l, (i, d) :: r => setAll (l.set i (some d)) r
theorem setAll_app {α : Type} (r' : List (Nat × α)) : ∀ (l : List (Option α)) (r : List (Nat × α)), setAll l (r ++ r') = setAll (setAll l r) r'
  | _, [] => rfl
  | l, (i, d) :: r => setAll_app r' (l.set i (some d)) r
theorem Sl.setAll {K : PySem.W.Frag} {H : Hp} {ρ : Loc} : ∀ {l : List (Nat × D)} {vs : List (Nat × V)} {δ : DEnv} {σ : L2.St}, Sl K H ρ δ σ → vs.map (·.1) = l.map (·.1) → RDs K H ρ (l.map (·.2)) (vs.map (·.2)) → Sl K H ρ (DL.setAll δ l) (DL.setAll σ vs)
  | [], vs, _, _, sl, h1, _ => by
    cases vs with
    | nil => exact sl
    | cons _ _ => cases h1
  | (i, d) :: l, vs, _, _, sl, h1, h2 => by
    cases vs with
    | nil => cases h1
    | cons v vs =>
      obtain ⟨j, v⟩ := v
      simp only [List.map_cons, List.cons.injEq] at h1
      obtain ⟨e, h1⟩ := h1
      subst e
      simp only [List.map_cons] at h2
      unfold RDs at h2
      obtain ⟨u, r, e, r1, r2⟩ := h2
      cases e
      have q := Sl.setAll (sl.set r1 j) h1 r2
      exact q
mutual
theorem pm_slots : ∀ (p : Pat) (d : D) (l : List (Nat × D)), pm p d = some l → l.map (·.1) = psl p
  | .nm i, d, l, h => by
    have h : some [(i, d)] = some l := by unfold pm at h; exact h
    cases h
    rfl
  | .tp ps, .tup ds, l, h => by unfold pm at h; unfold psl; exact pms_slots ps ds l h
  | .tp _, .non, _, h => by unfold pm at h; cases h
  | .tp _, .bl _, _, h => by unfold pm at h; cases h
  | .tp _, .int _, _, h => by unfold pm at h; cases h
  | .tp _, .str _, _, h => by unfold pm at h; cases h
  | .tp _, .obj _, _, h => by unfold pm at h; cases h
  | .tp _, .rng _, _, h => by unfold pm at h; cases h
  | .tp _, .adr _, _, h => by unfold pm at h; cases h
  | .tp _, .typ _, _, h => by unfold pm at h; cases h
  | .tp _, .kls _, _, h => by unfold pm at h; cases h
theorem pms_slots : ∀ (p : List Pat) (d : List D) (l : List (Nat × D)), pms p d = some l → l.map (·.1) = psls p
  | [], [], l, h => by unfold pms at h; cases h; rfl
  | [], _ :: _, _, h => by unfold pms at h; cases h
  | _ :: _, [], _, h => by unfold pms at h; cases h
  | p :: ps, d :: ds, l, h => by
    unfold pms at h
    split at h
    · rename_i x y e1 e2
      cases h
      unfold psls
      rw [List.map_append, pm_slots p d x e1, pms_slots ps ds y e2]
    · cases h
end
def tPat (K : PySem.W.Frag) (p : Pat) : TG := fun v σ H Q => ∃ ρ d l, RD K H ρ d v ∧ pm p d = some l ∧ ∀ vs : List (Nat × V), vs.map (·.1) = l.map (·.1) → RDs K H ρ (l.map (·.2)) (vs.map (·.2)) → Q (setAll σ vs) H
def tPats (K : PySem.W.Frag) (p : List Pat) : TGs := fun v σ H Q => ∃ ρ d l, RDs K H ρ d v ∧ pms p d = some l ∧ ∀ vs : List (Nat × V), vs.map (·.1) = l.map (·.1) → RDs K H ρ (l.map (·.2)) (vs.map (·.2)) → Q (setAll σ vs) H
abbrev SP (X : Cx) (e : Expr) (p : Pat) : Prop := PG X e (tPat X.K p)
abbrev SPs (X : Cx) (e : List Expr) (p : List Pat) : Prop := PGs X e (tPats X.K p)
theorem PGweak {X : Cx} {e : Expr} {t t' : TG} (h : PG X e t) (w : ∀ v σ H Q, t' v σ H Q → t v σ H Q) : PG X e t' := ⟨fun pins s σ H v u Q I r q => h.run pins s σ H v u Q I r (w _ _ _ _ q)⟩
theorem PGsweak {X : Cx} {e : List Expr} {t t' : TGs} (h : PGs X e t) (w : ∀ v σ H Q, t' v σ H Q → t v σ H Q) : PGs X e t' := ⟨fun pins s σ H v u Q I r q => h.run pins s σ H v u Q I r (w _ _ _ _ q)⟩
theorem sp_nm (i : Nat) {x : Str} (hN : X.N.Nodup) (hi : X.N[i]? = some x := by rfl) (hx : L2.Loc X.env.scope x := by first | exact .inl rfl | exact .inr rfl) (hf : X.fn x = true ∨ X.env.scope.names.lookup x = some .local := by first | exact .inl rfl | exact .inr rfl | assumption) : SP X (.Name x pos) (.nm i) :=
  PGweak (pg_name hN hi hx hf) fun v σ H Q q => by
    obtain ⟨ρ, d, l, r, e, q⟩ := q
    have e : some [(i, d)] = some l := by unfold pm at e; exact e
    cases e
    exact q [(i, v)] rfl (RDs.cons r RDs.nil)
theorem sps_nil : SPs X [] [] := PGsweak pgs_nil fun v σ H Q q => by
  obtain ⟨ρ, d, l, r, e, q⟩ := q
  cases d with
  | nil =>
    unfold RDs at r
    unfold pms at e
    cases e
    exact ⟨r, q [] rfl RDs.nil⟩
  | cons _ _ => unfold pms at e; cases e
theorem sps_cons {p : Pat} {ps : List Pat} (h : SP X e p) (hs : SPs X es ps) (h2 : (assignEach (e :: es) X.env).map (·.2) = assign e X.env :: (assignEach es X.env).map (·.2) := by rfl) : SPs X (e :: es) (p :: ps) := PGsweak (pgs_cons h hs h2) fun v σ H Q q => by
  obtain ⟨ρ, d, l, r, e, q⟩ := q
  cases d with
  | nil => unfold pms at e; cases e
  | cons d ds =>
    unfold RDs at r
    obtain ⟨v, vs, rfl, r1, r2⟩ := r
    unfold pms at e
    split at e
    · rename_i x y e1 e2
      cases e
      refine ⟨v, vs, rfl, ρ, d, x, r1, e1, fun ws h1 h2 => ⟨ρ, ds, y, r2, e2, fun us h3 h4 => ?_⟩⟩
      rw [← setAll_app]
      exact q (ws ++ us) (by rw [List.map_append, List.map_append, h1, h3]) (by rw [List.map_append, List.map_append]; exact h2.app h4)
    · cases e
theorem pms_len : ∀ {ps : List Pat} {ds : List D} {l : List (Nat × D)}, pms ps ds = some l → ds.length = ps.length
  | [], [], _, _ => rfl
  | [], _ :: _, _, h => by unfold pms at h; cases h
  | _ :: _, [], _, h => by unfold pms at h; cases h
  | p :: ps, d :: ds, l, h => by
    unfold pms at h
    split at h
    · rename_i x y e1 e2
      simp [pms_len e2]
    · cases h
theorem sp_tp {k : Nat} {ps : List Pat} (hc : X.calm = true) (h : SPs X es ps) (hn : (assignEach es X.env).length = ps.length := by rfl) (hst : (assignEach es X.env).findIdx? (·.1) = none := by rfl) : SP X (.Tuple es k pos) (.tp ps) :=
  PGweak (pg_tup hc h hn hst) fun v σ H Q q => by
    obtain ⟨ρ, d, l, r, e, q⟩ := q
    cases d with
    | tup ds =>
      obtain ⟨p, vs, rfl, hq, z⟩ := RD.tup_of r
      unfold pm at e
      exact ⟨p, vs, rfl, hq, by rw [z.length, pms_len e], ρ, ds, l, z, e, q⟩
    | _ => unfold pm at e; cases e
/-- pattern = e -/
def sPat (p : Pat) (f : DEnv → Sto → Out D) : DEnv → Sto → Res := fun δ s => (f δ s).to δ fun d s1 => match pm p d with
  | some l => .nx (setAll δ l) s1
  | none => .bad
theorem ss_pat {tg : Expr} {p : Pat} (hg : SP X tg p) (he : SE X W e fa) (hs : swapsWithSole [tg] e pos.line X.env = pure false := by rfl) (hw : swappedStores [tg] e X.env = pure none := by rfl)
    (h1 : (assignEach [tg] X.env).map (·.2) = [assign tg X.env] := by rfl) : SS X W (.Assign [tg] e pos) (sPat p fa) := PSweak (ps_asg he hg hs hw h1) fun Dn σ H q => by
  obtain ⟨ρ, δ, s, sl, rs, q⟩ := q
  refine bindS sl rs q fun d s1 v H1 ρ1 sl1 rs1 l1 t1 r1 q1 => ?_
  split at q1
  · rename_i l e
    exact ⟨ρ1, d, l, r1, e, fun vs h1 h2 => q1 _ H1 ρ1 (Loc.le_refl _) (TupX.refl _) (sl1.setAll h1 h2) rs1⟩
  · exact q1.elim
/-- a, b = x, y with plain names -/
def sPar (i j : Nat) (f g : DEnv → Sto → Out D) : DEnv → Sto → Res := fun δ s => (f δ s).to δ fun x s1 => (g δ s1).to δ fun y s2 => .nx ((δ.set i (some x)).set j (some y)) s2
theorem ss_par (i j : Nat) {x y : Str} {px py pt : Pos} {kt k2 pt2} (hc : X.calm = true) (hN : X.N.Nodup) (ha : SE X W a fa) (hb : SE X W b fb)
    (hi : X.N[i]? = some x := by rfl) (hj : X.N[j]? = some y := by rfl) (hij : i ≠ j := by decide) (hx : X.env.scope.names.lookup x = some .local := by rfl) (hy : X.env.scope.names.lookup y = some .local := by rfl)
    (hw : swappedStores [.Tuple [.Name x px, .Name y py] kt pt] (.Tuple [a, b] k2 pt2) X.env = pure (some [x, y]) := by rfl)
    (hs : swapsWithSole [.Tuple [.Name x px, .Name y py] kt pt] (.Tuple [a, b] k2 pt2) pos.line X.env = pure false := by rfl)
    (h1 : starEach [a, b] X.env = (false, eval a X.env) :: starEach [b] X.env := by rfl) (h2 : starEach [b] X.env = (false, eval b X.env) :: starEach [] X.env := by rfl) :
    SS X W (.Assign [.Tuple [.Name x px, .Name y py] kt pt] (.Tuple [a, b] k2 pt2) pos) (sPar i j fa fb) := PSweak (ps_par hc hN hi hj hij hx hy (sa_cons ha (sa_cons hb sa_nil h2) h1) hw hs) fun Dn σ H q => by
  obtain ⟨ρ, δ, s, sl, rs, q⟩ := q
  have q : okS X.K W Dn ρ H ((aCons fa (aCons fb aNil) δ s).to δ fun ds s2 => match ds with
    | [x, y] => .nx ((δ.set i (some x)).set j (some y)) s2
    | _ => .bad) := by
    unfold sPar at q
    unfold aCons aNil
    cases e : fa δ s with
    | ok d s1 =>
      rw [e] at q
      simp only [bind_ok, to_ok] at q ⊢
      cases e2 : fb δ s1 with
      | ok d s1 =>
        rw [e2] at q
        exact q
      | exc c l s1 => rw [e2] at q; exact q
      | bad => rw [e2] at q; exact q
    | exc c l s1 => rw [e] at q; exact q
    | bad => rw [e] at q; exact q
  refine bindS sl rs q fun ds s1 vs H1 ρ1 sl1 rs1 l1 t1 r1 q1 => ?_
  match ds, r1, q1 with
  | [], _, q1 => exact q1.elim
  | [_], _, q1 => exact q1.elim
  | [d, e], r1, q1 =>
    obtain ⟨v, w, rfl, h1, h2⟩ := r1.two
    exact ⟨v, w, rfl, q1 _ H1 ρ1 (Loc.le_refl _) (TupX.refl _) ((sl1.set h1 i).set h2 j) rs1⟩
  | _ :: _ :: _ :: _, _, q1 => exact q1.elim
/-- o[i] = e, o a list of the store -/
def opSet (o i d : D) (s : Sto) : Out Unit := match o, i with
  | .obj n, .int k => match nget s.m n with
    | some (.lst l) => match ixN l.length k with
      | some j => .ok () ⟨nset s.m n (.lst (l.set j d)), s.g⟩
      | none => .bad
    | _ => .bad
  | .rng false, .int k => match s.g, d with
    | some r, .int v => if k = 1 ∧ 0 ≤ v then .ok () ⟨s.m, some { r with pos := v.toNat }⟩ else if k = 2 then .ok () ⟨s.m, some { r with carry := v }⟩ else if k = 3 then .ok () ⟨s.m, some { r with seed := v }⟩ else .bad
    | _, _ => .bad
  | _, _ => .bad
theorem RS.rng_put {K : PySem.W.Frag} {H : Hp} {ρ : Loc} {s : Sto} {r r' : Rng} {a b : Addr} (rs : RS K H ρ s) (e : s.g = some r) (eg : ρ.g = some (a, b)) (h1 : H a = some (.lst [.ref b, .int (r.pos : Nat), .int r.carry, .int r.seed])) (na : a ∉ ρ.a) (nb : b ∉ ρ.a) (ab : a ≠ b)
    (hb : Rd H b (.lst (r.cells.map V.int))) (hc : r'.cells = r.cells) : RS K (upd H a (.lst [.ref b, .int (r'.pos : Nat), .int r'.carry, .int r'.seed])) ρ ⟨s.m, some r'⟩ := by
  have t : TupX K H (upd H a (.lst [.ref b, .int (r'.pos : Nat), .int r'.carry, .int r'.seed])) := TupX.chg h1 trivial
  refine ⟨rs.len, rs.nd, fun n o p eo ep => ?_, fun g eg' => ?_, fun z => by cases z⟩
  · have ne : p ≠ a := fun z => na (z ▸ nget_mem ep)
    exact (rs.ob n o p eo ep).keep (Loc.le_refl _) t fun u q => by rw [upd_ne ne]; exact q
  · cases eg'
    exact ⟨a, b, eg, upd_same, by rw [hc]; exact rd_upd (Ne.symm ab) hb, na, nb, ab⟩
/-- what a store does: hands on the heap -/
theorem opSet_rel {K : PySem.W.Frag} {W : Wx} {H : Hp} {ρ : Loc} {s : Sto} {δ : DEnv} {Dn : Ends} {k : Unit → Sto → Res} {od idx d : D} {o i v : V} (rs : RS K H ρ s) (r1 : RD K H ρ od o) (r2 : RD K H ρ idx i) (r3 : RD K H ρ d v) (q : okS K W Dn ρ H ((opSet od idx d s).to δ k)) :
    ∃ p xs n j s', o = .ref p ∧ i = .int n ∧ H p = some (.lst xs) ∧ ixN xs.length n = some j ∧ TupX K H (upd H p (.lst (xs.set j v))) ∧ RS K (upd H p (.lst (xs.set j v))) ρ s' ∧ okS K W Dn ρ H (k () s') := by
  cases od with
  | obj n =>
    cases idx with
    | int c =>
      obtain ⟨p, rfl, ep⟩ := RD.obj_of r1
      cases RD.int_of r2
      have q : okS K W Dn ρ H (((match nget s.m n with
        | some (.lst l) => match ixN l.length c with
          | some j => .ok () ⟨nset s.m n (.lst (l.set j d)), s.g⟩
          | none => .bad
        | _ => .bad : Out Unit)).to δ k) := q
      split at q
      · rename_i l e1
        obtain ⟨vs, hv, z⟩ := rs.ob n _ p e1 ep
        split at q
        · rename_i j e2
          have t : TupX K H (upd H p (.lst (vs.set j v))) := TupX.chg hv trivial
          exact ⟨p, vs, c, j, _, rfl, rfl, hv, by rw [z.length]; exact e2, t, rs.put (u := .lst (l.set j d)) ep hv trivial ⟨_, upd_same, (z.set j r3).mono (Loc.le_refl _) t⟩, q⟩
        · exact q.elim
      · exact q.elim
    | _ => exact q.elim
  | rng b =>
    cases b with
    | true => exact q.elim
    | false =>
      cases idx with
      | int c =>
        cases RD.int_of r2
        cases d with
        | int w =>
          cases RD.int_of r3
          have q2 : okS K W Dn ρ H (((match s.g with
            | some r => if c = 1 ∧ 0 ≤ w then .ok () ⟨s.m, some { r with pos := w.toNat }⟩ else if c = 2 then .ok () ⟨s.m, some { r with carry := w }⟩ else if c = 3 then .ok () ⟨s.m, some { r with seed := w }⟩ else .bad
            | _ => .bad : Out Unit)).to δ k) := by
            cases eg : s.g with
            | none => unfold opSet at q; rw [eg] at q; exact q
            | some r => unfold opSet at q; rw [eg] at q; exact q
          split at q2
          · rename_i r er
            obtain ⟨a, b, e1, e2, h1, h2, n1, n2, n3⟩ := rs.rng er r1
            subst e1
            by_cases c1 : c = 1 ∧ 0 ≤ w
            · rw [if_pos c1] at q2
              obtain ⟨rfl, hw⟩ := c1
              have ew : ((w.toNat : Nat) : Int) = w := Int.toNat_of_nonneg hw
              have R := rs.rng_put (r' := { r with pos := w.toNat }) er e2 h1 n1 n2 n3 h2 rfl
              simp only [ew] at R
              exact ⟨a, _, 1, 1, _, rfl, rfl, h1, rfl, TupX.chg h1 trivial, R, q2⟩
            rw [if_neg c1] at q2
            by_cases c2 : c = 2
            · rw [if_pos c2] at q2
              subst c2
              exact ⟨a, _, 2, 2, _, rfl, rfl, h1, rfl, TupX.chg h1 trivial, rs.rng_put (r' := { r with carry := w }) er e2 h1 n1 n2 n3 h2 rfl, q2⟩
            rw [if_neg c2] at q2
            by_cases c3 : c = 3
            · rw [if_pos c3] at q2
              subst c3
              exact ⟨a, _, 3, 3, _, rfl, rfl, h1, rfl, TupX.chg h1 trivial, rs.rng_put (r' := { r with seed := w }) er e2 h1 n1 n2 n3 h2 rfl, q2⟩
            rw [if_neg c3] at q2
            exact q2.elim
          · exact q2.elim
        | _ => exact (show False by unfold opSet at q; cases eg : s.g <;> rw [eg] at q <;> exact q).elim
      | _ => exact q.elim
  | _ => exact q.elim
def sSub (fo fi f : DEnv → Sto → Out D) : DEnv → Sto → Res := fun δ s => (f δ s).to δ fun d s1 => (fo δ s1).to δ fun o s2 => (fi δ s2).to δ fun i s3 => (opSet o i d s3).to δ fun _ s4 => .nx δ s4
theorem ss_sub {o i : Expr} {fo fi : DEnv → Sto → Out D} {pos' : Pos} (ho : SE X W o fo) (hi : SE X W i fi) (he : SE X W e fa)
    (ha : ∀ v, assign (.Subscript o i pos') X.env v = (do
      let ov ← holding [v] (eval o X.env)
      let iv ← holding [v, ov] (eval i X.env)
      standAt pos'
      holding [v, ov, iv] (setItem ov iv v)
      release [v, ov, iv] []) := by intro _; rfl) (hs : swapsWithSole [.Subscript o i pos'] e pos.line X.env = pure false := by rfl) (hw : swappedStores [.Subscript o i pos'] e X.env = pure none := by rfl)
    (h1 : (assignEach [.Subscript o i pos'] X.env).map (·.2) = [assign (.Subscript o i pos') X.env] := by rfl) : SS X W (.Assign [.Subscript o i pos'] e pos) (sSub fo fi fa) :=
  PSweak (ps_asg he (pg_sub ho hi set_list ha) hs hw h1) fun Dn σ H q => by
    obtain ⟨ρ, δ, s, sl, rs, q⟩ := q
    refine bindS sl rs q fun d s1 v H1 ρ1 sl1 rs1 l1 t1 r1 q1 => ?_
    refine bindS (f := fo) sl1 rs1 q1 fun od s2 v2 H2 ρ2 sl2 rs2 l2 t2 r2 q2 => ?_
    refine bindS (f := fi) sl2 rs2 q2 fun idd s3 v3 H3 ρ3 sl3 rs3 l3 t3 r3 q3 => ?_
    obtain ⟨p, xs, n, j, s', rfl, rfl, hp, hj, t, R, q4⟩ := opSet_rel rs3 (r2.mono l3 t3) r3 (r1.mono (Loc.le_trans l2 l3) (t2.trans t3)) q3
    exact ⟨p, xs, n, j, rfl, rfl, hp, hj, q4 σ _ ρ3 (Loc.le_refl _) t (sl3.mono (Loc.le_refl _) t) R⟩
/-- o[i], by values, the index not below 0 -/
theorem get_list : PGet X (fun o i H Q => ∃ p xs k z, o = .ref p ∧ i = .int k ∧ 0 ≤ k ∧ k < 2 ^ 63 ∧ SqL X.K H p xs ∧ xs[k.toNat]? = some z ∧ Q z H) := by
  intro pins s σ H o i ov iv Q I r1 r2 h
  obtain ⟨p, xs, k, z, rfl, rfl, h0, h1, hq, hz, q⟩ := h
  cases r1
  obtain ⟨t, rfl⟩ := r2
  obtain ⟨its, rv, pl, _⟩ := I.list hq
  obtain ⟨u, eu, ru⟩ := rv.get hz
  exact wpAny_getItem_list pl.isList h0 h1 (by simpa using eu) ⟨z, H, I, ru, q⟩
/-- o[i] op= e -/
def opGet (o i : D) (s : Sto) : Out D := match o, i with
  | .tup _, _ => .bad
  | o, .int k => if 0 ≤ k ∧ k < 2 ^ 63 then opIx o (.int k) s else .bad
  | _, _ => .bad
def sAugS (fo fi : DEnv → Sto → Out D) (op : D → D → Sto → Out D) (f : DEnv → Sto → Out D) : DEnv → Sto → Res := fun δ s => (fo δ s).to δ fun o s1 => (fi δ s1).to δ fun i s2 => (opGet o i s2).to δ fun x s3 =>
  (f δ s3).to δ fun y s4 => (op x y s4).to δ fun z s5 => (opSet o i z s5).to δ fun _ s6 => .nx δ s6
theorem atI_nn {α : Type} {xs : List α} {k : Int} {z : α} (h0 : 0 ≤ k) (h : atI xs k = some z) : xs[k.toNat]? = some z := by
  unfold atI ixN at h
  rw [if_pos h0] at h
  split at h
  · exact h
  · cases h
theorem opIx_rel {K : PySem.W.Frag} {W : Wx} {H : Hp} {ρ : Loc} {s : Sto} {σ' : L2.St} {od : D} {o : V} {c : Int} {Q : VK} (hc : 0 ≤ c) (hne : ∀ l, od ≠ .tup l) (rs : RS K H ρ s) (r1 : RD K H ρ od o) (q : okG K W (rrD K) ρ H σ' (opIx od (.int c) s) Q) :
    ∃ p xs z, o = .ref p ∧ SqL K H p xs ∧ xs[c.toNat]? = some z ∧ Q z H := by
  cases od with
  | tup l => exact absurd rfl (hne l)
  | obj n =>
    obtain ⟨p, rfl, ep⟩ := RD.obj_of r1
    have q : okG K W (rrD K) ρ H σ' (match nget s.m n with
      | some (.lst l) => optO (atI l c) s
      | some (.fro l) => optO (atI l c) s
      | _ => .bad) Q := q
    split at q
    · rename_i l e1
      obtain ⟨vs, h1, z⟩ := rs.ob n _ p e1 ep
      obtain ⟨w, e, hq⟩ := optO_rel rs z q
      exact ⟨p, vs, w, rfl, .of h1, atI_nn hc e, hq⟩
    · rename_i l e1
      obtain ⟨vs, h1, z⟩ := rs.ob n _ p e1 ep
      obtain ⟨w, e, hq⟩ := optO_rel rs z q
      exact ⟨p, vs, w, rfl, .inl h1, atI_nn hc e, hq⟩
    · exact q.elim
  | rng k =>
    have q : okG K W (rrD K) ρ H σ' (match s.g with
      | some r => if k = true then optO ((atI r.cells c).map .int) s else if c = 0 then .ok (.rng true) s else if c = 1 then .ok (.int (r.pos : Nat)) s else if c = 2 then .ok (.int r.carry) s else if c = 3 then .ok (.int r.seed) s else .bad
      | none => .bad) Q := q
    split at q
    · rename_i r er
      obtain ⟨p, xs, z, e, h1, h2, h3⟩ := rs.rng_ix er r1 q
      exact ⟨p, xs, z, e, h1, atI_nn hc h2, h3⟩
    · exact q.elim
  | _ => exact q.elim
theorem opGet_rel {K : PySem.W.Frag} {W : Wx} {H : Hp} {ρ : Loc} {s : Sto} {σ' : L2.St} {od idx : D} {o i : V} {Q : VK} (rs : RS K H ρ s) (r1 : RD K H ρ od o) (r2 : RD K H ρ idx i) (q : okG K W (rrD K) ρ H σ' (opGet od idx s) Q) :
    ∃ p xs k z, o = .ref p ∧ i = .int k ∧ 0 ≤ k ∧ k < 2 ^ 63 ∧ SqL K H p xs ∧ xs[k.toNat]? = some z ∧ Q z H := by
  have main : ∀ c, (∀ l, od ≠ .tup l) → RD K H ρ (.int c) i → okG K W (rrD K) ρ H σ' (if 0 ≤ c ∧ c < 2 ^ 63 then opIx od (.int c) s else .bad) Q → ∃ p xs k z, o = .ref p ∧ i = .int k ∧ 0 ≤ k ∧ k < 2 ^ 63 ∧ SqL K H p xs ∧ xs[k.toNat]? = some z ∧ Q z H := by
    intro c hne r2 q
    by_cases hc : 0 ≤ c ∧ c < 2 ^ 63
    · rw [if_pos hc] at q
      obtain ⟨p, xs, z, e, h1, h2, h3⟩ := opIx_rel hc.1 hne rs r1 q
      exact ⟨p, xs, c, z, e, RD.int_of r2, hc.1, hc.2, h1, h2, h3⟩
    · rw [if_neg hc] at q
      exact q.elim
  unfold opGet at q
  split at q
  · exact q.elim
  · rename_i o' c hne
    exact main c (fun l e => hne l e) r2 q
  · exact q.elim
theorem ss_augS {o i : Expr} {fo fi : DEnv → Sto → Out D} {op : D → D → Sto → Out D} {oo : Operator} {tpos : Pos} (ho : SE X W o fo) (hi : SE X W i fi) (hop : OpS X W (inplaceOp oo) op) (he : SE X W e fa)
    (ha : ∀ ov iv new, augStore i ov iv new = (do holding [new, ov, iv] (setItem ov iv new); release [new, ov, iv] []; pure .next) := by intros; rfl) : SS X W (.AugAssign (.Subscript o i tpos) oo e pos) (sAugS fo fi op fa) :=
  PSweak (ps_augS ho hi get_list he hop set_list ha) fun Dn σ H q => by
    obtain ⟨ρ, δ, s, sl, rs, q⟩ := q
    refine bindS sl rs q fun od s1 v1 H1 ρ1 sl1 rs1 l1 t1 r1 q1 => ?_
    refine bindS (f := fi) sl1 rs1 q1 fun idx s2 v2 H2 ρ2 sl2 rs2 l2 t2 r2 q2 => ?_
    refine opGet_rel (Q := fun x H3 => tE X.K W fa σ H3 fun y H4 => rOp X.K W op x y H4 fun z H5 => rSetL v1 v2 z H5 fun H6 => Dn.nx σ H6) rs2 (r1.mono l2 t2) r2 (bindSo sl2 q2 fun x s3 v3 H3 ρ3 sl3 rs3 l3 t3 r3 q3 => ?_)
    refine bindS (f := fa) sl3 rs3 q3 fun y s4 v4 H4 ρ4 sl4 rs4 l4 t4 r4 q4 => ?_
    refine ⟨σ, ρ4, s4, x, y, rs4, r3.mono l4 t4, r4, bindSo sl4 q4 fun z s5 v5 H5 ρ5 sl5 rs5 l5 t5 r5 q5 => ?_⟩
    obtain ⟨p, xs, n, j, s', e1, e2, hp, hj, t, R, q6⟩ := opSet_rel rs5 (r1.mono (Loc.le_trans (Loc.le_trans l2 l3) (Loc.le_trans l4 l5)) ((t2.trans t3).trans (t4.trans t5))) (r2.mono (Loc.le_trans l3 (Loc.le_trans l4 l5)) (t3.trans (t4.trans t5))) r5 q5
    exact ⟨p, xs, n, j, e1, e2, hp, hj, q6 σ _ ρ5 (Loc.le_refl _) t (sl5.mono (Loc.le_refl _) t) R⟩
end
end DL

/-! The data layer, seventh part: what is walked; for, while, comprehensions. -/
namespace DL
open PySem PySem.Spec PyProof.Rows L2

/-! ### enumerate of a tuple -/
theorem draws_tuple {prog : Program} {w : World} {A : Around} (hh : A.handled = none) (it l : Addr) (hne : l ≠ it) (items : Array Value) :
    Draws prog w A it [it, l] items.size (fun i v => items[i]? = some v) (fun i h => h.IsTupleIter it l i ∧ h.IsTuple l items) where
  live := fun _ _ st => let ⟨o, ho, _⟩ := st.1; ⟨o, ho⟩
  frame := fun _ _ _ st hk => ⟨st.1.at fun o e => hk it (by simp) o e, st.2.at fun o e => hk l (by simp) o e⟩
  item := fun i s Q E hi st hQ => by
    refine RZ.nextOf_tuple_item st.1 st.2 (x := items[i]) (by simp [hi]) fun h' hit' hs' => ?_
    exact hQ _ h' s.toks (by simp [hi]) ⟨hit', st.2.extBut hs'.extBut hne⟩ hs'
  done := fun s Q E st hE => RZ.nextOf_tuple_end hh st.1 st.2 (by simp) hE
theorem meets_enumerate_newT (l : Addr) (items : Array Value) (n : Nat) (dct : Option Addr) (sl : Array (Option Value)) :
    Meets (Builtin.«enumerate.__new__» ⟨[.type "enumerate", .ref l], []⟩) (fun _ R s => s.heap.get? l = some { cls := .type "tuple", dict := dct, data := .seq items n, slots := sl } ∧
      R (.ok (.ret (.ref (s.heap.push { cls := .type "tuple_iterator", data := .fields #[.ref l, .int 0 0] }).objs.size)))
        { s with heap := (s.heap.push { cls := .type "tuple_iterator", data := .fields #[.ref l, .int 0 0] }).push { cls := .type "enumerate", data := .fields #[.none, .bool false, .ref s.heap.objs.size, rawInt 0, .none, .none] } }) :=
  .of_wp fun prog w A R s h => by
    obtain ⟨hp, g, d, tk, os⟩ := s; obtain ⟨hl, h⟩ := h
    have hsub := sub_enumerate
    have hL : Heap.IsTuple (Shared.heap ⟨hp, g, d, tk, os⟩) l items := ⟨_, hl, rfl, n, rfl⟩
    wp_walk using AutoSeq1.wpAny_loadPart' hl
    refine wpAny_stack_any fun st => wpAny_pure ?_
    split
    · rename_i c _ _ _ _ _
      cases (c == Value.type "enumerate")
      · wp_walk using AutoSeq1.wpAny_loadPart' hl, wpAny_pyIter_tuple hL
        exact ⟨_, rfl, h⟩
      · wp_walk using AutoSeq1.wpAny_loadPart' hl, wpAny_pyIter_tuple hL
        exact ⟨_, rfl, h⟩
    · wp_walk using AutoSeq1.wpAny_loadPart' hl, wpAny_pyIter_tuple hL
      exact ⟨_, rfl, h⟩
theorem call_enumerate_tuple {prog : Program} {w : World} {A : Around} {E : Value → Shared → Prop} {s : Shared} {l : Addr} {items : Array Value} {Q : Value → Shared → Prop} (hL : s.heap.IsTuple l items)
    (h : ∀ h', IsEnum h' (s.heap.objs.size + 1) s.heap.objs.size 0 .none → h'.IsTupleIter s.heap.objs.size l 0 → h'.objs.size = s.heap.objs.size + 2 →
      (∀ b o, s.heap.get? b = some o → h'.get? b = some o) → Q (.ref (s.heap.objs.size + 1)) { s with heap := h' }) :
    wpAny (model prog w) A (call (.type "enumerate") [.ref l]) Q E s := by
  obtain ⟨⟨c, dct, dt, sl⟩, hl, hc, n, hd⟩ := hL
  replace hc : c = .type "tuple" := hc
  replace hd : dt = .seq items n := hd
  subst hc hd
  refine callType_new F.called_enumerate (by decide) (F.typeCall_enumerate_1 _) (F.newCall_enumerate_1 _) (fun obj => F.args_object_init_2 obj _) F.entry_enumerate_new
    (meets_enumerate_newT l items n dct sl) ⟨hl, ?_⟩
  have hz : (s.heap.push { cls := .type "tuple_iterator", data := .fields #[.ref l, .int 0 0] }).objs.size = s.heap.objs.size + 1 := Heap.size_push ..
  show _ ∧ _
  rw [hz]
  have he : IsEnum ((s.heap.push { cls := .type "tuple_iterator", data := .fields #[.ref l, .int 0 0] }).push
      { cls := .type "enumerate", data := .fields #[.none, .bool false, .ref s.heap.objs.size, rawInt 0, .none, .none] }) (s.heap.objs.size + 1) s.heap.objs.size 0 .none := by
    have := Heap.get?_push_size (s.heap.push { cls := .type "tuple_iterator", data := .fields #[.ref l, .int 0 0] })
      (o := { cls := .type "enumerate", data := .fields #[.none, .bool false, .ref s.heap.objs.size, rawInt 0, .none, .none] }) rfl
    rw [hz] at this; exact this
  refine ⟨⟨_, he, rfl⟩, h _ he ⟨_, Heap.get?_push_of_some _ (Heap.get?_push_size _ rfl), rfl, rfl⟩ (by rw [Heap.size_push, hz]) fun b o x => Heap.get?_push_of_some _ (Heap.get?_push_of_some _ x)⟩
def IteT (K : PySem.W.Frag) (a : Addr) : It :=
  ⟨fun i H => ∃ (xs : List V) (x : V), SqT K H a xs ∧ xs[i]? = some x, fun i H v H' => ∃ T x, v = .ref T ∧ H T = none ∧ H' = upd H T (.tup [.int (i : Nat), x]) ∧ ∀ xs, SqT K H a xs → xs[i]? = some x, fun i H => ∃ xs : List V, SqT K H a xs ∧ xs.length = i⟩
theorem turn_enumT {P : Program} {w : World} {K : PySem.W.Frag} {elts : List Expr} {kk : Nat} {tpos : Pos} (a e it : Addr) :
    Turn P w K (.Tuple elts kk tpos) (IteT K a) [e, it] e (fun i h => (∃ old, IsEnum h e it ((i : Nat) : Int) old) ∧ h.IsTupleIter it a i ∧ e ≠ it ∧ e ≠ a ∧ a ≠ it) where
  mem := by simp
  obj := fun i h st b hb => by
    obtain ⟨⟨old, he⟩, ⟨o, ho, hc, hd⟩, _⟩ := st
    have e' : b = e ∨ b = it := by simpa using hb
    rcases e' with z | z
    · rw [z]; exact ⟨_, he, fun v q => nomatch q⟩
    · rw [z]; exact ⟨o, ho, fun v q => by rw [hd] at q; cases q⟩
  keep := fun i h h' st k => let ⟨⟨old, he⟩, hi, hne⟩ := st; ⟨⟨old, k e (by simp) _ he⟩, hi.at fun o q => k it (by simp) o q, hne⟩
  item := by
    intro X hP hw hK hc i pins s σ H E I hf st hg
    subst hP hw hK
    obtain ⟨⟨old, he⟩, hit, hne, hea, hai⟩ := st
    obtain ⟨xs, x, hq, hx⟩ := hg
    obtain ⟨its, rv, p, hz⟩ := I.tuple hq
    obtain ⟨u, hu, ru⟩ := rv.get hx
    have hel : e < s.heap.objs.size := Heap.lt_size he
    have hil : it < s.heap.objs.size := by obtain ⟨_, q, _⟩ := hit; exact Heap.lt_size q
    have hlt : i < its.toArray.size := by
      rw [List.size_toArray]
      exact (List.getElem?_eq_some_iff.mp hu).1
    refine wpAny_pyNext_enum_itemD (draws_tuple (A := X.A.in1) (I.ok.hd hc) it a hai its.toArray) he ⟨hit, p⟩ hlt hne (by simp [hne, hea]) fun y h' tk hy ho hit' hT hsz hk => ?_
    have ey : y = u := by
      have hu' : its.toArray[i]? = some u := by simpa using hu
      rw [hu'] at hy
      exact (Option.some.inj hy).symm
    subst ey
    refine ⟨_, rfl, wpAny_letOwnedTupleGo_enum (s := { s with heap := h', toks := tk + 1 }) ho fun h'' he' sb => ?_⟩
    have hT2 : h''.get? s.heap.objs.size = some { cls := .type "tuple", data := .seq #[.int i tk, y] } := (sb.2 _ (Nat.ne_of_gt hel)).trans hT
    have new : ObjOk X.prog X.w (upd H s.heap.objs.size (.tup [.int (i : Nat), x])) h'' s.heap.objs.size (.tup [.int (i : Nat), x]) :=
      ⟨by show 2 ≤ sizeLine; decide, [.int i tk, y], .cons ⟨_, rfl⟩ (.cons ru .nil), ⟨_, hT2, rfl, _, rfl⟩⟩
    have I1 : Inv X pins σ (upd H s.heap.objs.size (.tup [.int (i : Nat), x])) { s with heap := h'', toks := tk + 1 } :=
      I.turnedNew (ch := [e, it]) (fun b ob hb q => (sb.2 b (fun z => hb (by simp [z]))).trans (hk b ob (fun z => hb (by simp [z])) (fun z => hb (by simp [z])) q)) hf (Nat.le_refl _) new
    refine ⟨.ref s.heap.objs.size, _, I1, rfl, ⟨_, x, rfl, I.hok.fresh (Nat.le_refl _), rfl, fun ys hy => by rw [I.tuple_inj hy hq]; exact hx⟩, ⟨⟨y, ?_⟩, hit'.1.at fun o q => (sb.2 it (Ne.symm hne)).trans q, hne, hea, hai⟩, fun b hb => ?_⟩
    · have e1 : ((i + 1 : Nat) : Int) = (i : Int) + 1 := by omega
      rw [e1]; exact he'
    · have hb' : b < s.heap.objs.size := by
        have e' : b = e ∨ b = it := by simpa using hb
        rcases e' with z | z
        · rw [z]; exact hel
        · rw [z]; exact hil
      rw [upd_ne (Nat.ne_of_lt hb')]
      exact (hf b hb).1
  done := by
    intro X hP hw hK hc i pins s σ H E I hf st hg
    subst hP hw hK
    obtain ⟨⟨old, he⟩, hit, hne, hea, hai⟩ := st
    obtain ⟨xs, hq, hx⟩ := hg
    obtain ⟨its, rv, p, hz⟩ := I.tuple hq
    obtain ⟨f0, f1, f2, f3, f4, f5⟩ := hf it (by simp)
    have hl := rv.length
    have hi : i = its.toArray.size := by rw [List.size_toArray]; omega
    exact wpAny_pyNext_enum_endD (draws_tuple (A := X.A.in1) (I.ok.hd hc) it a hai its.toArray) he (by rw [← hi]; exact ⟨hit, p⟩) fun h' eb => ⟨rfl, I.turned (t' := s.toks) (fun b o hb q => eb b o hb q) f0 f1 f3 f4 f5⟩
  self := fun A i s Q E st h => let ⟨⟨_, he⟩, _⟩ := st; wpAny_pyIter_enum he h
def iEnumT (K : PySem.W.Frag) (ta : TA) : TI := fun σ H R => ta σ H fun vs H1 => ∃ a xs, vs = [.ref a] ∧ SqT K H1 a xs ∧ R (IteT K a) H1
theorem pi_enumT {X : Cx} {e : Expr} {ta : TA} {p pos tpos : Pos} {elts : List Expr} {kk : Nat} (hg : Gl X "enumerate") (hm : X.mg "enumerate" = none) (ha : PA X [e] ta) (hs : starEach [e] X.env = [(false, eval e X.env)] := by rfl) :
    PI X (.Tuple elts kk tpos) (.Call (.Name "enumerate" p) [e] [] pos) (iEnumT X.K ta) := by
  refine ⟨fun pins s σ H R I h => ?_⟩
  refine Call_ (ld_blt I hg hm boot_enumerate (PyProof.Rows.callWith_type1 (thn (ha.run pos pins s σ H _ I h) fun us s1 ⟨vs, H1, I1, r1, q1⟩ => ?_) hs rfl))
  obtain ⟨a, xs, ex, hq, q⟩ := q1
  subst ex
  cases r1 with
  | cons r rr =>
    cases rr
    cases r
    obtain ⟨its, rv, p', hz⟩ := I1.tuple hq
    have hal : a < s1.heap.objs.size := by obtain ⟨_, q, _⟩ := p'; exact Heap.lt_size q
    refine call_enumerate_tuple p' fun h' he hit hsz hk => wpAny_pyIter_enum he ?_
    have I2 : Inv X pins σ H1 { s1 with heap := h' } := I1.kept (t' := s1.toks) hk
    refine ⟨s1.heap.objs.size + 1, [s1.heap.objs.size + 1, s1.heap.objs.size], _, _, H1, rfl, I2, turn_enumT a (s1.heap.objs.size + 1) s1.heap.objs.size,
      ⟨⟨.none, he⟩, hit, Nat.succ_ne_self _, Nat.ne_of_gt (Nat.lt_succ_of_lt hal), Nat.ne_of_lt hal⟩, fun b hb => ?_, q⟩
    have e' : b = s1.heap.objs.size + 1 ∨ b = s1.heap.objs.size := by simpa using hb
    have hle : s1.heap.objs.size ≤ b := by
      rcases e' with z | z
      · rw [z]; exact Nat.le_add_right _ _
      · rw [z]; exact Nat.le_refl _
    exact I1.fpOk hle (I1.hok.fresh hle)
theorem walk_enumT {K : PySem.W.Frag} {a : Addr} {xs : List V} : Walk (IteT K a) xs.length (fun H => SqT K H a xs) (YPair (fun i => some (.int (i : Nat))) (fun i => xs[i]?)) := by
  refine ⟨fun i _ hi q => ⟨xs, xs[i], q, by simp [hi]⟩, fun _ q => ⟨xs, q, rfl⟩, fun i H v H' _ q y => ?_⟩
  obtain ⟨T, x, h1, h2, h3, h4⟩ := y
  exact ⟨T, .int (i : Nat), x, h1, h2, h3, rfl, h4 xs q⟩

/-! ### what is walked -/
structure Src where
  items : List D
  gd : Option (Nat × MO)
def Src.ok (src : Src) (s : Sto) : Prop := match src.gd with
  | none => True
  | some (n, o) => nget s.m n = some o
def WalkS (K : PySem.W.Frag) (J : It) (src : Src) (ρ0 : Loc) (H0 : Hp) : Prop :=
  ∃ G Y, Walk J src.items.length G Y ∧ (∀ H ρ s, ρ0.le ρ → TupX K H0 H → RS K H ρ s → src.ok s → G H) ∧
    ∀ i H ρ s v H', ρ0.le ρ → TupX K H0 H → RS K H ρ s → src.ok s → i < src.items.length → Y i H v H' → ∃ d, src.items[i]? = some d ∧ Same H H' ∧ RD K H' ρ d v
abbrev rrI (K : PySem.W.Frag) : Hp → Loc → Src → It → Prop := fun H ρ src J => WalkS K J src ρ H
abbrev tI (K : PySem.W.Frag) (W : Wx) (f : DEnv → Sto → Out Src) : TI := tG K W (rrI K) f
abbrev SI (X : Cx) (W : Wx) (tg e : Expr) (f : DEnv → Sto → Out Src) : Prop := PI X tg e (tI X.K W f)
theorem PIweak {X : Cx} {tg e : Expr} {t t' : TI} (h : PI X tg e t) (w : ∀ σ H Q, t' σ H Q → t σ H Q) : PI X tg e t' := ⟨fun pins s σ H R I q => h.run pins s σ H R I (w _ _ _ q)⟩
theorem PIor {X : Cx} {tg e : Expr} {t t' : TI} (h : PI X tg e t) (h' : PI X tg e t') : PI X tg e (fun σ H R => t σ H R ∨ t' σ H R) := ⟨fun pins s σ H R I q => q.elim (fun q => h.run pins s σ H R I q) fun q => h'.run pins s σ H R I q⟩
section
variable {X : Cx} {W : Wx} {pos : Pos} {tg a b c e : Expr} {es : List Expr} {fa fb fc : DEnv → Sto → Out D}
/-- a tuple, a list -/
def srcOf (d : D) (s : Sto) : Out Src := match d with
  | .tup l => .ok ⟨l, none⟩ s
  | .obj n => match nget s.m n with
    | some (.lst l) => .ok ⟨l, some (n, .lst l)⟩ s
    | some (.fro l) => .ok ⟨l, some (n, .fro l)⟩ s
    | _ => .bad
  | .kls ns => .ok ⟨ns.map .int, none⟩ s
  | _ => .bad
def iSeq (f : DEnv → Sto → Out D) : DEnv → Sto → Out Src := fun δ s => (f δ s).bind srcOf
theorem walkS_list {K : PySem.W.Frag} {ρ : Loc} {H : Hp} {s : Sto} {n : Nat} {a : Addr} {l : List D} {o : MO} (rs : RS K H ρ s) (ho : o = .lst l ∨ o = .fro l) (ea : nget ρ.a n = some a) (e : nget s.m n = some o) : WalkS K (Itl K a) ⟨l, some (n, o)⟩ ρ H := by
  have lst : ∀ {H1 : Hp} {ρ1 : Loc} {s1 : Sto}, ρ.le ρ1 → RS K H1 ρ1 s1 → nget s1.m n = some o → ∃ vs, SqL K H1 a vs ∧ RDs K H1 ρ1 l vs := by
    intro H1 ρ1 s1 l1 r1 e1
    have q := r1.ob n o a e1 (nget_of_suffix l1.1 ea)
    rcases ho with z | z
    · subst z; obtain ⟨vs, h1, h2⟩ := q; exact ⟨vs, .of h1, h2⟩
    · subst z; obtain ⟨vs, h1, h2⟩ := q; exact ⟨vs, .inl h1, h2⟩
  refine ⟨fun H => ∃ vs, SqL K H a vs ∧ vs.length = l.length, fun i H v H' => H' = H ∧ ∀ vs, SqL K H a vs → vs[i]? = some v, ⟨fun i H hi q => ?_, fun H q => ?_, fun i H x H' hi q y => ?_⟩, fun H1 ρ1 s1 l1 t1 r1 ok => ?_, fun i H1 ρ1 s1 v H2 l1 t1 r1 ok hi y => ?_⟩
  · obtain ⟨vs, h1, h2⟩ := q
    exact ⟨vs, vs[i]'(by rw [h2]; exact hi), h1, by simp⟩
  · obtain ⟨vs, h1, h2⟩ := q
    exact ⟨vs, h1, Nat.le_of_eq h2⟩
  · exact ⟨y.1, y.2⟩
  · obtain ⟨vs, h1, h2⟩ := lst l1 r1 ok
    exact ⟨vs, h1, h2.length⟩
  · obtain ⟨rfl, y⟩ := y
    obtain ⟨vs, h1, h2⟩ := lst l1 r1 ok
    have hi' : i < l.length := hi
    obtain ⟨w, q1, q2⟩ := h2.get (List.getElem?_eq_getElem hi')
    rw [y vs h1] at q1
    cases q1
    exact ⟨l[i], List.getElem?_eq_getElem hi', Same.refl _, q2⟩
theorem walkS_kls {K : PySem.W.Frag} {ρ : Loc} {H : Hp} {a : Addr} {ns : List Int} (h : KLs K a (ns.map V.int)) : WalkS K (Itl K a) ⟨ns.map .int, none⟩ ρ H := by
  have sq : ∀ H : Hp, SqL K H a (ns.map V.int) := fun H => .inr h
  refine ⟨fun _ => True, fun i H v H' => H' = H ∧ ∀ vs, SqL K H a vs → vs[i]? = some v, ⟨fun i H hi q => ?_, fun H q => ?_, fun i H x H' hi q y => ?_⟩, fun H1 ρ1 s1 l1 t1 r1 ok => trivial, fun i H1 ρ1 s1 v H2 l1 t1 r1 ok hi y => ?_⟩
  · exact ⟨ns.map V.int, (ns.map V.int)[i]'(by simpa using hi), sq H, by simp⟩
  · exact ⟨ns.map V.int, sq H, by simp⟩
  · exact ⟨y.1, y.2⟩
  · obtain ⟨rfl, y⟩ := y
    have hi' : i < ns.length := by simpa using hi
    have e := y _ (sq _)
    rw [List.getElem?_map, List.getElem?_eq_getElem hi'] at e
    cases e
    exact ⟨.int ns[i], by simp [hi'], Same.refl _, RD.int⟩
theorem walkS_tup {K : PySem.W.Frag} {ρ : Loc} {H : Hp} {a : Addr} {l : List D} {vs : List V} (h : SqT K H a vs) (z : RDs K H ρ l vs) : WalkS K (Itt K a) ⟨l, none⟩ ρ H := by
  have w : Walk (Itt K a) vs.length (fun H => SqT K H a vs) (YAt vs) := walk_tup
  rw [z.length] at w
  refine ⟨_, _, w, fun H1 ρ1 s1 l1 t1 r1 ok => t1 _ _ h, fun i H1 ρ1 s1 v H2 l1 t1 r1 ok hi y => ?_⟩
  obtain ⟨rfl, y⟩ := y
  have hi' : i < l.length := hi
  obtain ⟨w, q1, q2⟩ := (z.mono l1 t1).get (List.getElem?_eq_getElem hi')
  rw [y] at q1
  cases q1
  exact ⟨l[i], List.getElem?_eq_getElem hi', Same.refl _, q2⟩
theorem si_seq (h : SE X W e fa) : SI X W tg e (iSeq fa) := PIweak (PIor (pi_list h) (pi_tup h)) fun σ H R q => by
  obtain ⟨ρ, δ, s, sl, rs, q⟩ := q
  have left : okG X.K W (rrD X.K) ρ H σ (fa δ s) (fun x H1 => ∃ a, x = .ref a ∧ (∃ xs, SqL X.K H1 a xs) ∧ R (Itl X.K a) H1) → iList X.K (tE X.K W fa) σ H R := fun z => ⟨ρ, δ, s, sl, rs, z⟩
  have right : okG X.K W (rrD X.K) ρ H σ (fa δ s) (fun x H1 => ∃ a, x = .ref a ∧ (∃ xs, SqT X.K H1 a xs) ∧ R (Itt X.K a) H1) → iTup X.K (tE X.K W fa) σ H R := fun z => ⟨ρ, δ, s, sl, rs, z⟩
  unfold iSeq at q
  cases e : fa δ s with
  | exc c fs s1 => rw [e] at q left; exact .inl (left q)
  | bad => rw [e] at q; exact q.elim
  | ok d s1 =>
    rw [e] at q left right
    have q : okG X.K W (rrI X.K) ρ H σ (srcOf d s1) R := q
    cases d with
    | tup l =>
      refine .inr (right fun v H1 ρ1 l1 t1 rs1 r1 => ?_)
      obtain ⟨p, vs, rfl, h1, z⟩ := RD.tup_of r1
      exact ⟨p, rfl, ⟨vs, h1⟩, q _ H1 ρ1 l1 t1 rs1 (walkS_tup h1 z)⟩
    | kls ns =>
      refine .inl (left fun v H1 ρ1 l1 t1 rs1 r1 => ?_)
      unfold RD at r1
      obtain ⟨p, rfl, hk⟩ := r1
      exact ⟨p, rfl, ⟨_, .inr hk⟩, q _ H1 ρ1 l1 t1 rs1 (walkS_kls hk)⟩
    | obj n =>
      have q : okG X.K W (rrI X.K) ρ H σ (match nget s1.m n with
        | some (.lst l) => .ok ⟨l, some (n, .lst l)⟩ s1
        | some (.fro l) => .ok ⟨l, some (n, .fro l)⟩ s1
        | _ => .bad) R := q
      refine .inl (left fun v H1 ρ1 l1 t1 rs1 r1 => ?_)
      obtain ⟨p, rfl, ep⟩ := RD.obj_of r1
      split at q
      · rename_i l e1
        obtain ⟨vs, h1, z⟩ := rs1.ob n _ p e1 ep
        exact ⟨p, rfl, ⟨vs, .of h1⟩, q _ H1 ρ1 l1 t1 rs1 (walkS_list rs1 (.inl rfl) ep e1)⟩
      · rename_i l e1
        obtain ⟨vs, h1, z⟩ := rs1.ob n _ p e1 ep
        exact ⟨p, rfl, ⟨vs, .inl h1⟩, q _ H1 ρ1 l1 t1 rs1 (walkS_list rs1 (.inr rfl) ep e1)⟩
      · exact q.elim
    | _ => exact q.elim
/-- range -/
def rgD (n : Nat) : List D := (List.range n).map fun k => .int (k : Nat)
def rgD2 (i : Int) (n : Nat) : List D := (List.range n).map fun k => .int (i + (k : Nat))
def rgDn (i : Int) (n : Nat) : List D := (List.range n).map fun k => .int (i - (k : Nat))
theorem walkS_fn {K : PySem.W.Frag} {ρ : Loc} {H : Hp} {J : It} {n : Nat} {f : Nat → Int} (w : Walk J n (fun _ => True) (YFn fun i => .int (f i))) : WalkS K J ⟨(List.range n).map fun k => .int (f k), none⟩ ρ H := by
  refine ⟨fun _ => True, YFn fun i => .int (f i), by simpa using w, fun _ _ _ _ _ _ _ => trivial, fun i H1 ρ1 s1 v H2 l1 t1 r1 ok hi y => ?_⟩
  obtain ⟨rfl, rfl⟩ := y
  have hi' : i < n := by simpa using hi
  exact ⟨.int (f i), by simp [hi'], Same.refl _, RD.int⟩
def iRg1 (f : DEnv → Sto → Out D) : DEnv → Sto → Out Src := fun δ s => (aCons f aNil δ s).bind fun ds s1 => match ds with
  | [.int j] => if -(2 ^ 62) ≤ j ∧ j < 2 ^ 62 then .ok ⟨rgD j.toNat, none⟩ s1 else .bad
  | _ => .bad
theorem si_rg1 {p : Pos} (hm : X.mg "range" = none) (h : SE X W a fa) (hg : Gl X "range" := by rfl) (hs : starEach [a] X.env = [(false, eval a X.env)] := by rfl) : SI X W tg (.Call (.Name "range" p) [a] [] pos) (iRg1 fa) :=
  PIweak (pi_range1 hg hm (sa_cons h sa_nil hs) hs) fun σ H R q => by
    obtain ⟨ρ, δ, s, sl, rs, q⟩ := q
    refine bindT sl rs q fun ds s1 vs H1 ρ1 sl1 rs1 l1 t1 r1 q1 => ?_
    split at q1
    · rename_i j
      obtain ⟨v, rfl, rd⟩ := r1.one
      cases RD.int_of rd
      by_cases z : -(2 ^ 62) ≤ j ∧ j < 2 ^ 62
      · rw [if_pos z] at q1
        have w : Walk (Itr 0 j.toNat) j.toNat (fun _ => True) (YFn fun i => .int (0 + i)) := walk_range
        have w' := walkS_fn (K := X.K) (ρ := ρ1) (H := H1) w
        simp only [Int.zero_add] at w'
        exact ⟨j, rfl, z.1, z.2, okG.done q1 rs1 w'⟩
      · rw [if_neg z] at q1
        exact q1.elim
    · exact q1.elim
def iRg2 (f g : DEnv → Sto → Out D) : DEnv → Sto → Out Src := fun δ s => (aCons f (aCons g aNil) δ s).bind fun ds s1 => match ds with
  | [.int i, .int j] => if -(2 ^ 62) ≤ i ∧ i < 2 ^ 62 ∧ -(2 ^ 62) ≤ j ∧ j < 2 ^ 62 then .ok ⟨rgD2 i (j - i).toNat, none⟩ s1 else .bad
  | _ => .bad
theorem si_rg2 {p : Pos} (hm : X.mg "range" = none) (h : SE X W a fa) (h' : SE X W b fb) (hg : Gl X "range" := by rfl) (hs : starEach [a, b] X.env = [(false, eval a X.env), (false, eval b X.env)] := by rfl) (hs2 : starEach [b] X.env = [(false, eval b X.env)] := by rfl) : SI X W tg (.Call (.Name "range" p) [a, b] [] pos) (iRg2 fa fb) :=
  PIweak (pi_range2 hg hm (sa_cons h (sa_cons h' sa_nil hs2) (by rw [hs, hs2])) hs hs2) fun σ H R q => by
    obtain ⟨ρ, δ, s, sl, rs, q⟩ := q
    refine bindT sl rs q fun ds s1 vs H1 ρ1 sl1 rs1 l1 t1 r1 q1 => ?_
    split at q1
    · rename_i i j
      rw [two_ints r1]
      by_cases z : -(2 ^ 62) ≤ i ∧ i < 2 ^ 62 ∧ -(2 ^ 62) ≤ j ∧ j < 2 ^ 62
      · rw [if_pos z] at q1
        have w : Walk (Itr i (j - i).toNat) (j - i).toNat (fun _ => True) (YFn fun k => .int (i + k)) := walk_range
        exact ⟨i, j, rfl, z, okG.done q1 rs1 (walkS_fn w)⟩
      · rw [if_neg z] at q1
        exact q1.elim
    · exact q1.elim
/-- range(i, j, -1) -/
def iRgD (f g h : DEnv → Sto → Out D) : DEnv → Sto → Out Src := fun δ s => (aCons f (aCons g (aCons h aNil)) δ s).bind fun ds s1 => match ds with
  | [.int i, .int j, .int c] => if c = -1 ∧ -(2 ^ 62) ≤ i ∧ i < 2 ^ 62 ∧ -(2 ^ 62) ≤ j ∧ j < 2 ^ 62 then .ok ⟨rgDn i (i - j).toNat, none⟩ s1 else .bad
  | _ => .bad
theorem RDs.three {K : PySem.W.Frag} {H : Hp} {ρ : Loc} {d e f : D} {vs : List V} (h : RDs K H ρ [d, e, f] vs) : ∃ v w u, vs = [v, w, u] ∧ RD K H ρ d v ∧ RD K H ρ e w ∧ RD K H ρ f u := by
  unfold RDs at h
  obtain ⟨v, r, rfl, h1, h2⟩ := h
  obtain ⟨w, u, rfl, h3, h4⟩ := h2.two
  exact ⟨v, w, u, rfl, h1, h3, h4⟩
theorem si_rgD {p : Pos} (hm : X.mg "range" = none) (h : SE X W a fa) (h' : SE X W b fb) (h'' : SE X W c fc) (hg : Gl X "range" := by rfl)
    (hs : starEach [a, b, c] X.env = (false, eval a X.env) :: starEach [b, c] X.env := by rfl) (hs2 : starEach [b, c] X.env = (false, eval b X.env) :: starEach [c] X.env := by rfl) (hs3 : starEach [c] X.env = (false, eval c X.env) :: starEach [] X.env := by rfl)
    (hpl : (backTo pos (starEach [b, c] X.env)).any (·.1) = false := by rfl) : SI X W tg (.Call (.Name "range" p) [a, b, c] [] pos) (iRgD fa fb fc) :=
  PIweak (pi_range3 hg hm (sa_cons h (sa_cons h' (sa_cons h'' sa_nil hs3) hs2) hs) hs hpl) fun σ H R q => by
    obtain ⟨ρ, δ, s, sl, rs, q⟩ := q
    refine bindT sl rs q fun ds s1 vs H1 ρ1 sl1 rs1 l1 t1 r1 q1 => ?_
    split at q1
    · rename_i i j c
      obtain ⟨v, w, u, rfl, rd1, rd2, rd3⟩ := r1.three
      cases RD.int_of rd1; cases RD.int_of rd2; cases RD.int_of rd3
      by_cases z : c = -1 ∧ -(2 ^ 62) ≤ i ∧ i < 2 ^ 62 ∧ -(2 ^ 62) ≤ j ∧ j < 2 ^ 62
      · rw [if_pos z] at q1
        obtain ⟨rfl, z1, z2, z3, z4⟩ := z
        have w : Walk (Itc i (-1) (i - j).toNat) (i - j).toNat (fun _ => True) (YFn fun k => .int (i + (k : Nat) * (-1))) := walk_rangeC
        have w' := walkS_fn (K := X.K) (ρ := ρ1) (H := H1) w
        have e : (fun k : Nat => D.int (i + (k : Int) * (-1))) = fun k : Nat => D.int (i - (k : Int)) := by
          funext k
          congr 1
          omega
        rw [e] at w'
        exact ⟨i, j, -1, _, rfl, RgC.neg z1 z2 z3 z4, okG.done q1 rs1 w'⟩
      · rw [if_neg z] at q1
        exact q1.elim
    · exact q1.elim
/-- enumerate -/
def enumD : Nat → List D → List D
  | _, [] => []
  | k, d :: ds => .tup [.int (k : Nat), d] :: enumD (k + 1) ds
theorem enumD_length : ∀ (k : Nat) (l : List D), (enumD k l).length = l.length
  | _, [] => rfl
  | k, d :: ds => by unfold enumD; simp [enumD_length (k + 1) ds]
theorem enumD_get : ∀ (k : Nat) (l : List D) (i : Nat), (enumD k l)[i]? = l[i]?.map fun d => .tup [.int ((k + i : Nat) : Int), d]
  | _, [], _ => by simp [enumD]
  | k, d :: ds, 0 => by simp [enumD]
  | k, d :: ds, i + 1 => by
    unfold enumD
    rw [List.getElem?_cons_succ, enumD_get (k + 1) ds i, List.getElem?_cons_succ, show k + 1 + i = k + (i + 1) by omega]
def iEnu (f : DEnv → Sto → Out D) : DEnv → Sto → Out Src := fun δ s => (aCons f aNil δ s).bind fun ds s1 => match ds with
  | [d] => (srcOf d s1).bind fun src s2 => .ok ⟨enumD 0 src.items, src.gd⟩ s2
  | _ => .bad
theorem walkS_pair {K : PySem.W.Frag} {ρ : Loc} {H : Hp} {J : It} {l : List D} {gd : Option (Nat × MO)} {G : Hp → Prop}
    (hg : ∀ H1 ρ1 s1, ρ.le ρ1 → TupX K H H1 → RS K H1 ρ1 s1 → Src.ok ⟨enumD 0 l, gd⟩ s1 → G H1)
    (go : ∀ i H, i < l.length → G H → J.go i H) (st : ∀ H, G H → J.stop l.length H)
    (y : ∀ i H1 ρ1 s1 v H2, ρ.le ρ1 → TupX K H H1 → RS K H1 ρ1 s1 → Src.ok ⟨enumD 0 l, gd⟩ s1 → i < l.length → G H1 → J.yld i H1 v H2 → ∃ T x, v = .ref T ∧ H1 T = none ∧ H2 = upd H1 T (.tup [.int (i : Nat), x]) ∧ ∃ d, l[i]? = some d ∧ RD K H1 ρ1 d x) :
    WalkS K J ⟨enumD 0 l, gd⟩ ρ H := by
  refine ⟨G, fun i H v H' => G H ∧ J.yld i H v H', ⟨fun i H hi => go i H (by simpa [enumD_length] using hi), fun H h => by rw [enumD_length]; exact st H h, fun i H x H' _ h y => ⟨h, y⟩⟩, hg, fun i H1 ρ1 s1 v H2 l1 t1 r1 ok hi yy => ?_⟩
  have hi' : i < l.length := by simpa [enumD_length] using hi
  obtain ⟨T, x, rfl, hT, rfl, d, ed, r⟩ := y i H1 ρ1 s1 v H2 l1 t1 r1 ok hi' yy.1 yy.2
  refine ⟨.tup [.int (i : Nat), d], by show (enumD 0 l)[i]? = _; rw [enumD_get, ed]; simp, same_new hT, RD.tupI (.of upd_same) (RDs.cons RD.int (RDs.cons (r.mono (Loc.le_refl _) (TupX.of_same (same_new hT))) RDs.nil))⟩
theorem si_enu {elts : List Expr} {kk : Nat} {p tpos : Pos} (hm : X.mg "enumerate" = none) (h : SE X W e fa) (hg : Gl X "enumerate" := by rfl) (hs : starEach [e] X.env = [(false, eval e X.env)] := by rfl) :
    SI X W (.Tuple elts kk tpos) (.Call (.Name "enumerate" p) [e] [] pos) (iEnu fa) := PIweak (PIor (pi_enum hg hm (sa_cons h sa_nil hs) hs) (pi_enumT hg hm (sa_cons h sa_nil hs) hs)) fun σ H R q => by
  obtain ⟨ρ, δ, s, sl, rs, q⟩ := q
  have left : okG X.K W (rrDs X.K) ρ H σ (aCons fa aNil δ s) (fun vs H1 => ∃ a xs, vs = [.ref a] ∧ SqL X.K H1 a xs ∧ R (Ite X.K a) H1) → iEnum X.K (tA X.K W (aCons fa aNil)) σ H R := fun z => ⟨ρ, δ, s, sl, rs, z⟩
  have right : okG X.K W (rrDs X.K) ρ H σ (aCons fa aNil δ s) (fun vs H1 => ∃ a xs, vs = [.ref a] ∧ SqT X.K H1 a xs ∧ R (IteT X.K a) H1) → iEnumT X.K (tA X.K W (aCons fa aNil)) σ H R := fun z => ⟨ρ, δ, s, sl, rs, z⟩
  unfold iEnu at q
  cases e : aCons fa aNil δ s with
  | exc c fs s1 => rw [e] at q left; exact .inl (left q)
  | bad => rw [e] at q; exact q.elim
  | ok ds s1 =>
    rw [e] at q left right
    match ds, q, left, right with
    | [], q, _, _ => exact q.elim
    | _ :: _ :: _, q, _, _ => exact q.elim
    | [d], q, left, right =>
      have q : okG X.K W (rrI X.K) ρ H σ ((srcOf d s1).bind fun src s2 => .ok ⟨enumD 0 src.items, src.gd⟩ s2) R := q
      cases d with
      | tup l =>
        have q : okG X.K W (rrI X.K) ρ H σ (.ok ⟨enumD 0 l, none⟩ s1) R := q
        refine .inr (right fun v H1 ρ1 l1 t1 rs1 r1 => ?_)
        obtain ⟨w, rfl, rw'⟩ := r1.one
        obtain ⟨p, vs, rfl, h1, z⟩ := RD.tup_of rw'
        refine ⟨p, vs, rfl, h1, q _ H1 ρ1 l1 t1 rs1 (walkS_pair (G := fun H => SqT X.K H p vs) (fun H2 ρ2 s2 l2 t2 r2 ok => t2 _ _ h1) (fun i H2 hi g => ?_) (fun H2 g => ⟨vs, g, z.length⟩) fun i H2 ρ2 s2 v H3 l2 t2 r2 ok hi g y => ?_)⟩
        · exact ⟨vs, vs[i]'(by rw [z.length]; exact hi), g, by simp⟩
        · obtain ⟨T, x, h1, h2, h3, h4⟩ := y
          obtain ⟨w, q1, q2⟩ := (z.mono l2 t2).get (List.getElem?_eq_getElem hi)
          rw [h4 vs g] at q1
          cases q1
          exact ⟨T, x, h1, h2, h3, l[i], List.getElem?_eq_getElem hi, q2⟩
      | kls ns =>
        have q : okG X.K W (rrI X.K) ρ H σ (.ok ⟨enumD 0 (ns.map D.int), none⟩ s1) R := q
        refine .inl (left fun v H1 ρ1 l1 t1 rs1 r1 => ?_)
        obtain ⟨w, rfl, rw'⟩ := r1.one
        unfold RD at rw'
        obtain ⟨p, rfl, hk⟩ := rw'
        have sq : ∀ H : Hp, SqL X.K H p (ns.map V.int) := fun H => .inr hk
        refine ⟨p, _, rfl, sq _, q _ H1 ρ1 l1 t1 rs1 (walkS_pair (G := fun H => True) (fun H2 ρ2 s2 l2 t2 r2 ok => trivial) (fun i H2 hi g => ?_) (fun H2 g => ⟨_, sq _, by simp⟩) fun i H2 ρ2 s2 v H3 l2 t2 r2 ok hi g y => ?_)⟩
        · have hi' : i < ns.length := by simpa using hi
          exact ⟨ns.map V.int, .int ns[i], sq _, by simp [hi']⟩
        · obtain ⟨T, x, h1, h2, h3, h4⟩ := y
          have hi' : i < ns.length := by simpa using hi
          have e := h4 _ (sq _)
          rw [List.getElem?_map, List.getElem?_eq_getElem hi'] at e
          cases e
          exact ⟨T, _, h1, h2, h3, .int ns[i], by simp [hi'], RD.int⟩
      | obj n =>
        have q : okG X.K W (rrI X.K) ρ H σ (((match nget s1.m n with
          | some (.lst l) => .ok ⟨l, some (n, .lst l)⟩ s1
          | some (.fro l) => .ok ⟨l, some (n, .fro l)⟩ s1
          | _ => .bad : Out Src)).bind fun src s2 => .ok ⟨enumD 0 src.items, src.gd⟩ s2) R := q
        refine .inl (left fun v H1 ρ1 l1 t1 rs1 r1 => ?_)
        obtain ⟨w, rfl, rw'⟩ := r1.one
        obtain ⟨p, rfl, ep⟩ := RD.obj_of rw'
        have main : ∀ (l : List D) (o : MO), (o = .lst l ∨ o = .fro l) → nget s1.m n = some o → okG X.K W (rrI X.K) ρ H σ (.ok ⟨enumD 0 l, some (n, o)⟩ s1) R → ∃ a xs, [V.ref p] = [.ref a] ∧ SqL X.K H1 a xs ∧ R (Ite X.K a) H1 := by
          intro l o ho e1 q
          have lst : ∀ {H2 : Hp} {ρ2 : Loc} {s2 : Sto}, ρ1.le ρ2 → RS X.K H2 ρ2 s2 → nget s2.m n = some o → ∃ vs, SqL X.K H2 p vs ∧ RDs X.K H2 ρ2 l vs := by
            intro H2 ρ2 s2 l2 r2 e2
            have q := r2.ob n o p e2 (nget_of_suffix l2.1 ep)
            rcases ho with z | z
            · subst z; obtain ⟨vs, h1, h2⟩ := q; exact ⟨vs, .of h1, h2⟩
            · subst z; obtain ⟨vs, h1, h2⟩ := q; exact ⟨vs, .inl h1, h2⟩
          obtain ⟨vs, h1, z⟩ := lst (Loc.le_refl _) rs1 e1
          refine ⟨p, vs, rfl, h1, q _ H1 ρ1 l1 t1 rs1 (walkS_pair (G := fun H => ∃ vs, SqL X.K H p vs ∧ vs.length = l.length) (fun H2 ρ2 s2 l2 t2 r2 ok => ?_) (fun i H2 hi g => ?_) (fun H2 g => ?_) fun i H2 ρ2 s2 v H3 l2 t2 r2 ok hi g y => ?_)⟩
          · obtain ⟨vs, h1, h2⟩ := lst l2 r2 ok
            exact ⟨vs, h1, h2.length⟩
          · obtain ⟨vs, h1, h2⟩ := g
            exact ⟨vs, vs[i]'(by rw [h2]; exact hi), h1, by simp⟩
          · obtain ⟨vs, h1, h2⟩ := g
            exact ⟨vs, h1, Nat.le_of_eq h2⟩
          · obtain ⟨T, x, h1, h2, h3, h4⟩ := y
            obtain ⟨vs, hv, z⟩ := lst l2 r2 ok
            obtain ⟨w, q1, q2⟩ := z.get (List.getElem?_eq_getElem hi)
            rw [h4 vs hv] at q1
            cases q1
            exact ⟨T, x, h1, h2, h3, l[i], List.getElem?_eq_getElem hi, q2⟩
        split at q
        · rename_i l e1
          exact main l _ (.inl rfl) e1 q
        · rename_i l e1
          exact main l _ (.inr rfl) e1 q
        · exact q.elim
      | _ => exact q.elim
end
end DL

/-! The data layer, eighth part: for, while, comprehensions. -/
namespace DL
open PySem PySem.Spec PyProof.Rows L2
open Classical in
noncomputable def forL (src : Src) (p : Pat) (body : DEnv → Sto → Res) : List D → DEnv → Sto → Res
  | [], δ, s => if src.ok s then .nx δ s else .bad
  | x :: xs, δ, s => if src.ok s then match pm p x with
    | some l => match body (setAll δ l) s with
      | .nx δ' s' => forL src p body xs δ' s'
      | .ct δ' s' => forL src p body xs δ' s'
      | .bk δ' s' => .nx δ' s'
      | r => r
    | none => .bad
    else .bad
noncomputable def sFor (fi : DEnv → Sto → Out Src) (p : Pat) (body : DEnv → Sto → Res) : DEnv → Sto → Res := fun δ s => (fi δ s).to δ fun src s1 => forL src p body src.items δ s1
section
variable {X : Cx} {W : Wx} {pos : Pos} {tg e : Expr} {es : List Expr} {f : DEnv → Sto → Res} {fi : DEnv → Sto → Out Src} {p : Pat}
theorem forL_ok {K : PySem.W.Frag} {Dn : Ends} {ρ : Loc} {H : Hp} {src : Src} : ∀ {xs : List D} {δ : DEnv} {s : Sto}, okS K W Dn ρ H (forL src p f xs δ s) → src.ok s
  | [], δ, s, h => by
    unfold forL at h
    split at h
    · assumption
    · exact h.elim
  | x :: xs, δ, s, h => by
    unfold forL at h
    split at h
    · assumption
    · exact h.elim
theorem drop_at {α : Type} {l : List α} {i : Nat} {x : α} (h : l[i]? = some x) : l.drop i = x :: l.drop (i + 1) := by
  obtain ⟨hi, e⟩ := List.getElem?_eq_some_iff.mp h
  rw [List.drop_eq_getElem_cons hi, e]
theorem ss_for {body : List Stmt} (hp : PassesOwn (model X.prog X.w) X.A X.env X.xe) (hc : X.calm = true) (hi : SI X W tg e fi) (hg : SP X tg p) (hb : SSs X W body f) (hs : ∀ x, foldedSetIterable e X.env x = pure x := by intro _; rfl) :
    SS X W (.For tg e body [] pos) (sFor fi p f) := PSweak (ps_for hp hc hi hg hb hs) fun Dn σ H q => by
  obtain ⟨ρ, δ, s, sl, rs, q⟩ := q
  refine bindS sl rs q fun src s1 J H1 ρ1 sl1 rs1 l1 t1 wk q1 => ?_
  obtain ⟨G, Y, w, hG, hY⟩ := wk
  refine for_it w (fun i σ2 H2 => ∃ ρ2 δ2 s2, ρ1.le ρ2 ∧ TupX X.K H1 H2 ∧ Sl X.K H2 ρ2 δ2 σ2 ∧ RS X.K H2 ρ2 s2 ∧ okS X.K W Dn ρ2 H2 (forL src p f (src.items.drop i) δ2 s2))
    ⟨ρ1, δ, s1, Loc.le_refl _, TupX.refl _, sl1, rs1, q1⟩ (fun i σ2 H2 _ pv => ?_) (fun i x σ2 H2 H3 hi pv y => ?_) fun σ2 H2 pv => ?_
  · obtain ⟨ρ2, δ2, s2, l2, t2, sl2, rs2, q2⟩ := pv
    exact hG H2 ρ2 s2 l2 t2 rs2 (forL_ok q2)
  · obtain ⟨ρ2, δ2, s2, l2, t2, sl2, rs2, q2⟩ := pv
    have ok := forL_ok q2
    obtain ⟨d, ed, sm, rd⟩ := hY i H2 ρ2 s2 x H3 l2 t2 rs2 ok hi y
    rw [drop_at ed] at q2
    unfold forL at q2
    rw [if_pos ok] at q2
    have t3 : TupX X.K H2 H3 := TupX.of_same sm
    cases ep : pm p d with
    | none => rw [ep] at q2; exact q2.elim
    | some l =>
      rw [ep] at q2
      refine ⟨ρ2, d, l, rd, ep, fun vs h1 h2 => ⟨ρ2, _, s2, (sl2.mono (Loc.le_refl _) t3).setAll h1 h2, rs2.same sm, ?_⟩⟩
      have q2 := okS.from q2 (Loc.le_refl _) t3
      have q3 : okS X.K W Dn ρ2 H3 (match f (setAll δ2 l) s2 with
        | .nx δ' s' => forL src p f (src.items.drop (i + 1)) δ' s'
        | .ct δ' s' => forL src p f (src.items.drop (i + 1)) δ' s'
        | .bk δ' s' => .nx δ' s'
        | r => r) := q2
      cases er : f (setAll δ2 l) s2 with
      | nx δ' s' => rw [er] at q3; exact fun σ' H' ρ' l' t' sl' rs' => ⟨ρ', δ', s', Loc.le_trans l2 l', (t2.trans t3).trans t', sl', rs', okS.from q3 l' t'⟩
      | ct δ' s' => rw [er] at q3; exact fun σ' H' ρ' l' t' sl' rs' => ⟨ρ', δ', s', Loc.le_trans l2 l', (t2.trans t3).trans t', sl', rs', okS.from q3 l' t'⟩
      | bk δ' s' => rw [er] at q3; exact q3
      | rt d s' => rw [er] at q3; exact q3
      | ex δ' c l s' => rw [er] at q3; exact q3
      | bad => rw [er] at q3; exact q3
  · obtain ⟨ρ2, δ2, s2, l2, t2, sl2, rs2, q2⟩ := pv
    rw [List.drop_length] at q2
    have ok := forL_ok q2
    unfold forL at q2
    rw [if_pos ok] at q2
    exact q2 σ2 H2 ρ2 (Loc.le_refl _) (TupX.refl _) sl2 rs2

/-! ### while -/
inductive WhileN (c : DEnv → Sto → Out Bool) (f : DEnv → Sto → Res) : Nat → DEnv → Sto → Res → Prop
  | stop {n δ s s1} : c δ s = .ok false s1 → WhileN c f n δ s (.nx δ s1)
  | nx {n δ s s1 δ' s' r} : c δ s = .ok true s1 → f δ s1 = .nx δ' s' → WhileN c f n δ' s' r → WhileN c f (n + 1) δ s r
  | ct {n δ s s1 δ' s' r} : c δ s = .ok true s1 → f δ s1 = .ct δ' s' → WhileN c f n δ' s' r → WhileN c f (n + 1) δ s r
  | bk {n δ s s1 δ' s'} : c δ s = .ok true s1 → f δ s1 = .bk δ' s' → WhileN c f n δ s (.nx δ' s')
  | rt {n δ s s1 d s'} : c δ s = .ok true s1 → f δ s1 = .rt d s' → WhileN c f n δ s (.rt d s')
  | ex {n δ s s1 δ' k l s'} : c δ s = .ok true s1 → f δ s1 = .ex δ' k l s' → WhileN c f n δ s (.ex δ' k l s')
  | cex {n δ s k l s'} : c δ s = .exc k l s' → WhileN c f n δ s (.ex δ k l s')
theorem WhileN.det {c : DEnv → Sto → Out Bool} {f : DEnv → Sto → Res} {n : Nat} {δ : DEnv} {s : Sto} {r : Res} (h : WhileN c f n δ s r) : ∀ {m : Nat} {r' : Res}, WhileN c f m δ s r' → r' = r := by
  induction h with
  | stop e1 =>
    intro m r' h'
    cases h' with
    | stop e => rw [e1] at e; cases e; rfl
    | nx e | ct e | bk e | rt e | ex e | cex e => rw [e1] at e; cases e
  | nx e1 e2 _ ih =>
    intro m r' h'
    cases h' with
    | stop e => rw [e1] at e; cases e
    | cex e => rw [e1] at e; cases e
    | nx e e' h2 => rw [e1] at e; cases e; rw [e2] at e'; cases e'; exact ih h2
    | ct e e' | bk e e' | rt e e' | ex e e' => rw [e1] at e; cases e; rw [e2] at e'; cases e'
  | ct e1 e2 _ ih =>
    intro m r' h'
    cases h' with
    | stop e => rw [e1] at e; cases e
    | cex e => rw [e1] at e; cases e
    | ct e e' h2 => rw [e1] at e; cases e; rw [e2] at e'; cases e'; exact ih h2
    | nx e e' | bk e e' | rt e e' | ex e e' => rw [e1] at e; cases e; rw [e2] at e'; cases e'
  | bk e1 e2 =>
    intro m r' h'
    cases h' with
    | stop e => rw [e1] at e; cases e
    | cex e => rw [e1] at e; cases e
    | bk e e' => rw [e1] at e; cases e; rw [e2] at e'; cases e'; rfl
    | nx e e' | ct e e' | rt e e' | ex e e' => rw [e1] at e; cases e; rw [e2] at e'; cases e'
  | rt e1 e2 =>
    intro m r' h'
    cases h' with
    | stop e => rw [e1] at e; cases e
    | cex e => rw [e1] at e; cases e
    | rt e e' => rw [e1] at e; cases e; rw [e2] at e'; cases e'; rfl
    | nx e e' | ct e e' | bk e e' | ex e e' => rw [e1] at e; cases e; rw [e2] at e'; cases e'
  | ex e1 e2 =>
    intro m r' h'
    cases h' with
    | stop e => rw [e1] at e; cases e
    | cex e => rw [e1] at e; cases e
    | ex e e' => rw [e1] at e; cases e; rw [e2] at e'; cases e'; rfl
    | nx e e' | ct e e' | bk e e' | rt e e' => rw [e1] at e; cases e; rw [e2] at e'; cases e'
  | cex e1 =>
    intro m r' h'
    cases h' with
    | cex e => rw [e1] at e; cases e; rfl
    | stop e | nx e | ct e | bk e | rt e | ex e => rw [e1] at e; cases e
open Classical in
noncomputable def sWhile (c : DEnv → Sto → Out Bool) (f : DEnv → Sto → Res) : DEnv → Sto → Res := fun δ s => if h : ∃ n r, WhileN c f n δ s r then h.choose_spec.choose else .bad
theorem while_of {c : DEnv → Sto → Out Bool} {f : DEnv → Sto → Res} {n : Nat} {δ : DEnv} {s : Sto} {r : Res} (h : WhileN c f n δ s r) : sWhile c f δ s = r := by
  have q : ∃ n r, WhileN c f n δ s r := ⟨n, r, h⟩
  unfold sWhile
  rw [dif_pos q]
  exact h.det q.choose_spec.choose_spec
theorem while_rel {c : DEnv → Sto → Out Bool} {f : DEnv → Sto → Res} {δ : DEnv} {s : Sto} (h : sWhile c f δ s ≠ .bad) : ∃ n, WhileN c f n δ s (sWhile c f δ s) := by
  by_cases q : ∃ n r, WhileN c f n δ s r
  · obtain ⟨n, r, w⟩ := q
    rw [while_of w]
    exact ⟨n, w⟩
  · unfold sWhile at h
    rw [dif_neg q] at h
    exact absurd rfl h
theorem ss_while {c : Expr} {cc : DEnv → Sto → Out Bool} {body : List Stmt} (hp : PassesOwn (model X.prog X.w) X.A X.env X.xe) (hc : ST X W c cc) (hb : SSs X W body f) : SS X W (.While c body [] pos) (sWhile cc f) := PSweak (ps_while hp hc hb) fun Dn σ H q => by
  obtain ⟨ρ, δ, s, sl, rs, q⟩ := q
  have nb : sWhile cc f δ s ≠ .bad := fun z => by rw [z] at q; exact q
  obtain ⟨n, w⟩ := while_rel nb
  refine ⟨fun n σ2 H2 => ∃ ρ2 δ2 s2 r, Sl X.K H2 ρ2 δ2 σ2 ∧ RS X.K H2 ρ2 s2 ∧ WhileN cc f n δ2 s2 r ∧ okS X.K W Dn ρ2 H2 r, ⟨n, ρ, δ, s, _, sl, rs, w, q⟩, fun m σ2 H2 h => ?_⟩
  obtain ⟨ρ2, δ2, s2, r, sl2, rs2, w2, q2⟩ := h
  refine ⟨ρ2, δ2, s2, sl2, rs2, ?_⟩
  cases w2 with
  | stop e1 =>
    rw [e1]
    intro b H3 ρ3 l3 t3 rs3 eb
    cases eb
    rw [if_neg Bool.false_ne_true]
    exact q2 σ2 H3 ρ3 l3 t3 (sl2.mono l3 t3) rs3
  | cex e1 =>
    rw [e1]
    exact fun dx H' ρ' vs l t rs' hx hk => q2 σ2 dx H' ρ' vs l t (sl2.mono l t) rs' hx hk
  | nx e1 e2 w3 =>
    rename_i m' s1 δ' s'
    rw [e1]
    intro b H3 ρ3 l3 t3 rs3 eb
    cases eb
    rw [if_pos rfl]
    refine ⟨fun σ4 H4 => ∃ ρ4 δ4 s4 r, Sl X.K H4 ρ4 δ4 σ4 ∧ RS X.K H4 ρ4 s4 ∧ WhileN cc f m' δ4 s4 r ∧ okS X.K W Dn ρ4 H4 r, fun σ4 H4 h => ⟨m', Nat.lt_succ_self _, h⟩, ρ3, δ2, s1, sl2.mono l3 t3, rs3, ?_⟩
    rw [e2]
    exact fun σ4 H4 ρ4 l4 t4 sl4 rs4 => ⟨ρ4, _, _, _, sl4, rs4, w3, okS.from q2 (Loc.le_trans l3 l4) (t3.trans t4)⟩
  | ct e1 e2 w3 =>
    rename_i m' s1 δ' s'
    rw [e1]
    intro b H3 ρ3 l3 t3 rs3 eb
    cases eb
    rw [if_pos rfl]
    refine ⟨fun σ4 H4 => ∃ ρ4 δ4 s4 r, Sl X.K H4 ρ4 δ4 σ4 ∧ RS X.K H4 ρ4 s4 ∧ WhileN cc f m' δ4 s4 r ∧ okS X.K W Dn ρ4 H4 r, fun σ4 H4 h => ⟨m', Nat.lt_succ_self _, h⟩, ρ3, δ2, s1, sl2.mono l3 t3, rs3, ?_⟩
    rw [e2]
    exact fun σ4 H4 ρ4 l4 t4 sl4 rs4 => ⟨ρ4, _, _, _, sl4, rs4, w3, okS.from q2 (Loc.le_trans l3 l4) (t3.trans t4)⟩
  | bk e1 e2 =>
    rename_i s1 δ' s'
    rw [e1]
    intro b H3 ρ3 l3 t3 rs3 eb
    cases eb
    rw [if_pos rfl]
    refine ⟨fun _ _ => False, fun _ _ h => h.elim, ρ3, δ2, s1, sl2.mono l3 t3, rs3, ?_⟩
    rw [e2]
    exact okS.from q2 l3 t3
  | rt e1 e2 =>
    rename_i s1 d s'
    rw [e1]
    intro b H3 ρ3 l3 t3 rs3 eb
    cases eb
    rw [if_pos rfl]
    refine ⟨fun _ _ => False, fun _ _ h => h.elim, ρ3, δ2, s1, sl2.mono l3 t3, rs3, ?_⟩
    rw [e2]
    exact okS.from q2 l3 t3
  | ex e1 e2 =>
    rename_i s1 δ' k l s'
    rw [e1]
    intro b H3 ρ3 l3 t3 rs3 eb
    cases eb
    rw [if_pos rfl]
    refine ⟨fun _ _ => False, fun _ _ h => h.elim, ρ3, δ2, s1, sl2.mono l3 t3, rs3, ?_⟩
    rw [e2]
    exact okS.from q2 l3 t3

/-! ### comprehensions -/
def wipeD (δ : DEnv) : List Nat → DEnv
  | [] => δ
  | v :: vs => (wipeD δ vs).set v none
theorem Sl.wipe {K : PySem.W.Frag} {H : Hp} {ρ : Loc} {δ : DEnv} {σ : L2.St} (h : Sl K H ρ δ σ) : ∀ vs : List Nat, Sl K H ρ (wipeD δ vs) (L2.wipe σ vs)
  | [] => h
  | v :: vs => by
    unfold wipeD L2.wipe
    exact Sl.none (Sl.wipe h vs) v _
theorem wipe_get (σ : L2.St) : ∀ (vs : List Nat) (j : Nat), (L2.wipe σ vs)[j]? = if j ∈ vs then (if j < σ.length then some none else none) else σ[j]?
  | [], j => by simp [L2.wipe]
  | v :: vs, j => by
    unfold L2.wipe
    by_cases hj : v = j
    · subst hj
      rw [if_pos List.mem_cons_self]
      by_cases hl : v < σ.length
      · rw [if_pos hl, List.getElem?_set_self (by rw [wipe_length]; exact hl)]
      · rw [if_neg hl, List.getElem?_eq_none (by rw [List.length_set, wipe_length]; omega)]
    · rw [List.getElem?_set_ne hj, wipe_get σ vs j]
      by_cases hm : j ∈ vs
      · rw [if_pos hm, if_pos (List.mem_cons_of_mem _ hm)]
      · rw [if_neg hm, if_neg (by simp [hm, Ne.symm hj])]
theorem wipe_set {σ : L2.St} {vs : List Nat} {i : Nat} {o : Option V} (hi : i ∈ vs) : L2.wipe (σ.set i o) vs = L2.wipe σ vs := by
  apply List.ext_getElem?
  intro j
  rw [wipe_get, wipe_get, List.length_set]
  by_cases hm : j ∈ vs
  · rw [if_pos hm, if_pos hm]
  · rw [if_neg hm, if_neg hm, List.getElem?_set_ne (fun e : i = j => hm (e ▸ hi))]
theorem wipe_wipe (σ : L2.St) (vs : List Nat) : L2.wipe (L2.wipe σ vs) vs = L2.wipe σ vs := by
  apply List.ext_getElem?
  intro j
  rw [wipe_get, wipe_length, wipe_get]
  by_cases hm : j ∈ vs
  · rw [if_pos hm]
    rw [if_pos hm]
  · rw [if_neg hm]
theorem wipe_setAll {vs : List Nat} : ∀ {l : List (Nat × V)} {σ : L2.St}, (∀ i ∈ l.map (·.1), i ∈ vs) → L2.wipe (setAll σ l) vs = L2.wipe σ vs
  | [], _, _ => rfl
  | (i, d) :: l, σ, h => by
    show L2.wipe (setAll (σ.set i (some d)) l) vs = _
    rw [wipe_setAll fun j hj => h j (by simp at hj ⊢; exact .inr hj), wipe_set (h i (by simp))]
theorem PTsweak {X : Cx} {e : List Expr} {t t' : TT} (h : PTs X e t) (w : ∀ σ H Q, t' σ H Q → t σ H Q) : PTs X e t' := ⟨fun pins s σ H Q I q => h.run pins s σ H Q I (w _ _ _ q)⟩
abbrev STs (X : Cx) (W : Wx) (e : List Expr) (f : DEnv → Sto → Out Bool) : Prop := PTs X e (tT X.K W f)
def cYes : DEnv → Sto → Out Bool := fun _ s => .ok true s
theorem sts_nil : STs X W [] cYes := PTsweak pts_nil fun σ H Q q => by
  obtain ⟨ρ, δ, s, sl, rs, q⟩ := q
  exact okG.done (v := true) q rs rfl
theorem sts_one {c : Expr} {cc : DEnv → Sto → Out Bool} (h : ST X W c cc) : STs X W [c] cc := pts_one h
open Classical in
noncomputable def compL (src : Src) (p : Pat) (tst : DEnv → Sto → Out Bool) (elt : DEnv → Sto → Out D) (n : Nat) (δ : DEnv) : List D → Sto → Out Unit
  | [], s => if src.ok s then .ok () s else .bad
  | x :: xs, s => if src.ok s then match pm p x with
    | some l => match tst (setAll δ l) s with
      | .ok true s1 => match elt (setAll δ l) s1 with
        | .ok d s2 => match nget s2.m n with
          | some (.lst acc) => if acc.length < lim then compL src p tst elt n δ xs ⟨nset s2.m n (.lst (acc ++ [d])), s2.g⟩ else .bad
          | _ => .bad
        | _ => .bad
      | .ok false s1 => compL src p tst elt n δ xs s1
      | _ => .bad
    | none => .bad
    else .bad
noncomputable def eComp (fi : DEnv → Sto → Out Src) (p : Pat) (tst : DEnv → Sto → Out Bool) (elt : DEnv → Sto → Out D) (vs : List Nat) : DEnv → Sto → Out D := fun δ s => (fi δ s).bind fun src s1 =>
  (compL src p tst elt s1.m.length (wipeD δ vs) src.items ⟨.lst [] :: s1.m, s1.g⟩).bind fun _ s2 => .ok (.obj s1.m.length) s2
theorem compL_ok {K : PySem.W.Frag} {ρ : Loc} {H : Hp} {σ : L2.St} {src : Src} {tst : DEnv → Sto → Out Bool} {elt : DEnv → Sto → Out D} {n : Nat} {δ : DEnv} {k : Unit → Sto → Out D} {Q : VK} : ∀ {xs : List D} {s : Sto}, okG K W (rrD K) ρ H σ ((compL src p tst elt n δ xs s).bind k) Q → src.ok s
  | [], s, h => by
    unfold compL at h
    split at h
    · assumption
    · exact h.elim
  | x :: xs, s, h => by
    unfold compL at h
    split at h
    · assumption
    · exact h.elim
abbrev W0 : Wx := fun _ _ _ _ => False
theorem lc_rel {K : PySem.W.Frag} {σ : L2.St} {H : Hp} {Q : VK} {tst : DEnv → Sto → Out Bool} {elt : DEnv → Sto → Out D} {vs : List Nat} (hv : ∀ i ∈ psl p, i ∈ vs) (q : tE K W (eComp fi p tst elt vs) σ H Q) :
    tLc (tI K W fi) (tPat K p) (tT K W0 tst) (tE K W0 elt) vs σ H Q := by
  obtain ⟨ρ, δ, s, sl, rs, q⟩ := q
  refine bindT sl rs q fun src s1 J H1 ρ1 sl1 rs1 l1 t1 wk q1 => ?_
  obtain ⟨G, Y, w, hG, hY⟩ := wk
  intro D hD
  have sm0 : Same H1 (upd H1 D (.lst [])) := same_new hD
  have rsD : RS K (upd H1 D (.lst [])) ⟨D :: ρ1.a, ρ1.g⟩ ⟨.lst [] :: s1.m, s1.g⟩ := rs1.new hD ⟨[], upd_same, RDs.nil⟩
  have leD : ρ1.le ⟨D :: ρ1.a, ρ1.g⟩ := ⟨List.suffix_cons _ _, .inr rfl⟩
  have hn : nget (⟨D :: ρ1.a, ρ1.g⟩ : Loc).a s1.m.length = some D := by rw [nget, if_pos rs1.len.symm]
  refine lc_it w (fun i H2 => ∃ ρ2 s2, Loc.le ⟨D :: ρ1.a, ρ1.g⟩ ρ2 ∧ TupX K (upd H1 D (.lst [])) H2 ∧ RS K H2 ρ2 s2 ∧ okG K W (rrD K) ρ2 H2 σ ((compL src p tst elt s1.m.length (wipeD δ vs) (src.items.drop i) s2).bind fun _ s3 => .ok (.obj s1.m.length) s3) Q)
    ⟨_, _, Loc.le_refl _, TupX.refl _, rsD, okG.from q1 leD (TupX.of_same sm0)⟩ (fun i H2 _ pv => ?_) (fun i x H2 H3 hi pv y => ?_) fun H2 pv => ?_
  · obtain ⟨ρ2, s2, l2, t2, rs2, q2⟩ := pv
    exact hG H2 ρ2 s2 (Loc.le_trans leD l2) ((TupX.of_same sm0).trans t2) rs2 (compL_ok q2)
  · obtain ⟨ρ2, s2, l2, t2, rs2, q2⟩ := pv
    have ok := compL_ok q2
    obtain ⟨d, ed, sm, rd⟩ := hY i H2 ρ2 s2 x H3 (Loc.le_trans leD l2) ((TupX.of_same sm0).trans t2) rs2 ok hi y
    rw [drop_at ed] at q2
    unfold compL at q2
    rw [if_pos ok] at q2
    have t3 : TupX K H2 H3 := TupX.of_same sm
    have slw : Sl K H3 ρ2 (wipeD δ vs) (L2.wipe σ vs) := ((sl1.wipe vs).mono leD (TupX.of_same sm0)).mono l2 (t2.trans t3)
    cases ep : pm p d with
    | none => rw [ep] at q2; exact q2.elim
    | some l =>
      rw [ep] at q2
      refine ⟨ρ2, d, l, rd, ep, fun us h1 h2 => ⟨?_, ρ2, setAll (wipeD δ vs) l, s2, slw.setAll h1 h2, rs2.same sm, ?_⟩⟩
      · rw [wipe_setAll, wipe_wipe]
        intro j hj
        rw [h1, pm_slots p d l ep] at hj
        exact hv j hj
      · have q2 := okG.from q2 (Loc.le_refl _) t3
        cases et : tst (setAll (wipeD δ vs) l) s2 with
        | exc c fs s3 => simp only [et] at q2; exact q2.elim
        | bad => simp only [et] at q2; exact q2.elim
        | ok b s3 =>
          simp only [et] at q2
          intro b' H4 ρ4 l4 t4 rs4 eb
          cases eb
          cases b with
          | false =>
            rw [if_neg Bool.false_ne_true]
            exact ⟨ρ4, s3, Loc.le_trans l2 l4, (t2.trans t3).trans t4, rs4, okG.from q2 l4 t4⟩
          | true =>
            rw [if_pos rfl]
            refine ⟨ρ4, setAll (wipeD δ vs) l, s3, (slw.setAll h1 h2).mono l4 t4, rs4, ?_⟩
            simp only at q2
            cases ee : elt (setAll (wipeD δ vs) l) s3 with
            | exc c fs s4 => simp only [ee] at q2; exact q2.elim
            | bad => simp only [ee] at q2; exact q2.elim
            | ok y s4 =>
              simp only [ee] at q2
              intro yv H5 ρ5 l5 t5 rs5 r5
              have eD : nget ρ5.a s1.m.length = some D := nget_of_suffix l5.1 (nget_of_suffix l4.1 (nget_of_suffix l2.1 hn))
              split at q2
              · rename_i acc ea
                obtain ⟨ws, hw, z⟩ := rs5.ob _ _ D ea eD
                by_cases hl : acc.length < lim
                · rw [if_pos hl] at q2
                  have t6 : TupX K H5 (upd H5 D (.lst (ws ++ [yv]))) := TupX.chg hw trivial
                  refine ⟨ws, hw, by rw [z.length]; exact Nat.lt_trans hl lim_le, ρ5, _, Loc.le_trans (Loc.le_trans l2 l4) l5, (((t2.trans t3).trans t4).trans t5).trans t6, rs5.put (u := .lst (acc ++ [y])) eD hw trivial ⟨_, upd_same, ?_⟩, okG.from q2 (Loc.le_trans l4 l5) ((t4.trans t5).trans t6)⟩
                  exact (z.app (RDs.cons r5 RDs.nil)).mono (Loc.le_refl _) t6
                · rw [if_neg hl] at q2
                  exact q2.elim
              · exact q2.elim
  · obtain ⟨ρ2, s2, l2, t2, rs2, q2⟩ := pv
    rw [List.drop_length] at q2
    have ok := compL_ok q2
    unfold compL at q2
    rw [if_pos ok] at q2
    refine okG.done (d := DL.D.obj s1.m.length) q2 rs2 ?_
    show RD K H2 ρ2 (.obj s1.m.length) (.ref D)
    unfold RD
    exact ⟨D, rfl, nget_of_suffix l2.1 hn⟩
theorem se_comp {elt : Expr} {ifs : List Expr} {scope : Scope} {own : List (Str × Nat)} {tst : DEnv → Sto → Out Bool} {fe : DEnv → Sto → Out D} (hc : X.calm = true) (hN : X.N.Nodup) (hi : SI X W tg e fi) (ok : BlkOk X.N X.env.scope scope own) (hv : ∀ i ∈ psl p, i ∈ own.map (·.2))
    (hg : ∀ (s : Shared) (H : Hp) (C : Addr) (cl : List (Str × Addr)) (fp : List Addr), SP (X.blk s H scope (compEnvC scope cl C X.env) fp) tg p) (ht : ∀ (s : Shared) (H : Hp) (C : Addr) (cl : List (Str × Addr)) (fp : List Addr), STs (X.blk s H scope (compEnvC scope cl C X.env) fp) W0 ifs tst)
    (he : ∀ (s : Shared) (H : Hp) (C : Addr) (cl : List (Str × Addr)) (fp : List Addr), SE (X.blk s H scope (compEnvC scope cl C X.env) fp) W0 elt fe) (hs : ∀ x, foldedSetIterable e X.env x = pure x := by intro _; rfl) :
    SE X W (.ListComp elt [⟨tg, e, ifs, 0⟩] scope pos) (eComp fi p tst fe (own.map (·.2))) := PEweak (pe_lc hc hN hi ok hg ht he hs) fun _ _ _ q => lc_rel hv q
theorem ss_setComp (i : Nat) {y : Str} {py spos : Pos} {elt : Expr} {ifs : List Expr} {scope : Scope} {own : List (Str × Nat)} {tst : DEnv → Sto → Out Bool} {fe : DEnv → Sto → Out D} (hc : X.calm = true) (hN : X.N.Nodup) (hi : SI X W tg e fi) (ok : BlkOk X.N X.env.scope scope own) (hv : ∀ i ∈ psl p, i ∈ own.map (·.2))
    (hg : ∀ (s : Shared) (H : Hp) (C : Addr) (cl : List (Str × Addr)) (fp : List Addr), SP (X.blk s H scope (compEnvC scope cl C X.env) fp) tg p) (ht : ∀ (s : Shared) (H : Hp) (C : Addr) (cl : List (Str × Addr)) (fp : List Addr), STs (X.blk s H scope (compEnvC scope cl C X.env) fp) W0 ifs tst)
    (he : ∀ (s : Shared) (H : Hp) (C : Addr) (cl : List (Str × Addr)) (fp : List Addr), SE (X.blk s H scope (compEnvC scope cl C X.env) fp) W0 elt fe) (hsw : swapsWith (.ListComp elt [⟨tg, e, ifs, 0⟩] scope pos) (some (.Name y py)) spos.line X.env = pure true)
    (hy : X.N[i]? = some y := by rfl) (hyl : X.env.scope.names.lookup y = some .local := by rfl) (hs : ∀ x, foldedSetIterable e X.env x = pure x := by intro _; rfl) :
    SS X W (.Assign [.Name y py] (.ListComp elt [⟨tg, e, ifs, 0⟩] scope pos) spos) (sSet i (eComp fi p tst fe (own.map (·.2)))) :=
  PSweak (ps_setLc hc hN hy hyl hsw hi ok hg ht he hs) fun Dn σ H q => by
    obtain ⟨ρ, δ, s, sl, rs, q⟩ := q
    refine lc_rel (W := W) (tst := tst) (elt := fe) (Q := fun x H1 => Dn.nx (σ.set i (some x)) H1) hv ?_
    exact bindS sl rs q fun d s1 v H1 ρ1 sl1 rs1 l1 t1 r1 q1 => q1 (σ.set i (some v)) H1 ρ1 (Loc.le_refl _) (TupX.refl _) (sl1.set r1 i) rs1
end
end DL

/-! The data layer, ninth part: defs, what they are worth, their calls. -/
namespace DL
open PySem PySem.Spec PyProof.Rows L2

mutual
/-- it speaks of objects below n alone -/
def dlt (n : Nat) : D → Bool
  | .obj k => decide (k < n)
  | .tup l => dlts n l
  | _ => true
def dlts (n : Nat) : List D → Bool
  | [] => true
  | d :: ds => dlt n d && dlts n ds
end
def mlt (n : Nat) : MO → Bool
  | .lst l => dlts n l
  | .fro l => dlts n l
  | .dic l => dlts n (l.map (·.2))
  | .dit l => dlts n (l.map (·.2))
  | .ins _ l => dlts n (l.map (·.2))
section
variable {K : PySem.W.Frag} {H : Hp} {ρ ρ' : Loc}
mutual
theorem RD.lt : ∀ {d : D} {v : V}, RD K H ρ d v → dlt ρ.a.length d = true
  | .non, _, _ => rfl
  | .bl _, _, _ => rfl
  | .int _, _, _ => rfl
  | .str _, _, _ => rfl
  | .tup l, _, h => by
    obtain ⟨a, vs, _, _, z⟩ := RD.tup_of h
    exact RDs.lt z
  | .obj n, _, h => by
    obtain ⟨a, _, e⟩ := RD.obj_of h
    exact decide_eq_true (nget_lt e)
  | .rng _, _, _ => rfl
  | .adr _, _, _ => rfl
  | .typ _, _, _ => rfl
  | .kls _, _, _ => rfl
theorem RDs.lt : ∀ {d : List D} {v : List V}, RDs K H ρ d v → dlts ρ.a.length d = true
  | [], _, _ => rfl
  | d :: ds, _, h => by
    unfold RDs at h
    obtain ⟨v, r, _, h1, h2⟩ := h
    show (dlt ρ.a.length d && dlts ρ.a.length ds) = true
    rw [RD.lt h1, RDs.lt h2]
    rfl
end
theorem RO.lt {o : MO} {a : Addr} (h : RO K H ρ o a) : mlt ρ.a.length o = true := by
  cases o with
  | lst l => obtain ⟨vs, _, h⟩ := h; exact h.lt
  | fro l => obtain ⟨vs, _, h⟩ := h; exact h.lt
  | dic l => obtain ⟨vs, _, h⟩ := h; exact h.2.lt
  | dit l => obtain ⟨vs, _, h⟩ := h; exact h.2.lt
  | ins C l => obtain ⟨dx, vs, _, h⟩ := h; exact h.2.lt
mutual
/-- fewer places -/
theorem RD.less {n : Nat} (hn : ∀ i, i < n → nget ρ.a i = nget ρ'.a i) (hg : ρ.g = ρ'.g) : ∀ {d : D} {v : V}, RD K H ρ d v → dlt n d = true → RD K H ρ' d v
  | .non, _, h, _ => by unfold RD at h ⊢; exact h
  | .bl _, _, h, _ => by unfold RD at h ⊢; exact h
  | .int _, _, h, _ => by unfold RD at h ⊢; exact h
  | .str _, _, h, _ => by unfold RD at h ⊢; exact h
  | .tup l, _, h, k => by
    obtain ⟨a, vs, e, q, z⟩ := RD.tup_of h
    subst e
    exact RD.tupI q (RDs.less hn hg z k)
  | .obj i, _, h, k => by
    obtain ⟨a, e, q⟩ := RD.obj_of h
    unfold RD
    exact ⟨a, e, by rw [← hn i (of_decide_eq_true k)]; exact q⟩
  | .rng _, _, h, _ => by unfold RD at h ⊢; rw [← hg]; exact h
  | .adr _, _, h, _ => by unfold RD at h ⊢; exact h
  | .typ _, _, h, _ => by unfold RD at h ⊢; exact h
  | .kls _, _, h, _ => by unfold RD at h ⊢; exact h
theorem RDs.less {n : Nat} (hn : ∀ i, i < n → nget ρ.a i = nget ρ'.a i) (hg : ρ.g = ρ'.g) : ∀ {d : List D} {v : List V}, RDs K H ρ d v → dlts n d = true → RDs K H ρ' d v
  | [], _, h, _ => by unfold RDs at h ⊢; exact h
  | d :: ds, _, h, k => by
    unfold RDs at h ⊢
    obtain ⟨v, r, e, h1, h2⟩ := h
    have k : (dlt n d && dlts n ds) = true := k
    rw [Bool.and_eq_true] at k
    exact ⟨v, r, e, RD.less hn hg h1 k.1, RDs.less hn hg h2 k.2⟩
end
theorem RO.less {n : Nat} {o : MO} {a : Addr} (hn : ∀ i, i < n → nget ρ.a i = nget ρ'.a i) (hg : ρ.g = ρ'.g) (h : RO K H ρ o a) (k : mlt n o = true) : RO K H ρ' o a := by
  cases o with
  | lst l => obtain ⟨vs, e, h⟩ := h; exact ⟨vs, e, h.less hn hg k⟩
  | fro l => obtain ⟨vs, e, h⟩ := h; exact ⟨vs, e, h.less hn hg k⟩
  | dic l => obtain ⟨vs, e, h⟩ := h; exact ⟨vs, e, h.1, h.2.less hn hg k⟩
  | dit l => obtain ⟨vs, e, h⟩ := h; exact ⟨vs, e, h.1, h.2.less hn hg k⟩
  | ins C l => obtain ⟨dx, vs, e, h⟩ := h; exact ⟨dx, vs, e, h.1, h.2.less hn hg k⟩

mutual
/-- fewer places, the old ones without a drawing list -/
theorem RD.lessg {n : Nat} (hn : ∀ i, i < n → nget ρ.a i = nget ρ'.a i) (hg : ρ.g = none) : ∀ {d : D} {v : V}, RD K H ρ d v → dlt n d = true → RD K H ρ' d v
  | .non, _, h, _ => by unfold RD at h ⊢; exact h
  | .bl _, _, h, _ => by unfold RD at h ⊢; exact h
  | .int _, _, h, _ => by unfold RD at h ⊢; exact h
  | .str _, _, h, _ => by unfold RD at h ⊢; exact h
  | .tup l, _, h, k => by
    obtain ⟨a, vs, e, q, z⟩ := RD.tup_of h
    subst e
    exact RD.tupI q (RDs.lessg hn hg z k)
  | .obj i, _, h, k => by
    obtain ⟨a, e, q⟩ := RD.obj_of h
    unfold RD
    exact ⟨a, e, by rw [← hn i (of_decide_eq_true k)]; exact q⟩
  | .rng _, _, h, _ => by unfold RD at h; obtain ⟨a, b, _, z⟩ := h; rw [hg] at z; cases z
  | .adr _, _, h, _ => by unfold RD at h ⊢; exact h
  | .typ _, _, h, _ => by unfold RD at h ⊢; exact h
  | .kls _, _, h, _ => by unfold RD at h ⊢; exact h
theorem RDs.lessg {n : Nat} (hn : ∀ i, i < n → nget ρ.a i = nget ρ'.a i) (hg : ρ.g = none) : ∀ {d : List D} {v : List V}, RDs K H ρ d v → dlts n d = true → RDs K H ρ' d v
  | [], _, h, _ => by unfold RDs at h ⊢; exact h
  | d :: ds, _, h, k => by
    unfold RDs at h ⊢
    obtain ⟨v, r, e, h1, h2⟩ := h
    have k : (dlt n d && dlts n ds) = true := k
    rw [Bool.and_eq_true] at k
    exact ⟨v, r, e, RD.lessg hn hg h1 k.1, RDs.lessg hn hg h2 k.2⟩
end
theorem RO.lessg {n : Nat} {o : MO} {a : Addr} (hn : ∀ i, i < n → nget ρ.a i = nget ρ'.a i) (hg : ρ.g = none) (h : RO K H ρ o a) (k : mlt n o = true) : RO K H ρ' o a := by
  cases o with
  | lst l => obtain ⟨vs, e, h⟩ := h; exact ⟨vs, e, h.lessg hn hg k⟩
  | fro l => obtain ⟨vs, e, h⟩ := h; exact ⟨vs, e, h.lessg hn hg k⟩
  | dic l => obtain ⟨vs, e, h⟩ := h; exact ⟨vs, e, h.1, h.2.lessg hn hg k⟩
  | dit l => obtain ⟨vs, e, h⟩ := h; exact ⟨vs, e, h.1, h.2.lessg hn hg k⟩
  | ins C l => obtain ⟨dx, vs, e, h⟩ := h; exact ⟨dx, vs, e, h.1, h.2.lessg hn hg k⟩
end
/-- the newest objects are nobody's: they may be forgotten -/
def cleanOk (s0 : Sto) (d : D) (s1 : Sto) : Prop := ∃ ex m, s1.m = ex ++ m ∧ m.length = s0.m.length ∧ dlt m.length d = true ∧ (∀ o ∈ m, o ∈ s0.m ∨ mlt m.length o = true)
/-- of the newest objects one is handed back, which knows none of the others: it alone is kept -/
def cleanOne (s0 : Sto) (d : D) (s1 : Sto) (o : MO) : Prop := ∃ n, d = .obj n ∧ s0.m.length ≤ n ∧ nget s1.m n = some o ∧ mlt s0.m.length o = true ∧ ∃ ex m, s1.m = ex ++ m ∧ m.length = s0.m.length ∧ (∀ o ∈ m, o ∈ s0.m ∨ mlt m.length o = true)
open Classical in
noncomputable def clean (s0 : Sto) (r : Out D) : Out D := match r with
  | .ok d s1 => if cleanOk s0 d s1 then .ok d ⟨s1.m.drop (s1.m.length - s0.m.length), s1.g⟩ else if h : ∃ o, cleanOne s0 d s1 o then .ok (.obj s0.m.length) ⟨h.choose :: s1.m.drop (s1.m.length - s0.m.length), s1.g⟩ else .ok d s1
  | r => r
theorem clean_same {s0 : Sto} {d : D} {ex : List MO} {g : Option Rng} (h : dlt s0.m.length d = true) : clean s0 (.ok d ⟨ex ++ s0.m, g⟩) = .ok d ⟨s0.m, g⟩ := by
  have q : cleanOk s0 d ⟨ex ++ s0.m, g⟩ := ⟨ex, s0.m, rfl, rfl, h, fun _ h => .inl h⟩
  unfold clean
  simp only [if_pos q]
  congr 2
  rw [List.length_append, Nat.add_sub_cancel, List.drop_left]
theorem clean_wf {s0 : Sto} {d : D} {ex m : List MO} {g : Option Rng} (hl : m.length = s0.m.length) (h : dlt m.length d = true) (hm : ∀ o ∈ m, o ∈ s0.m ∨ mlt m.length o = true) : clean s0 (.ok d ⟨ex ++ m, g⟩) = .ok d ⟨m, g⟩ := by
  have q : cleanOk s0 d ⟨ex ++ m, g⟩ := ⟨ex, m, rfl, hl, h, hm⟩
  unfold clean
  simp only [if_pos q]
  congr 2
  rw [List.length_append, ← hl, Nat.add_sub_cancel, List.drop_left]
theorem cleanOk_lt {s0 s1 : Sto} {n : Nat} (q : cleanOk s0 (.obj n) s1) : n < s0.m.length := by
  obtain ⟨ex, m, e1, e2, e3, _⟩ := q
  have e3 : decide (n < m.length) = true := e3
  have := of_decide_eq_true e3
  omega
theorem cleanOne_uniq {s0 s1 : Sto} {d : D} {o o' : MO} (h : cleanOne s0 d s1 o) (h' : cleanOne s0 d s1 o') : o = o' := by
  obtain ⟨n, rfl, _, e, _⟩ := h
  obtain ⟨n', e1, _, e', _⟩ := h'
  cases e1
  rw [e] at e'
  exact Option.some.inj e'
theorem clean_one' {s0 s1 : Sto} {n : Nat} {o : MO} (h : cleanOne s0 (.obj n) s1 o) : clean s0 (.ok (.obj n) s1) = .ok (.obj s0.m.length) ⟨o :: s1.m.drop (s1.m.length - s0.m.length), s1.g⟩ := by
  have hn : s0.m.length ≤ n := by obtain ⟨n', e, hn, _⟩ := h; cases e; exact hn
  have q : ¬ cleanOk s0 (.obj n) s1 := fun q => by have := cleanOk_lt q; omega
  have ex : ∃ o, cleanOne s0 (.obj n) s1 o := ⟨o, h⟩
  unfold clean
  simp only [if_neg q, dif_pos ex]
  rw [cleanOne_uniq ex.choose_spec h]
/-- the object that is handed back alone is kept -/
theorem clean_one {s0 : Sto} {n : Nat} {o : MO} {ex : List MO} {g : Option Rng} (hn : s0.m.length ≤ n) (e : nget (ex ++ s0.m) n = some o) (h : mlt s0.m.length o = true) : clean s0 (.ok (.obj n) ⟨ex ++ s0.m, g⟩) = .ok (.obj s0.m.length) ⟨o :: s0.m, g⟩ := by
  rw [clean_one' ⟨n, rfl, hn, e, h, ex, s0.m, rfl, rfl, fun _ h => .inl h⟩]
  congr 3
  rw [List.length_append, Nat.add_sub_cancel, List.drop_left]
theorem clean_oneW {s0 : Sto} {n : Nat} {o : MO} {ex m : List MO} {g : Option Rng} (hn : s0.m.length ≤ n) (hl : m.length = s0.m.length) (e : nget (ex ++ m) n = some o) (h : mlt s0.m.length o = true) (hm : ∀ o ∈ m, o ∈ s0.m ∨ mlt m.length o = true) : clean s0 (.ok (.obj n) ⟨ex ++ m, g⟩) = .ok (.obj s0.m.length) ⟨o :: m, g⟩ := by
  rw [clean_one' ⟨n, rfl, hn, e, h, ex, m, rfl, hl, hm⟩]
  congr 3
  rw [List.length_append, ← hl, Nat.add_sub_cancel, List.drop_left]
theorem suffix_eq {α : Type} {l ex m : List α} (h : l <:+ ex ++ m) (e : l.length = m.length) : l = m := by
  obtain ⟨t, h⟩ := h
  have e2 : t.length = ex.length := by have := congrArg List.length h; simp at this; omega
  exact (List.append_inj h e2).2
theorem okG_clean {K : PySem.W.Frag} {W : Wx} {ρ : Loc} {H : Hp} {σ : L2.St} {s : Sto} {r : Out D} {Q : VK} (rs : RS K H ρ s) (h : okG K W (rrD K) ρ H σ (clean s r) Q) : okG K W (rrD K) ρ H σ r Q := by
  cases r with
  | exc c l s1 => exact h
  | bad => exact h
  | ok d s1 =>
    have wf' : ∀ {ex m : List MO}, m.length = s.m.length → (∀ o ∈ m, o ∈ s.m ∨ mlt m.length o = true) → ∀ o ∈ m, mlt m.length o = true := by
      intro ex m e2 k2 o ho
      have len0 : ρ.a.length = m.length := by rw [rs.len, e2]
      rcases k2 o ho with z | z
      · obtain ⟨i, q⟩ := nget_of_mem z
        obtain ⟨a, ea, ra⟩ := rs.at q
        rw [← len0]
        exact ra.lt
      · exact z
    by_cases q : cleanOk s d s1
    · unfold clean at h
      simp only [if_pos q] at h
      obtain ⟨ex, m, e1, e2, k1, k2⟩ := q
      obtain ⟨m1, g1⟩ := s1
      simp only at e1 h
      subst e1
      rw [List.length_append, ← e2, Nat.add_sub_cancel, List.drop_left] at h
      intro v H' ρ' le t rs' rd
      have len' : ρ'.a.length = ex.length + m.length := by rw [rs'.len, List.length_append]
      have len0 : ρ.a.length = m.length := by rw [rs.len, e2]
      obtain ⟨l1, e⟩ := le.1
      have get : ∀ i, i < m.length → nget ρ'.a i = nget ρ.a i := fun i hi => by rw [← e, nget_app (by omega)]
      have wf := wf' (ex := ex) e2 k2
      refine h v H' ⟨ρ.a, ρ'.g⟩ ⟨List.suffix_refl _, le.2⟩ t ⟨len0, rs.nd, fun n o a eo ea => ?_, fun g eg => ?_, rs'.gz⟩ ?_
      · have hn : n < m.length := nget_lt eo
        have q := rs'.ob n o a (by show nget (ex ++ m) n = some o; rw [nget_app hn]; exact eo) (by rw [get n hn]; exact ea)
        exact q.less (n := m.length) (ρ' := ⟨ρ.a, ρ'.g⟩) get rfl (wf o (nget_mem eo))
      · obtain ⟨a, b, h1, h2, h3, h4, h5, h6⟩ := rs'.gn g eg
        exact ⟨a, b, h1, h2, h3, fun z => h4 (by rw [← e]; exact List.mem_append_right _ z), fun z => h5 (by rw [← e]; exact List.mem_append_right _ z), h6⟩
      · exact RD.less (n := m.length) (ρ' := ⟨ρ.a, ρ'.g⟩) get rfl rd k1
    · by_cases q1 : ∃ o, cleanOne s d s1 o
      · obtain ⟨o, q1⟩ := q1
        have q2 := q1
        obtain ⟨n, rfl, hn, eo, ko, ex, m, e1, e2, k2⟩ := q1
        rw [clean_one' q2] at h
        obtain ⟨m1, g1⟩ := s1
        simp only at e1 h eo
        subst e1
        rw [List.length_append, ← e2, Nat.add_sub_cancel, List.drop_left] at h
        intro v H' ρ' le t rs' rd
        have len' : ρ'.a.length = ex.length + m.length := by rw [rs'.len, List.length_append]
        have len0 : ρ.a.length = m.length := by rw [rs.len, e2]
        obtain ⟨l1, e⟩ := le.1
        have get : ∀ i, i < m.length → nget ρ'.a i = nget ρ.a i := fun i hi => by rw [← e, nget_app (by omega)]
        have wf := wf' (ex := ex) e2 k2
        obtain ⟨a, rfl, ea⟩ := RD.obj_of rd
        have na : a ∉ ρ.a := fun z => by
          obtain ⟨i, qi⟩ := nget_of_mem z
          have hi := nget_lt qi
          rw [← get i (by omega)] at qi
          have := nget_inj rs'.nd ea qi
          omega
        have get1 : ∀ i, i < m.length → nget ρ'.a i = nget (a :: ρ.a) i := fun i hi => by rw [get i hi, nget, if_neg (by omega)]
        refine h (.ref a) H' ⟨a :: ρ.a, ρ'.g⟩ ⟨List.suffix_cons _ _, le.2⟩ t ⟨by simp [len0], List.nodup_cons.mpr ⟨na, rs.nd⟩, fun i u c eu ec => ?_, fun g eg => ?_, rs'.gz⟩ ?_
        · by_cases hi : i = m.length
          · subst hi
            have eu : some o = some u := by rw [← eu]; simp [nget]
            have ec : some a = some c := by rw [← ec]; simp [nget, len0]
            cases eu; cases ec
            exact (rs'.ob n o a eo ea).less (n := m.length) (ρ' := ⟨a :: ρ.a, ρ'.g⟩) get1 rfl (by rw [e2]; exact ko)
          · have eu : nget m i = some u := by rw [← eu]; show _ = if i = m.length then _ else _; rw [if_neg hi]
            have ec : nget ρ.a i = some c := by rw [← ec]; show _ = if i = ρ.a.length then _ else _; rw [if_neg (by omega)]
            have hn : i < m.length := nget_lt eu
            have q := rs'.ob i u c (by show nget (ex ++ m) i = some u; rw [nget_app hn]; exact eu) (by rw [get i hn]; exact ec)
            exact q.less (n := m.length) (ρ' := ⟨a :: ρ.a, ρ'.g⟩) get1 rfl (wf u (nget_mem eu))
        · obtain ⟨b, c, h1, h2, h3, h4, h5, h6⟩ := rs'.gn g eg
          refine ⟨b, c, h1, h2, h3, fun z => ?_, fun z => ?_, h6⟩
          · rcases List.mem_cons.mp z with z | z
            · exact h4 (z ▸ nget_mem ea)
            · exact h4 (by rw [← e]; exact List.mem_append_right _ z)
          · rcases List.mem_cons.mp z with z | z
            · exact h5 (z ▸ nget_mem ea)
            · exact h5 (by rw [← e]; exact List.mem_append_right _ z)
        · unfold RD
          exact ⟨a, rfl, by show nget (a :: ρ.a) m.length = some a; rw [nget, if_pos (by rw [len0])]⟩
      · unfold clean at h
        simp only [if_neg q, dif_neg q1] at h
        exact h
def cleanBOk (s0 s1 : Sto) : Prop := ∃ ex, s1.m = ex ++ s0.m
open Classical in
/-- a test whose newest objects are forgotten -/
noncomputable def cleanB (s0 : Sto) (r : Out Bool) : Out Bool := match r with
  | .ok b s1 => if cleanBOk s0 s1 then .ok b ⟨s0.m, s1.g⟩ else .ok b s1
  | r => r
theorem cleanB_same {s0 : Sto} {b : Bool} {ex : List MO} {g : Option Rng} : cleanB s0 (.ok b ⟨ex ++ s0.m, g⟩) = .ok b ⟨s0.m, g⟩ := by
  have q : cleanBOk s0 ⟨ex ++ s0.m, g⟩ := ⟨ex, rfl⟩
  unfold cleanB
  simp only [if_pos q]
theorem okG_cleanB {K : PySem.W.Frag} {W : Wx} {ρ : Loc} {H : Hp} {σ : L2.St} {s : Sto} {r : Out Bool} {Q : Bool → Hp → Prop} (rs : RS K H ρ s) (h : okG K W rrB ρ H σ (cleanB s r) Q) : okG K W rrB ρ H σ r Q := by
  cases r with
  | exc c l s1 => exact h
  | bad => exact h
  | ok d s1 =>
    by_cases q : cleanBOk s s1
    · unfold cleanB at h
      simp only [if_pos q] at h
      obtain ⟨ex, e1⟩ := q
      obtain ⟨m1, g1⟩ := s1
      simp only at e1 h
      subst e1
      intro v H' ρ' le t rs' rd
      have len' : ρ'.a.length = ex.length + s.m.length := by rw [rs'.len, List.length_append]
      have len0 : ρ.a.length = s.m.length := rs.len
      obtain ⟨l1, e⟩ := le.1
      have get : ∀ i, i < s.m.length → nget ρ'.a i = nget ρ.a i := fun i hi => by rw [← e, nget_app (by omega)]
      have wf : ∀ o ∈ s.m, mlt s.m.length o = true := by
        intro o ho
        obtain ⟨i, q⟩ := nget_of_mem ho
        obtain ⟨a, ea, ra⟩ := rs.at q
        rw [← len0]
        exact ra.lt
      refine h v H' ⟨ρ.a, ρ'.g⟩ ⟨List.suffix_refl _, le.2⟩ t ⟨len0, rs.nd, fun n o a eo ea => ?_, fun g eg => ?_, rs'.gz⟩ rd
      · have hn : n < s.m.length := nget_lt eo
        have q := rs'.ob n o a (by show nget (ex ++ s.m) n = some o; rw [nget_app hn]; exact eo) (by rw [get n hn]; exact ea)
        exact q.less (n := s.m.length) (ρ' := ⟨ρ.a, ρ'.g⟩) get rfl (wf o (nget_mem eo))
      · obtain ⟨a, b, h1, h2, h3, h4, h5, h6⟩ := rs'.gn g eg
        exact ⟨a, b, h1, h2, h3, fun z => h4 (by rw [← e]; exact List.mem_append_right _ z), fun z => h5 (by rw [← e]; exact List.mem_append_right _ z), h6⟩
    · unfold cleanB at h
      simp only [if_neg q] at h
      exact h
noncomputable def cClean (f : DEnv → Sto → Out Bool) : DEnv → Sto → Out Bool := fun δ s => cleanB s (f δ s)
theorem st_clean {X : Cx} {W : Wx} {e : Expr} {f : DEnv → Sto → Out Bool} (h : ST X W e f) : ST X W e (cClean f) := PTweak h fun σ H Q q => by
  obtain ⟨ρ, δ, s, sl, rs, q⟩ := q
  exact ⟨ρ, δ, s, sl, rs, okG_cleanB rs q⟩
/-- an inner expression whose newest objects are forgotten -/
noncomputable def eClean (f : DEnv → Sto → Out D) : DEnv → Sto → Out D := fun δ s => clean s (f δ s)
theorem se_clean {X : Cx} {W : Wx} {e : Expr} {f : DEnv → Sto → Out D} (h : SE X W e f) : SE X W e (eClean f) := PEweak h fun σ H Q q => by
  obtain ⟨ρ, δ, s, sl, rs, q⟩ := q
  exact ⟨ρ, δ, s, sl, rs, okG_clean rs q⟩

/-! ### defs -/
def endOf : Res → Out D
  | .nx _ s => .ok .non s
  | .rt d s => .ok d s
  | .ex _ c l s => .exc c l s
  | _ => .bad
@[simp] theorem endOf_nx {δ : DEnv} {s : Sto} : endOf (.nx δ s) = .ok .non s := (rfl)
@[simp] theorem endOf_rt {d : D} {s : Sto} : endOf (.rt d s) = .ok d s := (rfl)
/-- a def of n parameters, k further names, by its body -/
noncomputable def fnD (n k : Nat) (raw : DEnv → Sto → Res) : List D → Sto → Out D := fun ds s => if ds.length = n then clean s (endOf (raw (ds.map some ++ List.replicate k none) s)) else .bad
theorem fnD_ok {n k : Nat} {raw : DEnv → Sto → Res} {ds : List D} {s : Sto} {d : D} {ex : List MO} {g : Option Rng} (hn : ds.length = n) (h : endOf (raw (ds.map some ++ List.replicate k none) s) = .ok d ⟨ex ++ s.m, g⟩) (hd : dlt s.m.length d = true) : fnD n k raw ds s = .ok d ⟨s.m, g⟩ := by
  unfold fnD
  rw [if_pos hn, h, clean_same hd]
def nox (G : List D → Sto → Out D) : List D → Sto → Out D := fun ds s => match G ds s with
  | .exc _ _ _ => .bad
  | r => r
/-- a def's promise: it is worth G; nothing is raised -/
def spD (K : PySem.W.Frag) (n : Nat) (G : List D → Sto → Out D) : Sp := fun vs H Q _ => vs.length = n ∧ ∃ ρ s ds, RS K H ρ s ∧ RDs K H ρ ds vs ∧ okG K W0 (rrD K) ρ H [] (G ds s) Q
/-- a def of the module that is worth G -/
def Cal (P : Program) (w : World) (K : PySem.W.Frag) (mg : Str → Option Value) (base : Heap) (k : Nat) (x : Str) (n : Nat) (G : List D → Sto → Out D) : Prop :=
  ∃ f fd ps, mg x = some (.ref f) ∧ PySem.W.keepIn K (.ref f) = true ∧ Binds K fd ps [] ∧ ps.length = n ∧ FnOk P w K mg base CX0 k f fd ps (spD K n G)
def IsDef (K : PySem.W.Frag) (mg : Str → Option Value) (x : Str) (st : Stmt) (ps : List Str) : Prop := ∃ f fd, Fun K x x st f fd ∧ mg x = some (.ref f) ∧ Binds K fd ps []
def eFn (n : Nat) (G : List D → Sto → Out D) (g : DEnv → Sto → Out (List D)) : DEnv → Sto → Out D := fun δ s => (g δ s).bind fun ds s1 => if ds.length = n then nox G ds s1 else .bad
section
variable {X : Cx} {W : Wx} {pos : Pos} {e : Expr} {es : List Expr} {g : DEnv → Sto → Out (List D)} {k n : Nat} {x : Str} {p : Pos} {G : List D → Sto → Out D}
theorem fn_rel {K : PySem.W.Frag} {σ : L2.St} {H : Hp} {Q : VK} (q : tE K W (eFn n G g) σ H Q) : tCall (spD K n G) [] E0 (tA K W g) σ H Q := by
  obtain ⟨ρ, δ, s, sl, rs, q⟩ := q
  refine bindT sl rs q fun ds s1 vs H1 ρ1 sl1 rs1 l1 t1 r1 q1 => ?_
  rw [List.append_nil]
  by_cases hl : ds.length = n
  · rw [if_pos hl] at q1
    refine ⟨by rw [r1.length, hl], ρ1, s1, ds, rs1, r1, ?_⟩
    unfold nox at q1
    cases er : G ds s1 with
    | ok d s2 => rw [er] at q1; exact q1
    | exc c l s2 => rw [er] at q1; exact q1.elim
    | bad => rw [er] at q1; exact q1.elim
  · rw [if_neg hl] at q1
    exact q1.elim
theorem se_call (C : Cal X.prog X.w X.K X.mg X.base k x n G) (hr : Room k X.A) (ha : SA X W (e :: es) g) (hg : Gl X x := by rfl) (hdb : (x == ("__debug__" : Str)) = false := by decide)
    (he : starEach (e :: es) X.env = (false, eval e X.env) :: starEach es X.env := by rfl) (hpl : (backTo pos (starEach es X.env)).any (·.1) = false := by rfl) : SE X W (.Call (.Name x p) (e :: es) [] pos) (eFn n G g) := by
  obtain ⟨f, fd, ps, hm, hk, hb, hl, F⟩ := C
  exact PEweak (pe_call F hr hg hm hk hb .nil pass0 ha hdb he hpl) fun _ _ _ q => fn_rel q
theorem se_call0 (C : Cal X.prog X.w X.K X.mg X.base k x n G) (hr : Room k X.A) (hg : Gl X x := by rfl) (hdb : (x == ("__debug__" : Str)) = false := by decide) : SE X W (.Call (.Name x p) [] [] pos) (eFn n G aNil) := by
  obtain ⟨f, fd, ps, hm, hk, hb, hl, F⟩ := C
  refine PEweak (pe_call0 F hr hg hm hk hb .nil pass0 hdb) fun σ H Q q => ?_
  have q2 := fn_rel q
  obtain ⟨ρ, δ, s, sl, rs, q2⟩ := q2
  exact okG.done (v := []) q2 rs RDs.nil
end
theorem fn_mk {P : Program} {w : World} {K : PySem.W.Frag} {mg : Str → Option Value} {base : Heap} {k n m : Nat} {x : Str} {st : Stmt} {N ps : List Str} {raw : DEnv → Sto → Res} {f : Addr} {fd : FuncData} (F : Fun K x x st f fd) (S : FnScope N ps (defScope st)) (hn : ps.length = n) (hm : N.length = n + m)
    (hb : ∀ (f : Addr) (cdv : Value) (A : Around) (outer : List Env) (s : Shared) (H : Hp) (E : XK), Room k (A.deeper (envOfC x (defScope st) s.heap.objs.size f cdv)) → SSs (cxOf CX0 P w K mg base N x (defScope st) f cdv A outer s H E).nox W0 (defBody st) raw) :
    FnOk P w K mg base CX0 (k + 1) f fd ps (spD K n (fnD n m raw)) := by
  refine F.ok S (fun vs H Q E h => h.1.trans hn.symm) fun cdv A outer s H vs Q E hr h => ⟨_, hb f cdv A outer s H E hr, ?_⟩
  obtain ⟨hl, ρ, st', ds, rs, rd, q⟩ := h
  have hl2 : ds.length = n := by rw [← rd.length]; exact hl
  unfold fnD at q
  rw [if_pos hl2] at q
  have q := okG_clean rs q
  have sl : ∀ {ds : List D} {vs : List V} (k : Nat), RDs K H ρ ds vs → Sl K H ρ (ds.map some ++ List.replicate k none) (vs.map some ++ List.replicate k none) := by
    intro ds vs k r
    refine ⟨by simp [r.length], fun i d e => ?_⟩
    by_cases hi : i < ds.length
    · rw [List.getElem?_append_left (by simpa using hi), List.getElem?_map] at e
      cases q : ds[i]? with
      | none => rw [q] at e; cases e
      | some d' =>
        rw [q] at e
        cases e
        obtain ⟨v, h1, h2⟩ := r.get q
        refine ⟨v, ?_, h2⟩
        rw [List.getElem?_append_left (by simp [r.length]; exact hi), List.getElem?_map, h1]
        rfl
    · rw [List.getElem?_append_right (by simpa using hi), List.getElem?_replicate] at e
      split at e <;> cases e
  refine ⟨ρ, ds.map some ++ List.replicate m none, st', ?_, rs, ?_⟩
  · have q := sl m rd
    unfold L2.start
    rw [show N.length - vs.length = m by omega]
    exact q
  · cases e : raw (ds.map some ++ List.replicate m none) st' with
    | nx δ' s' => rw [e] at q; exact fun σ' H' ρ' l t _ rs' => q .non H' ρ' l t rs' RD.non
    | rt d s' => rw [e] at q; exact q
    | ex δ' c l s' => rw [e] at q; exact fun σ' dx H' ρ' vs l t _ rs' hx hk => q dx H' ρ' vs l t rs' hx hk
    | bk δ' s' => rw [e] at q; exact q.elim
    | ct δ' s' => rw [e] at q; exact q.elim
    | bad => rw [e] at q; exact q.elim
theorem cal_mk {P : Program} {w : World} {K : PySem.W.Frag} {mg : Str → Option Value} {base : Heap} {k n m : Nat} {x : Str} {st : Stmt} {N ps : List Str} {raw : DEnv → Sto → Res} (hd : IsDef K mg x st ps) (S : FnScope N ps (defScope st)) (hn : ps.length = n) (hm : N.length = n + m)
    (hb : ∀ (f : Addr) (cdv : Value) (A : Around) (outer : List Env) (s : Shared) (H : Hp) (E : XK), Room k (A.deeper (envOfC x (defScope st) s.heap.objs.size f cdv)) → SSs (cxOf CX0 P w K mg base N x (defScope st) f cdv A outer s H E).nox W0 (defBody st) raw) :
    Cal P w K mg base (k + 1) x n (fnD n m raw) := by
  obtain ⟨f, fd, F, hmg, hB⟩ := hd
  exact ⟨f, fd, ps, hmg, F.kp, hB, hn, fn_mk F S hn hm hb⟩
/-- a def of the text, by what the top has written -/
theorem isdef_of {K : PySem.W.Frag} {h : Heap} {mg : Str → Option Value} {x : Str} {st : Stmt} {ps : List Str} {f : Addr} {oc : Value} {od an : Option Addr} {osl : Array (Option Value)} {kV doc pm cdv ct : Value} (X : K.In h) (G : h.Ns mainGlobals mg)
    (a : PySem.W.nsIn K mainGlobals x = some (some (.ref f))) (l : K.lookup f = some ⟨oc, od, .func (PySem.W.fnOf x x (defArgs st) (defBody st) (defScope st) .none kV doc pm an cdv ct), osl⟩) (c : PySem.W.codeIn K cdv x = true) (k : PySem.W.keepIn K (.ref f) = true)
    (hb : ∀ (kV doc pm : Value) (an : Option Addr) (cdv ct : Value) (us : List Value), us.length = ps.length → bindArgs (PySem.W.fnOf x x (defArgs st) (defBody st) (defScope st) .none kV doc pm an cdv ct) ⟨us, []⟩ = pure (ps.zip us)) : IsDef K mg x st ps :=
  ⟨f, _, fun_mk l c k, PySem.W.mg_of X G a, (fun_mk l c k).binds hb⟩
/-- the law's own def at the end -/
theorem law_end {K : PySem.W.Frag} {mg : Str → Option Value} {st : Stmt} {P : Program} {w : World} {k : Nat} {G : List D → Sto → Out D} {fa : Addr} (hd : IsDef K mg "law" st ["script"]) (hfa : mg "law" = some (.ref fa))
    (hb : ∀ (kV doc pm : Value) (an : Option Addr) (cdv ct : Value) (u : Value), bindArgs (PySem.W.fnOf "law" "law" (defArgs st) (defBody st) (defScope st) .none kV doc pm an cdv ct) ⟨[u], []⟩ = pure [(("script" : Str), u)])
    (F : ∀ (base : Heap) (f : Addr) (fd : FuncData), Fun K "law" "law" st f fd → FnOk P w K mg base CX0 k f fd ["script"] (spD K 1 G)) :
    ∃ fd : FuncData, (∀ (s : Shared) (v : Value), BindsTo s fd ⟨[v], []⟩ [("script", v)]) ∧ ∀ base : Heap, K.In base → base.Ns mainGlobals mg → FnOk P w K mg base CX0 k fa fd ["script"] (spD K 1 G) := by
  obtain ⟨f, fd, Fn, hmg, hB⟩ := hd
  have e := hfa.symm.trans hmg
  cases e
  obtain ⟨oc, od, kV, doc, pm, an, cdv, ct, osl, e, lk, hcd⟩ := Fn.ex
  exact ⟨fd, fun s v => .of_eq (by rw [e]; exact hb kV doc pm an cdv ct v), fun base _ _ => F base _ _ Fn⟩
end DL

/-! The data layer, tenth part: comprehensions with two clauses. -/
namespace DL
open PySem PySem.Spec PyProof.Rows L2
theorem WalkS.mono {K : PySem.W.Frag} {J : It} {src : Src} {ρ ρ' : Loc} {H H' : Hp} (w : WalkS K J src ρ H) (l : ρ.le ρ') (t : TupX K H H') : WalkS K J src ρ' H' := by
  obtain ⟨G, Y, w, hG, hY⟩ := w
  exact ⟨G, Y, w, fun H1 ρ1 s l1 t1 => hG H1 ρ1 s (Loc.le_trans l l1) (t.trans t1), fun i H1 ρ1 s v H2 l1 t1 => hY i H1 ρ1 s v H2 (Loc.le_trans l l1) (t.trans t1)⟩
theorem lc_itG {J : It} {n : Nat} {G : Hp → Prop} {Y : Nat → Hp → V → Hp → Prop} (w : Walk J n G Y) {g : TG} {tt : TT} {te : TE} {vs : List Nat} {σ : L2.St} {H0 : Hp} {D : Addr} {Qd : Hp → Prop} (Pv : Nat → Hp → Prop) (h0 : Pv 0 H0) (hG : ∀ i H, i ≤ n → Pv i H → G H)
    (hs : ∀ i x H H', i < n → Pv i H → Y i H x H' → g x (L2.wipe σ vs) H' fun σ2 H2 => L2.wipe σ2 vs = L2.wipe σ vs ∧ tt σ2 H2 fun b H3 =>
      if b = true then te σ2 H3 fun y H4 => ∃ acc, H4 D = some (.lst acc) ∧ acc.length < sizeLine ∧ Pv (i + 1) (upd H4 D (.lst (acc ++ [y]))) else Pv (i + 1) H3) (hd : ∀ H, Pv n H → Qd H) :
    ∃ W : Nat → Nat → Hp → Prop, (∃ m, W 0 m H0) ∧ ∀ i m H, W i m H →
      (J.stop i H ∧ Qd H) ∨ (J.go i H ∧ ∃ Nx : Hp → Prop, (∀ H', Nx H' → ∃ m', m' < m ∧ W (i + 1) m' H') ∧ ∀ x H', J.yld i H x H' → g x (L2.wipe σ vs) H' fun σ2 H2 => L2.wipe σ2 vs = L2.wipe σ vs ∧ tt σ2 H2 fun b H3 =>
        if b = true then te σ2 H3 fun y H4 => ∃ acc, H4 D = some (.lst acc) ∧ acc.length < sizeLine ∧ Nx (upd H4 D (.lst (acc ++ [y]))) else Nx H3) := by
  refine ⟨fun i m H => m = n - i ∧ i ≤ n ∧ Pv i H, ⟨n, by simp, Nat.zero_le _, h0⟩, ?_⟩
  rintro i m H ⟨rfl, hi, p⟩
  have q := hG i H hi p
  by_cases hlt : i < n
  · refine .inr ⟨w.goes i H hlt q, Pv (i + 1), fun H' p' => ⟨n - (i + 1), by omega, rfl, hlt, p'⟩, fun x H' y => hs i x H H' hlt p (w.yields i H x H' hlt q y)⟩
  · have e : i = n := by omega
    subst e
    exact .inl ⟨w.stops H q, hd H p⟩
section
variable {X : Cx} {W : Wx} {pos : Pos} {tg e tg1 e1 : Expr} {f : DEnv → Sto → Res} {fi fi1 : DEnv → Sto → Out Src} {p p1 : Pat}
theorem compL_okU {γ γ' : Type} {RR : Hp → Loc → γ → γ' → Prop} {K : PySem.W.Frag} {ρ : Loc} {H : Hp} {σ : L2.St} {src : Src} {tst : DEnv → Sto → Out Bool} {elt : DEnv → Sto → Out D} {n : Nat} {δ : DEnv} {k : Unit → Sto → Out γ} {Q : γ' → Hp → Prop} : ∀ {xs : List D} {s : Sto}, okG K W RR ρ H σ ((compL src p tst elt n δ xs s).bind k) Q → src.ok s
  | [], s, h => by
    unfold compL at h
    split at h
    · assumption
    · exact h.elim
  | x :: xs, s, h => by
    unfold compL at h
    split at h
    · assumption
    · exact h.elim
theorem compL_rel {γ γ' : Type} {RR : Hp → Loc → γ → γ' → Prop} {K : PySem.W.Frag} {J : It} {src : Src} {ρ0 : Loc} {H0 : Hp} {s0 : Sto} {σ σx : L2.St} {δw : DEnv} {vs : List Nat} {n : Nat} {Da : Addr} {tst : DEnv → Sto → Out Bool} {elt : DEnv → Sto → Out D} {k : Unit → Sto → Out γ} {Q : γ' → Hp → Prop}
    (wk : WalkS K J src ρ0 H0) (sl : Sl K H0 ρ0 δw (L2.wipe σ vs)) (rs : RS K H0 ρ0 s0) (eD : nget ρ0.a n = some Da) (hv : ∀ i ∈ psl p, i ∈ vs) (h : okG K W RR ρ0 H0 σx ((compL src p tst elt n δw src.items s0).bind k) Q) :
    ∃ Wf : Nat → Nat → Hp → Prop, (∃ m, Wf 0 m H0) ∧ ∀ i m H, Wf i m H →
      (J.stop i H ∧ ∃ ρ2 s2, ρ0.le ρ2 ∧ TupX K H0 H ∧ RS K H ρ2 s2 ∧ okG K W RR ρ2 H σx (k () s2) Q) ∨ (J.go i H ∧ ∃ Nx : Hp → Prop, (∀ H', Nx H' → ∃ m', m' < m ∧ Wf (i + 1) m' H') ∧ ∀ x H', J.yld i H x H' → tPat K p x (L2.wipe σ vs) H' fun σ2 H2 => L2.wipe σ2 vs = L2.wipe σ vs ∧ tT K W0 tst σ2 H2 fun b H3 =>
        if b = true then tE K W0 elt σ2 H3 fun y H4 => ∃ acc, H4 Da = some (.lst acc) ∧ acc.length < sizeLine ∧ Nx (upd H4 Da (.lst (acc ++ [y]))) else Nx H3) := by
  obtain ⟨G, Y, w, hG, hY⟩ := wk
  refine lc_itG w (fun i H2 => ∃ ρ2 s2, ρ0.le ρ2 ∧ TupX K H0 H2 ∧ RS K H2 ρ2 s2 ∧ okG K W RR ρ2 H2 σx ((compL src p tst elt n δw (src.items.drop i) s2).bind k) Q)
    ⟨_, _, Loc.le_refl _, TupX.refl _, rs, h⟩ (fun i H2 _ pv => ?_) (fun i x H2 H3 hi pv y => ?_) fun H2 pv => ?_
  · obtain ⟨ρ2, s2, l2, t2, rs2, q2⟩ := pv
    exact hG H2 ρ2 s2 l2 t2 rs2 (compL_okU q2)
  · obtain ⟨ρ2, s2, l2, t2, rs2, q2⟩ := pv
    have ok := compL_okU q2
    obtain ⟨d, ed, sm, rd⟩ := hY i H2 ρ2 s2 x H3 l2 t2 rs2 ok hi y
    rw [drop_at ed] at q2
    unfold compL at q2
    rw [if_pos ok] at q2
    have t3 : TupX K H2 H3 := TupX.of_same sm
    have slw : Sl K H3 ρ2 δw (L2.wipe σ vs) := sl.mono l2 (t2.trans t3)
    cases ep : pm p d with
    | none => rw [ep] at q2; exact q2.elim
    | some l =>
      rw [ep] at q2
      refine ⟨ρ2, d, l, rd, ep, fun us h1 h2 => ⟨?_, ρ2, setAll δw l, s2, slw.setAll h1 h2, rs2.same sm, ?_⟩⟩
      · rw [wipe_setAll, wipe_wipe]
        intro j hj
        rw [h1, pm_slots p d l ep] at hj
        exact hv j hj
      · have q2 := okG.from q2 (Loc.le_refl _) t3
        cases et : tst (setAll δw l) s2 with
        | exc c fs s3 => simp only [et] at q2; exact q2.elim
        | bad => simp only [et] at q2; exact q2.elim
        | ok b s3 =>
          simp only [et] at q2
          intro b' H4 ρ4 l4 t4 rs4 eb
          cases eb
          cases b with
          | false =>
            rw [if_neg Bool.false_ne_true]
            exact ⟨ρ4, s3, Loc.le_trans l2 l4, (t2.trans t3).trans t4, rs4, okG.from q2 l4 t4⟩
          | true =>
            rw [if_pos rfl]
            refine ⟨ρ4, setAll δw l, s3, (slw.setAll h1 h2).mono l4 t4, rs4, ?_⟩
            simp only at q2
            cases ee : elt (setAll δw l) s3 with
            | exc c fs s4 => simp only [ee] at q2; exact q2.elim
            | bad => simp only [ee] at q2; exact q2.elim
            | ok y s4 =>
              simp only [ee] at q2
              intro yv H5 ρ5 l5 t5 rs5 r5
              have eD5 : nget ρ5.a n = some Da := nget_of_suffix l5.1 (nget_of_suffix l4.1 (nget_of_suffix l2.1 eD))
              split at q2
              · rename_i acc ea
                obtain ⟨ws, hw, z⟩ := rs5.ob _ _ Da ea eD5
                by_cases hl : acc.length < lim
                · rw [if_pos hl] at q2
                  have t6 : TupX K H5 (upd H5 Da (.lst (ws ++ [yv]))) := TupX.chg hw trivial
                  refine ⟨ws, hw, by rw [z.length]; exact Nat.lt_trans hl lim_le, ρ5, _, Loc.le_trans (Loc.le_trans l2 l4) l5, (((t2.trans t3).trans t4).trans t5).trans t6, rs5.put (u := .lst (acc ++ [y])) eD5 hw trivial ⟨_, upd_same, ?_⟩, okG.from q2 (Loc.le_trans l4 l5) ((t4.trans t5).trans t6)⟩
                  exact (z.app (RDs.cons r5 RDs.nil)).mono (Loc.le_refl _) t6
                · rw [if_neg hl] at q2
                  exact q2.elim
              · exact q2.elim
  · obtain ⟨ρ2, s2, l2, t2, rs2, q2⟩ := pv
    rw [List.drop_length] at q2
    have ok := compL_okU q2
    unfold compL at q2
    rw [if_pos ok] at q2
    exact ⟨ρ2, s2, l2, t2, rs2, q2⟩
open Classical in
noncomputable def compO (src : Src) (p : Pat) (tst : DEnv → Sto → Out Bool) (fi1 : DEnv → Sto → Out Src) (p1 : Pat) (vs1 : List Nat) (tst1 : DEnv → Sto → Out Bool) (elt : DEnv → Sto → Out D) (n : Nat) (δ : DEnv) : List D → Sto → Out Unit
  | [], s => if src.ok s then .ok () s else .bad
  | x :: xs, s => if src.ok s then match pm p x with
    | some l => match tst (setAll δ l) s with
      | .ok true s1 => match fi1 (setAll δ l) s1 with
        | .ok src1 s2 => (compL src1 p1 tst1 elt n (wipeD (setAll δ l) vs1) src1.items s2).bind fun _ s3 => compO src p tst fi1 p1 vs1 tst1 elt n δ xs s3
        | _ => .bad
      | .ok false s1 => compO src p tst fi1 p1 vs1 tst1 elt n δ xs s1
      | _ => .bad
    | none => .bad
    else .bad
noncomputable def eComp2 (fi : DEnv → Sto → Out Src) (p : Pat) (tst : DEnv → Sto → Out Bool) (fi1 : DEnv → Sto → Out Src) (p1 : Pat) (vs1 : List Nat) (tst1 : DEnv → Sto → Out Bool) (elt : DEnv → Sto → Out D) (vs : List Nat) : DEnv → Sto → Out D := fun δ s => (fi δ s).bind fun src s1 =>
  (compO src p tst fi1 p1 vs1 tst1 elt s1.m.length (wipeD δ vs) src.items ⟨.lst [] :: s1.m, s1.g⟩).bind fun _ s2 => .ok (.obj s1.m.length) s2
theorem compO_ok {K : PySem.W.Frag} {ρ : Loc} {H : Hp} {σ : L2.St} {src : Src} {tst tst1 : DEnv → Sto → Out Bool} {elt : DEnv → Sto → Out D} {n : Nat} {δ : DEnv} {vs1 : List Nat} {k : Unit → Sto → Out D} {Q : VK} : ∀ {xs : List D} {s : Sto}, okG K W (rrD K) ρ H σ ((compO src p tst fi1 p1 vs1 tst1 elt n δ xs s).bind k) Q → src.ok s
  | [], s, h => by
    unfold compO at h
    split at h
    · assumption
    · exact h.elim
  | x :: xs, s, h => by
    unfold compO at h
    split at h
    · assumption
    · exact h.elim
theorem bind_assoc {α β γ : Type} {o : Out α} {k : α → Sto → Out β} {k' : β → Sto → Out γ} : (o.bind k).bind k' = o.bind fun a s => (k a s).bind k' := by cases o <;> rfl
theorem lc2_rel {K : PySem.W.Frag} {σ : L2.St} {H : Hp} {Q : VK} {tst tst1 : DEnv → Sto → Out Bool} {elt : DEnv → Sto → Out D} {vs vs1 : List Nat} (hv : ∀ i ∈ psl p, i ∈ vs) (hv1 : ∀ i ∈ psl p1, i ∈ vs1) (q : tE K W (eComp2 fi p tst fi1 p1 vs1 tst1 elt vs) σ H Q) :
    tLc2 (tI K W fi) (tPat K p) (tT K W0 tst) (tI K W0 fi1) (tPat K p1) (tT K W0 tst1) (tE K W0 elt) vs vs1 σ H Q := by
  obtain ⟨ρ, δ, s, sl, rs, q⟩ := q
  refine bindT sl rs q fun src s1 J H1 ρ1 sl1 rs1 l1 t1 wk q1 => ?_
  obtain ⟨G, Y, w, hG, hY⟩ := wk
  intro D hD
  have sm0 : Same H1 (upd H1 D (.lst [])) := same_new hD
  have rsD : RS K (upd H1 D (.lst [])) ⟨D :: ρ1.a, ρ1.g⟩ ⟨.lst [] :: s1.m, s1.g⟩ := rs1.new hD ⟨[], upd_same, RDs.nil⟩
  have leD : ρ1.le ⟨D :: ρ1.a, ρ1.g⟩ := ⟨List.suffix_cons _ _, .inr rfl⟩
  have hn : nget (⟨D :: ρ1.a, ρ1.g⟩ : Loc).a s1.m.length = some D := by rw [nget, if_pos rs1.len.symm]
  refine ⟨fun i m H2 => m = src.items.length - i ∧ i ≤ src.items.length ∧ ∃ ρ2 s2, Loc.le ⟨D :: ρ1.a, ρ1.g⟩ ρ2 ∧ TupX K (upd H1 D (.lst [])) H2 ∧ RS K H2 ρ2 s2 ∧ okG K W (rrD K) ρ2 H2 σ ((compO src p tst fi1 p1 vs1 tst1 elt s1.m.length (wipeD δ vs) (src.items.drop i) s2).bind fun _ s3 => .ok (.obj s1.m.length) s3) Q,
    ⟨_, rfl, Nat.zero_le _, _, _, Loc.le_refl _, TupX.refl _, rsD, okG.from q1 leD (TupX.of_same sm0)⟩, ?_⟩
  rintro i m H2 ⟨rfl, hile, ρ2, s2, l2, t2, rs2, q2⟩
  have ok := compO_ok q2
  have g := hG H2 ρ2 s2 (Loc.le_trans leD l2) ((TupX.of_same sm0).trans t2) rs2 ok
  by_cases hi : i < src.items.length
  · refine .inr ⟨w.goes i H2 hi g, fun H' => ∃ ρ3 s3, Loc.le ⟨D :: ρ1.a, ρ1.g⟩ ρ3 ∧ TupX K (upd H1 D (.lst [])) H' ∧ RS K H' ρ3 s3 ∧ okG K W (rrD K) ρ3 H' σ ((compO src p tst fi1 p1 vs1 tst1 elt s1.m.length (wipeD δ vs) (src.items.drop (i + 1)) s3).bind fun _ s3 => .ok (.obj s1.m.length) s3) Q,
      fun H' h => ⟨_, by omega, rfl, hi, h⟩, fun x H3 yld => ?_⟩
    obtain ⟨d, ed, sm, rd⟩ := hY i H2 ρ2 s2 x H3 (Loc.le_trans leD l2) ((TupX.of_same sm0).trans t2) rs2 ok hi (w.yields i H2 x H3 hi g yld)
    rw [drop_at ed] at q2
    unfold compO at q2
    rw [if_pos ok] at q2
    have t3 : TupX K H2 H3 := TupX.of_same sm
    have slw : Sl K H3 ρ2 (wipeD δ vs) (L2.wipe σ vs) := ((sl1.wipe vs).mono leD (TupX.of_same sm0)).mono l2 (t2.trans t3)
    cases ep : pm p d with
    | none => rw [ep] at q2; exact q2.elim
    | some l =>
      rw [ep] at q2
      refine ⟨ρ2, d, l, rd, ep, fun us h1 h2 => ⟨?_, ρ2, setAll (wipeD δ vs) l, s2, slw.setAll h1 h2, rs2.same sm, ?_⟩⟩
      · rw [wipe_setAll, wipe_wipe]
        intro j hj
        rw [h1, pm_slots p d l ep] at hj
        exact hv j hj
      · have q2 := okG.from q2 (Loc.le_refl _) t3
        cases et : tst (setAll (wipeD δ vs) l) s2 with
        | exc c fs s3 => simp only [et] at q2; exact q2.elim
        | bad => simp only [et] at q2; exact q2.elim
        | ok b s3 =>
          simp only [et] at q2
          intro b' H4 ρ4 l4 t4 rs4 eb
          cases eb
          cases b with
          | false =>
            rw [if_neg Bool.false_ne_true]
            exact ⟨ρ4, s3, Loc.le_trans l2 l4, (t2.trans t3).trans t4, rs4, okG.from q2 l4 t4⟩
          | true =>
            rw [if_pos rfl]
            have sl4 := (slw.setAll h1 h2).mono l4 t4
            refine ⟨ρ4, setAll (wipeD δ vs) l, s3, sl4, rs4, ?_⟩
            simp only at q2
            cases ee : fi1 (setAll (wipeD δ vs) l) s3 with
            | exc c fs s4 => simp only [ee] at q2; exact q2.elim
            | bad => simp only [ee] at q2; exact q2.elim
            | ok src1 s4 =>
              simp only [ee] at q2
              intro J1 H5 ρ5 l5 t5 rs5 wk1
              have eD : nget ρ5.a s1.m.length = some D := nget_of_suffix l5.1 (nget_of_suffix l4.1 (nget_of_suffix l2.1 hn))
              rw [bind_assoc] at q2
              have inner := compL_rel (σ := setAll (L2.wipe σ vs) us) wk1 (Sl.wipe (sl4.mono l5 t5) vs1) rs5 eD hv1 (okG.from q2 (Loc.le_trans l4 l5) (t4.trans t5))
              obtain ⟨Wf, hm, turn⟩ := inner
              refine ⟨Wf, hm, fun j k H6 hw => ?_⟩
              rcases turn j k H6 hw with ⟨st, ρ6, s6, l6, t6, rs6, q6⟩ | h
              · exact .inl ⟨st, ρ6, s6, Loc.le_trans (Loc.le_trans l2 l4) (Loc.le_trans l5 l6), ((t2.trans t3).trans t4).trans (t5.trans t6), rs6, q6⟩
              · exact .inr h
  · have hi : i = src.items.length := by omega
    subst hi
    refine .inl ⟨w.stops H2 g, ?_⟩
    rw [List.drop_length] at q2
    unfold compO at q2
    rw [if_pos ok] at q2
    refine okG.done (d := DL.D.obj s1.m.length) q2 rs2 ?_
    show RD K H2 ρ2 (.obj s1.m.length) (.ref D)
    unfold RD
    exact ⟨D, rfl, nget_of_suffix l2.1 hn⟩
theorem se_comp2 {elt : Expr} {ifs ifs1 : List Expr} {scope : Scope} {own : List (Str × Nat)} {vs1 : List Nat} {tst tst1 : DEnv → Sto → Out Bool} {fe : DEnv → Sto → Out D} (hc : X.calm = true) (hN : X.N.Nodup) (hi : SI X W tg e fi) (ok : BlkOk X.N X.env.scope scope own) (hv : ∀ i ∈ psl p, i ∈ own.map (·.2)) (hv1 : ∀ i ∈ psl p1, i ∈ vs1) (hvs : ∀ i ∈ vs1, i ∈ own.map (·.2))
    (hg : ∀ (s : Shared) (H : Hp) (C : Addr) (cl : List (Str × Addr)) (fp : List Addr), SP (X.blk s H scope (compEnvC scope cl C X.env) fp) tg p) (ht : ∀ (s : Shared) (H : Hp) (C : Addr) (cl : List (Str × Addr)) (fp : List Addr), STs (X.blk s H scope (compEnvC scope cl C X.env) fp) W0 ifs tst)
    (hi1 : ∀ (s : Shared) (H : Hp) (C : Addr) (cl : List (Str × Addr)) (fp : List Addr), SI (X.blk s H scope (compEnvC scope cl C X.env) fp) W0 tg1 e1 fi1)
    (hg1 : ∀ (s : Shared) (H : Hp) (C : Addr) (cl : List (Str × Addr)) (fp : List Addr), SP (X.blk s H scope (compEnvC scope cl C X.env) fp) tg1 p1) (ht1 : ∀ (s : Shared) (H : Hp) (C : Addr) (cl : List (Str × Addr)) (fp : List Addr), STs (X.blk s H scope (compEnvC scope cl C X.env) fp) W0 ifs1 tst1)
    (he : ∀ (s : Shared) (H : Hp) (C : Addr) (cl : List (Str × Addr)) (fp : List Addr), SE (X.blk s H scope (compEnvC scope cl C X.env) fp) W0 elt fe) (hs : ∀ x, foldedSetIterable e X.env x = pure x := by intro _; rfl) (hs1 : ∀ env x, foldedSetIterable e1 env x = pure x := by intro _ _; rfl) :
    SE X W (.ListComp elt [⟨tg, e, ifs, 0⟩, ⟨tg1, e1, ifs1, 0⟩] scope pos) (eComp2 fi p tst fi1 p1 vs1 tst1 fe (own.map (·.2))) := PEweak (pe_lc2 hc hN hi ok hvs hg ht hi1 hg1 ht1 he hs hs1) fun _ _ _ q => lc2_rel hv hv1 q
theorem ss_setComp2 (i : Nat) {y : Str} {py spos : Pos} {elt : Expr} {ifs ifs1 : List Expr} {scope : Scope} {own : List (Str × Nat)} {vs1 : List Nat} {tst tst1 : DEnv → Sto → Out Bool} {fe : DEnv → Sto → Out D} (hc : X.calm = true) (hN : X.N.Nodup) (hi : SI X W tg e fi) (ok : BlkOk X.N X.env.scope scope own) (hv : ∀ i ∈ psl p, i ∈ own.map (·.2)) (hv1 : ∀ i ∈ psl p1, i ∈ vs1) (hvs : ∀ i ∈ vs1, i ∈ own.map (·.2))
    (hg : ∀ (s : Shared) (H : Hp) (C : Addr) (cl : List (Str × Addr)) (fp : List Addr), SP (X.blk s H scope (compEnvC scope cl C X.env) fp) tg p) (ht : ∀ (s : Shared) (H : Hp) (C : Addr) (cl : List (Str × Addr)) (fp : List Addr), STs (X.blk s H scope (compEnvC scope cl C X.env) fp) W0 ifs tst)
    (hi1 : ∀ (s : Shared) (H : Hp) (C : Addr) (cl : List (Str × Addr)) (fp : List Addr), SI (X.blk s H scope (compEnvC scope cl C X.env) fp) W0 tg1 e1 fi1)
    (hg1 : ∀ (s : Shared) (H : Hp) (C : Addr) (cl : List (Str × Addr)) (fp : List Addr), SP (X.blk s H scope (compEnvC scope cl C X.env) fp) tg1 p1) (ht1 : ∀ (s : Shared) (H : Hp) (C : Addr) (cl : List (Str × Addr)) (fp : List Addr), STs (X.blk s H scope (compEnvC scope cl C X.env) fp) W0 ifs1 tst1)
    (he : ∀ (s : Shared) (H : Hp) (C : Addr) (cl : List (Str × Addr)) (fp : List Addr), SE (X.blk s H scope (compEnvC scope cl C X.env) fp) W0 elt fe)
    (hsw : swapsWith (.ListComp elt [⟨tg, e, ifs, 0⟩, ⟨tg1, e1, ifs1, 0⟩] scope pos) (some (.Name y py)) spos.line X.env = pure true)
    (hy : X.N[i]? = some y := by rfl) (hyl : X.env.scope.names.lookup y = some .local := by rfl) (hs : ∀ x, foldedSetIterable e X.env x = pure x := by intro _; rfl) (hs1 : ∀ env x, foldedSetIterable e1 env x = pure x := by intro _ _; rfl) :
    SS X W (.Assign [.Name y py] (.ListComp elt [⟨tg, e, ifs, 0⟩, ⟨tg1, e1, ifs1, 0⟩] scope pos) spos) (sSet i (eComp2 fi p tst fi1 p1 vs1 tst1 fe (own.map (·.2)))) :=
  PSweak (ps_setLc2 hc hN hy hyl hsw hi ok hvs hg ht hi1 hg1 ht1 he hs hs1) fun Dn σ H q => by
    obtain ⟨ρ, δ, s, sl, rs, q⟩ := q
    refine lc2_rel (W := W) (fi := fi) (fi1 := fi1) (p := p) (p1 := p1) (tst := tst) (tst1 := tst1) (elt := fe) (Q := fun x H1 => Dn.nx (σ.set i (some x)) H1) hv hv1 ?_
    exact bindS sl rs q fun d s1 v H1 ρ1 sl1 rs1 l1 t1 r1 q1 => q1 (σ.set i (some v)) H1 ρ1 (Loc.le_refl _) (TupX.refl _) (sl1.set r1 i) rs1
end
end DL

/-! The data layer, eleventh part: list(range(..)), the drawing list's making, words for symbolic running. -/
namespace DL
open PySem PySem.Spec PyProof.Rows L2
section
variable {X : Cx} {W : Wx} {pos : Pos} {a b e : Expr} {fa fb : DEnv → Sto → Out D}
/-! ### list(range(n)), tuple(range(n)) -/
def eLrg (tup : Bool) (f : DEnv → Sto → Out D) : DEnv → Sto → Out D := fun δ s => (f δ s).bind fun d s1 => match d with
  | .int n => if -(2 ^ 62) ≤ n ∧ n < 1000000 then (if tup = true then .ok (.tup (rgD n.toNat)) s1 else mkObj (.lst (rgD n.toNat)) s1) else .bad
  | _ => .bad
theorem rgD_rel {K : PySem.W.Frag} {H : Hp} {ρ : Loc} (n : Int) : RDs K H ρ (rgD n.toNat) (rgV 0 n) := by
  have e : rgV 0 n = ((List.range n.toNat).map fun k : Nat => (k : Int)).map V.int := by
    unfold rgV
    simp
  have e2 : rgD n.toNat = ((List.range n.toNat).map fun k : Nat => (k : Int)).map D.int := by
    unfold rgD
    simp
  rw [e, e2]
  exact RDs_ints _
theorem rg_ok {n : Int} (h : -(2 ^ 62) ≤ n ∧ n < 1000000) : RgOk 0 n := by
  have := sizeLine_eq
  unfold RgOk
  omega
theorem se_lrg {p p2 pos2 : Pos} (hc : X.calm = true) (hm : X.mg "list" = none) (hr : X.mg "range" = none) (h : SE X W a fa) (hg : Gl X "list" := by rfl) (hg2 : Gl X "range" := by rfl) (na : starEach [a] X.env = (false, eval a X.env) :: starEach [] X.env := by rfl)
    (nb : starEach [.Call (.Name "range" p2) [a] [] pos2] X.env = (false, eval (.Call (.Name "range" p2) [a] [] pos2) X.env) :: starEach [] X.env := by rfl) : SE X W (.Call (.Name "list" p) [.Call (.Name "range" p2) [a] [] pos2] [] pos) (eLrg false fa) :=
  PEweak (pe_listRg hc hg hm (prg_1 hg2 hr h na) nb) fun σ H Q q => by
    obtain ⟨ρ, δ, s, sl, rs, q⟩ := q
    refine bindT sl rs q fun d s1 v H1 ρ1 sl1 rs1 l1 t1 r1 q1 => ?_
    cases d with
    | int n =>
      cases RD.int_of r1
      by_cases z : -(2 ^ 62) ≤ n ∧ n < 1000000
      · simp only [if_pos z] at q1
        exact ⟨n, rfl, rg_ok z, okG.obj' q1 rs1 (rgD_rel n)⟩
      · simp only [if_neg z] at q1
        exact q1.elim
    | _ => exact q1.elim
theorem se_trg {p p2 pos2 : Pos} (hc : X.calm = true) (hm : X.mg "tuple" = none) (hr : X.mg "range" = none) (h : SE X W a fa) (hg : Gl X "tuple" := by rfl) (hg2 : Gl X "range" := by rfl) (na : starEach [a] X.env = (false, eval a X.env) :: starEach [] X.env := by rfl)
    (nb : starEach [.Call (.Name "range" p2) [a] [] pos2] X.env = (false, eval (.Call (.Name "range" p2) [a] [] pos2) X.env) :: starEach [] X.env := by rfl) : SE X W (.Call (.Name "tuple" p) [.Call (.Name "range" p2) [a] [] pos2] [] pos) (eLrg true fa) :=
  PEweak (pe_tupRg hc hg hm (prg_1 hg2 hr h na) nb) fun σ H Q q => by
    obtain ⟨ρ, δ, s, sl, rs, q⟩ := q
    refine bindT sl rs q fun d s1 v H1 ρ1 sl1 rs1 l1 t1 r1 q1 => ?_
    cases d with
    | int n =>
      cases RD.int_of r1
      by_cases z : -(2 ^ 62) ≤ n ∧ n < 1000000
      · simp only [if_pos z] at q1
        refine ⟨n, rfl, rg_ok z, fun p hp => ?_⟩
        have sm : Same H1 (upd H1 p (.tup (rgV 0 n))) := same_new hp
        exact q1 (.ref p) _ ρ1 (Loc.le_refl _) (TupX.of_same sm) (rs1.same sm) (RD.tupI (.of upd_same) (rgD_rel n))
      · simp only [if_neg z] at q1
        exact q1.elim
    | _ => exact q1.elim
end

/-! ### running -/
theorem eVar_ap {i : Nat} {δ : DEnv} {s : Sto} {d : D} (h : δ[i]? = some (some d)) : eVar i δ s = .ok d s := by unfold eVar; rw [h]
theorem eC_ap {d : D} {δ : DEnv} {s : Sto} : eC d δ s = .ok d s := rfl
theorem aNil_ap {δ : DEnv} {s : Sto} : aNil δ s = .ok [] s := rfl
theorem aCons_ap {f : DEnv → Sto → Out D} {g : DEnv → Sto → Out (List D)} {δ : DEnv} {s : Sto} : aCons f g δ s = (f δ s).bind fun d s1 => (g δ s1).bind fun ds s2 => .ok (d :: ds) s2 := rfl
theorem eTup_ap {g : DEnv → Sto → Out (List D)} {δ : DEnv} {s : Sto} : eTup g δ s = (g δ s).bind mkTup := rfl
theorem eLst_ap {g : DEnv → Sto → Out (List D)} {δ : DEnv} {s : Sto} : eLst g δ s = (g δ s).bind mkLst := rfl
theorem eBin_ap {op : D → D → Sto → Out D} {f g : DEnv → Sto → Out D} {δ : DEnv} {s : Sto} : eBin op f g δ s = (f δ s).bind fun x s1 => (g δ s1).bind fun y s2 => op x y s2 := rfl
theorem eUn_ap {op : D → Sto → Out D} {f : DEnv → Sto → Out D} {δ : DEnv} {s : Sto} : eUn op f δ s = (f δ s).bind op := rfl
theorem cB_ap {f : DEnv → Sto → Out D} {δ : DEnv} {s : Sto} : cB f δ s = (f δ s).bind fun d s1 => match d with
  | .bl b => .ok b s1
  | _ => .bad := rfl
theorem cTru_ap {f : DEnv → Sto → Out D} {δ : DEnv} {s : Sto} : cTru f δ s = (f δ s).bind fun d s1 => tru d s1 fun b => .ok b s1 := rfl
theorem cAnd_ap {c d : DEnv → Sto → Out Bool} {δ : DEnv} {s : Sto} : cAnd c d δ s = (c δ s).bind fun b s1 => if b = true then d δ s1 else .ok false s1 := rfl
theorem cOr_ap {c d : DEnv → Sto → Out Bool} {δ : DEnv} {s : Sto} : cOr c d δ s = (c δ s).bind fun b s1 => if b = true then .ok true s1 else d δ s1 := rfl
theorem cNot_ap {c : DEnv → Sto → Out Bool} {δ : DEnv} {s : Sto} : cNot c δ s = (c δ s).bind fun b s1 => .ok (!b) s1 := rfl
theorem cYes_ap {δ : DEnv} {s : Sto} : cYes δ s = .ok true s := rfl
theorem eIf_ap {c : DEnv → Sto → Out Bool} {f g : DEnv → Sto → Out D} {δ : DEnv} {s : Sto} : eIf c f g δ s = (c δ s).bind fun b s1 => if b = true then f δ s1 else g δ s1 := rfl
theorem eAnd_ap {f g : DEnv → Sto → Out D} {δ : DEnv} {s : Sto} : eAnd f g δ s = (f δ s).bind fun d s1 => tru d s1 fun b => if b = true then g δ s1 else .ok d s1 := rfl
theorem eOr_ap {f g : DEnv → Sto → Out D} {δ : DEnv} {s : Sto} : eOr f g δ s = (f δ s).bind fun d s1 => tru d s1 fun b => if b = true then .ok d s1 else g δ s1 := rfl
theorem eNot_ap {f : DEnv → Sto → Out D} {δ : DEnv} {s : Sto} : eNot f δ s = (f δ s).bind fun d s1 => tru d s1 fun b => .ok (.bl (!b)) s1 := rfl
theorem eChain_ap {op op' : D → D → Sto → Out D} {f g h : DEnv → Sto → Out D} {δ : DEnv} {s : Sto} : eChain op op' f g h δ s = (f δ s).bind fun x s1 => (g δ s1).bind fun y s2 => (op x y s2).bind fun z s3 => match z with
  | .bl true => (h δ s3).bind fun u s4 => op' y u s4
  | .bl false => .ok (.bl false) s3
  | _ => .bad := rfl
theorem eSl_ap {f : DEnv → Sto → Out D} {lo hi : DEnv → Sto → Out (Option Int)} {δ : DEnv} {s : Sto} : eSl f lo hi δ s = (f δ s).bind fun d s1 => (lo δ s1).bind fun l s2 => (hi δ s2).bind fun h s3 => opSl d l h s3 := rfl
theorem oNone_ap {δ : DEnv} {s : Sto} : oNone δ s = .ok none s := rfl
theorem oSome_ap {f : DEnv → Sto → Out D} {δ : DEnv} {s : Sto} : oSome f δ s = (f δ s).bind fun d s1 => match d with
  | .int i => .ok (some i) s1
  | _ => .bad := rfl
theorem eCall_ap {op : List D → Sto → Out D} {g : DEnv → Sto → Out (List D)} {δ : DEnv} {s : Sto} : eCall op g δ s = (g δ s).bind op := rfl
theorem eFn_ap {n : Nat} {G : List D → Sto → Out D} {g : DEnv → Sto → Out (List D)} {δ : DEnv} {s : Sto} : eFn n G g δ s = (g δ s).bind fun ds s1 => if ds.length = n then nox G ds s1 else .bad := rfl
theorem nox_ap {G : List D → Sto → Out D} {ds : List D} {s : Sto} {d : D} {s' : Sto} (h : G ds s = .ok d s') : nox G ds s = .ok d s' := by unfold nox; rw [h]
theorem eMeth_ap {op : D → List D → Sto → Out D} {f : DEnv → Sto → Out D} {g : DEnv → Sto → Out (List D)} {δ : DEnv} {s : Sto} : eMeth op f g δ s = (f δ s).bind fun d s1 => if isLst s1 d = true then (g δ s1).bind fun ds s2 => op d ds s2 else .bad := rfl
theorem eMeth0_ap {op : D → List D → Sto → Out D} {f : DEnv → Sto → Out D} {δ : DEnv} {s : Sto} : eMeth0 op f δ s = (f δ s).bind fun d s1 => if isLst s1 d = true then op d [] s1 else .bad := rfl
theorem eLrg_ap {t : Bool} {f : DEnv → Sto → Out D} {δ : DEnv} {s : Sto} : eLrg t f δ s = (f δ s).bind fun d s1 => match d with
  | .int n => if -(2 ^ 62) ≤ n ∧ n < 1000000 then (if t = true then .ok (.tup (rgD n.toNat)) s1 else mkObj (.lst (rgD n.toNat)) s1) else .bad
  | _ => .bad := rfl
theorem eClean_ap {f : DEnv → Sto → Out D} {δ : DEnv} {s : Sto} : eClean f δ s = clean s (f δ s) := rfl
theorem eComp_ap {fi : DEnv → Sto → Out Src} {p : Pat} {tst : DEnv → Sto → Out Bool} {elt : DEnv → Sto → Out D} {vs : List Nat} {δ : DEnv} {s : Sto} : eComp fi p tst elt vs δ s = (fi δ s).bind fun src s1 =>
  (compL src p tst elt s1.m.length (wipeD δ vs) src.items ⟨.lst [] :: s1.m, s1.g⟩).bind fun _ s2 => .ok (.obj s1.m.length) s2 := rfl
theorem iSeq_ap {f : DEnv → Sto → Out D} {δ : DEnv} {s : Sto} : iSeq f δ s = (f δ s).bind srcOf := rfl
theorem iRg1_ap {f : DEnv → Sto → Out D} {δ : DEnv} {s : Sto} : iRg1 f δ s = (f δ s).bind fun d s1 => match d with
  | .int j => if -(2 ^ 62) ≤ j ∧ j < 2 ^ 62 then .ok ⟨rgD j.toNat, none⟩ s1 else .bad
  | _ => .bad := by
  unfold iRg1 aCons aNil
  cases f δ s with
  | ok d s1 => cases d <;> rfl
  | exc c l s => rfl
  | bad => rfl
theorem iEnu_ap {f : DEnv → Sto → Out D} {δ : DEnv} {s : Sto} : iEnu f δ s = (f δ s).bind fun d s1 => (srcOf d s1).bind fun src s2 => .ok ⟨enumD 0 src.items, src.gd⟩ s2 := by
  unfold iEnu aCons aNil
  cases f δ s with
  | ok d s1 => rfl
  | exc c l s => rfl
  | bad => rfl
theorem sNil_ap {δ : DEnv} {s : Sto} : sNil δ s = .nx δ s := rfl
/-- then -/
def Res.andThen (r : Res) (g : DEnv → Sto → Res) : Res := match r with
  | .nx δ s => g δ s
  | r => r
@[simp] theorem andThen_nx {δ : DEnv} {s : Sto} {g : DEnv → Sto → Res} : (Res.nx δ s).andThen g = g δ s := (rfl)
@[simp] theorem andThen_rt {d : D} {s : Sto} {g : DEnv → Sto → Res} : (Res.rt d s).andThen g = .rt d s := (rfl)
@[simp] theorem andThen_ct {δ : DEnv} {s : Sto} {g : DEnv → Sto → Res} : (Res.ct δ s).andThen g = .ct δ s := (rfl)
@[simp] theorem andThen_bk {δ : DEnv} {s : Sto} {g : DEnv → Sto → Res} : (Res.bk δ s).andThen g = .bk δ s := (rfl)
theorem sSeq_ap {f g : DEnv → Sto → Res} {δ : DEnv} {s : Sto} : sSeq f g δ s = (f δ s).andThen g := by
  unfold sSeq Res.andThen
  cases f δ s <;> rfl
theorem andThen_ite {c : Prop} [Decidable c] {r r' : Res} {g : DEnv → Sto → Res} : (if c then r else r').andThen g = if c then r.andThen g else r'.andThen g := by split <;> rfl
theorem sRet_ap {f : DEnv → Sto → Out D} {δ : DEnv} {s : Sto} : sRet f δ s = (f δ s).to δ fun d s1 => .rt d s1 := rfl
theorem sRetN_ap {δ : DEnv} {s : Sto} : sRetN δ s = .rt .non s := rfl
theorem sExpr_ap {f : DEnv → Sto → Out D} {δ : DEnv} {s : Sto} : sExpr f δ s = (f δ s).to δ fun _ s1 => .nx δ s1 := rfl
theorem sIf_ap {c : DEnv → Sto → Out Bool} {f g : DEnv → Sto → Res} {δ : DEnv} {s : Sto} : sIf c f g δ s = (c δ s).to δ fun b s1 => if b = true then f δ s1 else g δ s1 := rfl
theorem sSet_ap {i : Nat} {f : DEnv → Sto → Out D} {δ : DEnv} {s : Sto} : sSet i f δ s = (f δ s).to δ fun d s1 => .nx (δ.set i (some d)) s1 := rfl
theorem sAug_ap {i : Nat} {op : D → D → Sto → Out D} {f : DEnv → Sto → Out D} {δ : DEnv} {s : Sto} : sAug i op f δ s = (eVar i δ s).to δ fun x _ => (f δ s).to δ fun y s1 => (op x y s1).to δ fun z s2 => .nx (δ.set i (some z)) s2 := rfl
theorem sPat_ap {p : Pat} {f : DEnv → Sto → Out D} {δ : DEnv} {s : Sto} : sPat p f δ s = (f δ s).to δ fun d s1 => match pm p d with
  | some l => .nx (setAll δ l) s1
  | none => .bad := rfl
theorem sPar_ap {i j : Nat} {f g : DEnv → Sto → Out D} {δ : DEnv} {s : Sto} : sPar i j f g δ s = (f δ s).to δ fun x s1 => (g δ s1).to δ fun y s2 => .nx ((δ.set i (some x)).set j (some y)) s2 := rfl
theorem sSub_ap {fo fi f : DEnv → Sto → Out D} {δ : DEnv} {s : Sto} : sSub fo fi f δ s = (f δ s).to δ fun d s1 => (fo δ s1).to δ fun o s2 => (fi δ s2).to δ fun i s3 => (opSet o i d s3).to δ fun _ s4 => .nx δ s4 := rfl
theorem sAugS_ap {fo fi : DEnv → Sto → Out D} {op : D → D → Sto → Out D} {f : DEnv → Sto → Out D} {δ : DEnv} {s : Sto} : sAugS fo fi op f δ s = (fo δ s).to δ fun o s1 => (fi δ s1).to δ fun i s2 => (opGet o i s2).to δ fun x s3 =>
  (f δ s3).to δ fun y s4 => (op x y s4).to δ fun z s5 => (opSet o i z s5).to δ fun _ s6 => .nx δ s6 := rfl
theorem sFor_ap {fi : DEnv → Sto → Out Src} {p : Pat} {f : DEnv → Sto → Res} {δ : DEnv} {s : Sto} : sFor fi p f δ s = (fi δ s).to δ fun src s1 => forL src p f src.items δ s1 := rfl
theorem to_ite {α : Type} {c : Prop} [Decidable c] {r r' : Out α} {δ : DEnv} {k : α → Sto → Res} : (if c then r else r').to δ k = if c then r.to δ k else r'.to δ k := by split <;> rfl
theorem bind_ite {α β : Type} {c : Prop} [Decidable c] {r r' : Out α} {k : α → Sto → Out β} : (if c then r else r').bind k = if c then r.bind k else r'.bind k := by split <;> rfl
/-- a new object is handed back that knows new ones -/
theorem clean_obj {s0 s1 : Sto} {n : Nat} {o : MO} (h : s0.m.length ≤ n) (e : nget s1.m n = some o) (k : mlt s0.m.length o = false) : clean s0 (.ok (.obj n) s1) = .ok (.obj n) s1 := by
  have q : ¬ cleanOk s0 (.obj n) s1 := fun q => by have := cleanOk_lt q; omega
  have q1 : ¬ ∃ o, cleanOne s0 (.obj n) s1 o := fun ⟨u, n', e1, _, e2, k2, _⟩ => by
    cases e1
    rw [e] at e2
    cases e2
    rw [k] at k2
    cases k2
  unfold clean
  simp only [if_neg q, dif_neg q1]
theorem fnD_obj {n k : Nat} {raw : DEnv → Sto → Res} {ds : List D} {s s' : Sto} {j : Nat} {o : MO} (hn : ds.length = n) (h : endOf (raw (ds.map some ++ List.replicate k none) s) = .ok (.obj j) s') (hd : s.m.length ≤ j) (e : nget s'.m j = some o) (hk : mlt s.m.length o = false) : fnD n k raw ds s = .ok (.obj j) s' := by
  unfold fnD
  rw [if_pos hn, h, clean_obj hd e hk]
/-- the list that is handed back alone is kept -/
theorem fnD_one {n k : Nat} {raw : DEnv → Sto → Res} {ds : List D} {s : Sto} {j : Nat} {o : MO} {ex : List MO} {g : Option Rng} (hn : ds.length = n) (h : endOf (raw (ds.map some ++ List.replicate k none) s) = .ok (.obj j) ⟨ex ++ s.m, g⟩) (hd : s.m.length ≤ j) (e : nget (ex ++ s.m) j = some o) (hk : mlt s.m.length o = true) :
    fnD n k raw ds s = .ok (.obj s.m.length) ⟨o :: s.m, g⟩ := by
  unfold fnD
  rw [if_pos hn, h, clean_one hd e hk]
@[simp] theorem dlt_int {n : Nat} {i : Int} : dlt n (.int i) = true := (rfl)
@[simp] theorem dlt_bl {n : Nat} {i : Bool} : dlt n (.bl i) = true := (rfl)
@[simp] theorem dlt_non {n : Nat} : dlt n .non = true := (rfl)
@[simp] theorem dlt_str {n : Nat} {x : Str} : dlt n (.str x) = true := (rfl)
@[simp] theorem dlt_tup {n : Nat} {l : List D} : dlt n (.tup l) = dlts n l := (rfl)
@[simp] theorem dlts_nil {n : Nat} : dlts n [] = true := (rfl)
@[simp] theorem dlts_cons {n : Nat} {d : D} {l : List D} : dlts n (d :: l) = (dlt n d && dlts n l) := (rfl)
theorem dlts_all {n : Nat} : ∀ {l : List D}, dlts n l = l.all (dlt n)
  | [] => rfl
  | d :: l => by rw [dlts_cons, List.all_cons, dlts_all]
end DL

/-! The data layer, twelfth part: drawing. -/
namespace DL
open PySem PySem.Spec PyProof.Rows L2
/-- a drawing list is made -/
def G_begin : List D → Sto → Out D
  | [.obj n], s => match s.g, nget s.m n with
    | none, some (.fro l) => match intsOf l with
      | some ns => if ns.length < lim then .ok (.rng false) ⟨s.m, some ⟨ns, 0, 0, 17⟩⟩ else .bad
      | none => .bad
    | _, _ => .bad
  | [.kls ns], s => match s.g with
    | none => if ns.length < lim then .ok (.rng false) ⟨s.m, some ⟨ns, 0, 0, 17⟩⟩ else .bad
    | _ => .bad
  | _, _ => .bad
/-- the script: a list of the top's, or one that stands in the written part -/
def ScrD (s : Sto) (d : D) (ns : List Int) : Prop := d = .kls ns ∨ ∃ n, d = .obj n ∧ nget s.m n = some (.fro (ns.map D.int))
theorem begin_scr {s : Sto} {d : D} {ns : List Int} (hg : s.g = none) (hl : ns.length < lim) (h : ScrD s d ns) : G_begin [d] s = .ok (.rng false) ⟨s.m, some ⟨ns, 0, 0, 17⟩⟩ := by
  have hi : intsOf (ns.map D.int) = some ns := intsOf_map ns
  rcases h with rfl | ⟨n, rfl, h⟩
  · unfold G_begin; simp only [hg]; rw [if_pos hl]
  · unfold G_begin; simp only [hg, h, hi]; rw [if_pos hl]
theorem intsOf_eq : ∀ {l : List D} {ns : List Int}, intsOf l = some ns → l = ns.map D.int
  | [], _, h => by cases h; rfl
  | d :: l, ns, h => by
    cases d with
    | int i =>
      have h : (intsOf l).map (i :: ·) = some ns := h
      cases q : intsOf l with
      | none => rw [q] at h; cases h
      | some ms =>
        rw [q] at h
        cases h
        rw [intsOf_eq q]
        rfl
    | _ => cases h
theorem cal_begin_of {P : Program} {w : World} {K : PySem.W.Frag} {mg : Str → Option Value} {base : Heap} {k : Nat} {x : Str} {G : List D → Sto → Out D} (C : Cal P w K mg base k x 1 G)
    (h : ∀ (ns : List Int) (d : D) (s : Sto), s.g = none → ns.length < lim → ScrD s d ns → G [d] s = .ok (.obj (s.m.length + 1)) ⟨.lst [.obj s.m.length, .int 0, .int 0, .int 17] :: .lst (ns.map .int) :: s.m, none⟩) :
    Cal P w K mg base k x 1 G_begin := by
  obtain ⟨f, fd, ps, h1, h2, h3, h4, F⟩ := C
  refine ⟨f, fd, ps, h1, h2, h3, h4, F.imp fun vs H Q E q => ?_⟩
  obtain ⟨hl, ρ, s, ds, rs, rd, q⟩ := q
  refine ⟨hl, ρ, s, ds, rs, rd, ?_⟩
  have main : ∀ (ns : List Int) (d : D), s.g = none → ns.length < lim → ScrD s d ns → okG K W0 (rrD K) ρ H [] (.ok (.rng false) ⟨s.m, some ⟨ns, 0, 0, 17⟩⟩) Q → okG K W0 (rrD K) ρ H [] (G [d] s) Q := by
      intro ns d eg hns hd q
      rw [h ns d s eg hns hd]
      intro v H' ρ' le t rs' r
      obtain ⟨a, rfl, ea⟩ := RD.obj_of r
      have len' : ρ'.a.length = s.m.length + 2 := by rw [rs'.len]; rfl
      have gz : ρ.g = none := rs.gz eg
      obtain ⟨ex, hex⟩ := le.1
      have lex : ex.length = 2 := by
        have := congrArg List.length hex
        rw [List.length_append, len', rs.len] at this
        omega
      obtain ⟨a', b, rfl⟩ : ∃ a' b, ex = [a', b] := by
        match ex, lex with
        | [a', b], _ => exact ⟨a', b, rfl⟩
      have hex : a' :: b :: ρ.a = ρ'.a := hex
      have na : nget ρ'.a (s.m.length + 1) = some a' := by rw [← hex, nget, if_pos (by simp [rs.len])]
      have nb : nget ρ'.a s.m.length = some b := by rw [← hex, nget, if_neg (by simp [rs.len]), nget, if_pos rs.len.symm]
      have ea' : a' = a := Option.some.inj (na.symm.trans ea)
      subst ea'
      obtain ⟨us, hu, zu⟩ := rs'.ob (s.m.length + 1) (.lst [.obj s.m.length, .int 0, .int 0, .int 17]) a' (by simp [nget]) na
      obtain ⟨ws, hw, zw⟩ := rs'.ob s.m.length (.lst (ns.map .int)) b (by simp [nget]) nb
      have nd' := rs'.nd
      rw [← hex] at nd'
      obtain ⟨n1, n2⟩ := List.nodup_cons.mp nd'
      obtain ⟨n3, n4⟩ := List.nodup_cons.mp n2
      have eus : us = [.ref b, .int 0, .int 0, .int 17] := by
        unfold RDs at zu
        obtain ⟨u1, r1, rfl, k1, zu⟩ := zu
        obtain ⟨u2, u3, u4, rfl, k2, k3, k4⟩ := zu.three
        obtain ⟨c, rfl, ec⟩ := RD.obj_of k1
        rw [nb] at ec
        cases ec
        rw [RD.int_of k2, RD.int_of k3, RD.int_of k4]
      have ews : ws = ns.map V.int := ints_rel (intsOf_map ns) zw
      subst eus ews
      refine q (.ref a') H' ⟨ρ.a, some (a', b)⟩ ⟨List.suffix_refl _, .inl gz⟩ t ⟨rs.len, rs.nd, fun m o c eo ec => ?_, fun g eg => ?_, fun z => by cases z⟩ (by show RD _ _ _ _ _; unfold RD; exact ⟨a', b, rfl, rfl⟩)
      · have hm : m < s.m.length := nget_lt eo
        have q := rs'.ob m o c (by rw [nget, if_neg (by simp; omega), nget, if_neg (by omega)]; exact eo) (by rw [← hex, nget, if_neg (by simp [rs.len]; omega), nget, if_neg (by rw [rs.len]; omega)]; exact ec)
        obtain ⟨c', ec', ro⟩ := rs.at eo
        have lt : mlt s.m.length o = true := by have := ro.lt; rwa [rs.len] at this
        refine RO.lessg (n := s.m.length) (fun i hi => ?_) ?_ q lt
        · show nget ρ'.a i = nget ρ.a i
          rw [← hex, nget, if_neg (by simp [rs.len]; omega), nget, if_neg (by rw [rs.len]; omega)]
        · exact rs'.gz rfl
      · cases eg
        exact ⟨a', b, rfl, hu, .inl hw, fun z => n1 (List.mem_cons_of_mem _ z), n3, fun z => n1 (z ▸ List.mem_cons_self)⟩
  unfold G_begin at q
  split at q
  · rename_i n
    split at q
    · rename_i l eg e1
      split at q
      · rename_i ns e2
        split at q
        · rename_i hns
          rw [intsOf_eq e2] at e1
          exact main ns _ eg hns (.inr ⟨n, rfl, e1⟩) q
        · exact q.elim
      · exact q.elim
    · exact q.elim
  · rename_i ns
    split at q
    · rename_i eg
      split at q
      · rename_i hns
        exact main ns _ eg hns (.inl rfl) q
      · exact q.elim
    · exact q.elim
  · exact q.elim
/-- the script at the law's door -/
theorem scr_end {K : PySem.W.Frag} {G : List D → Sto → Out D} {H : Hp} {a : Addr} {ns : List Int} (hG : ∀ (ns : List Int) (d : D) (m : List MO), ns.length ≤ 63 → ScrD ⟨m, none⟩ d ns → ∃ s', G [d] ⟨m, none⟩ = .ok (.bl true) s') (hl : ns.length ≤ 63) (hS : SqL K H a (ns.map V.int)) :
    spD K 1 G [.ref a] H (fun v _ => v = .bl true) fun _ _ _ => False := by
  refine ⟨rfl, ?_⟩
  rcases hS with hS | hS
  · obtain ⟨s', e⟩ := hG ns (.obj 0) [.fro (ns.map D.int)] hl (.inr ⟨0, rfl, rfl⟩)
    refine ⟨⟨[a], none⟩, ⟨[.fro (ns.map D.int)], none⟩, [.obj 0], ⟨rfl, by simp, fun n o b eo eb => ?_, fun r h => (by cases h), fun _ => rfl⟩, RDs.cons (by unfold RD; exact ⟨a, rfl, rfl⟩) RDs.nil, ?_⟩
    · have hn : n = 0 := by have := nget_lt eo; simp at this; exact this
      subst hn
      cases eo
      cases eb
      exact ⟨_, hS, RDs_ints ns⟩
    · rw [e]
      exact fun v H' ρ' _ _ _ r => RD.bl_of r
  · obtain ⟨s', e⟩ := hG ns (.kls ns) [] hl (.inl rfl)
    refine ⟨⟨[], none⟩, ⟨[], none⟩, [.kls ns], ⟨rfl, by simp, fun n o b eo eb => (by simp [nget] at eo), fun r h => (by cases h), fun _ => rfl⟩, RDs.cons (by unfold RD; exact ⟨a, rfl, hS⟩) RDs.nil, ?_⟩
    rw [e]
    exact fun v H' ρ' _ _ _ r => RD.bl_of r
/-- what the next cell is worth -/
def Rng.size (r : Rng) : Int := if r.pos < r.cells.length then 2 * (if r.cells.getD r.pos 0 < 0 then -(r.cells.getD r.pos 0) else r.cells.getD r.pos 0) + (if r.cells.getD r.pos 0 < 0 then 1 else 0) else 0
def Rng.next (r : Rng) : Int := (r.seed * 69069 + r.size % 2147483629 * 40692 + ((r.pos + 1 : Nat) : Int) * 40014 + 29) % 2147483647
/-- 2 ** 6000, not to be worked out -/
@[irreducible] def big : Int := 2 ^ 6000
theorem big_pos : 0 < big := by unfold big; exact Int.pow_pos (by decide)
theorem shl_big {s : Sto} : opShl (.int 1) (.int 6000) s = .ok (.int big) s := by
  unfold big
  show (if (0 : Int) ≤ 6000 ∧ (6000 : Int) ≤ 1000000 ∧ (1 : Int).natAbs < 2 ^ 64 then Out.ok (D.int (1 * 2 ^ (6000 : Int).toNat)) s else .bad) = _
  rw [if_pos ⟨by decide, by decide, by decide⟩, Int.one_mul, show (6000 : Int).toNat = 6000 from rfl]
/-- a drawn number below m -/
def Rng.draw (r : Rng) (m : Int) : Int × Rng :=
  if 0 < r.carry then (r.carry % m, { r with carry := r.carry / m })
  else if 2000000000000000000 ≤ r.size then ((r.size / 2 % big) % m, { r with pos := r.pos + 1, carry := r.size / 2 % big / m })
  else ((r.next / 32) % m, { r with pos := r.pos + 1, seed := r.next })
theorem draw_lt (r : Rng) {m : Int} (h : 0 < m) : 0 ≤ (r.draw m).1 ∧ (r.draw m).1 < m := by
  have hm : m ≠ 0 := by omega
  unfold Rng.draw
  split
  · exact ⟨Int.emod_nonneg _ hm, Int.emod_lt_of_pos _ h⟩
  · split
    · exact ⟨Int.emod_nonneg _ hm, Int.emod_lt_of_pos _ h⟩
    · exact ⟨Int.emod_nonneg _ hm, Int.emod_lt_of_pos _ h⟩
end DL

/-! The data layer, thirteenth part: symbolic running by simp; loops and comprehensions as folds. -/
namespace DL
open PySem PySem.Spec PyProof.Rows L2
@[simp] theorem eVar_zero {d : D} {δ : DEnv} {s : Sto} : eVar 0 (some d :: δ) s = .ok d s := (rfl)
@[simp] theorem eVar_succ {i : Nat} {o : Option D} {δ : DEnv} {s : Sto} : eVar (i + 1) (o :: δ) s = eVar i δ s := (rfl)
@[simp] theorem tru_bl {α : Type} {b : Bool} {s : Sto} {k : Bool → Out α} : tru (.bl b) s k = k b := (rfl)
@[simp] theorem tru_int {α : Type} {i : Int} {s : Sto} {k : Bool → Out α} : tru (.int i) s k = k (i != 0) := (rfl)
@[simp] theorem tru_non {α : Type} {s : Sto} {k : Bool → Out α} : tru .non s k = k false := (rfl)
@[simp] theorem tru_tup {α : Type} {l : List D} {s : Sto} {k : Bool → Out α} : tru (.tup l) s k = k (!l.isEmpty) := (rfl)
@[simp] theorem tru_obj {α : Type} {n : Nat} {s : Sto} {k : Bool → Out α} : tru (.obj n) s k = match nget s.m n with
    | some (.lst l) => k (!l.isEmpty)
    | some (.fro l) => k (!l.isEmpty)
    | some (.dic l) => k (!l.isEmpty)
    | _ => .bad := by
  unfold tru truthD
  simp only []
  cases nget s.m n with
  | none => rfl
  | some o => cases o <;> rfl
@[simp] theorem setAll_nil {α : Type} {l : List (Option α)} : setAll l [] = l := (rfl)
@[simp] theorem setAll_cons {α : Type} {l : List (Option α)} {i : Nat} {d : α} {r : List (Nat × α)} : setAll l ((i, d) :: r) = setAll (l.set i (some d)) r := (rfl)
@[simp] theorem pm_nm {i : Nat} {d : D} : pm (.nm i) d = some [(i, d)] := by unfold pm; rfl
@[simp] theorem pm_tp {ps : List Pat} {l : List D} : pm (.tp ps) (.tup l) = pms ps l := by unfold pm; rfl
@[simp] theorem pms_nil : pms [] [] = some [] := by unfold pms; rfl
@[simp] theorem pms_cons {p : Pat} {ps : List Pat} {d : D} {ds : List D} : pms (p :: ps) (d :: ds) = match pm p d, pms ps ds with
    | some x, some y => some (x ++ y)
    | _, _ => none := by
  try (conv => lhs; unfold pms)
  all_goals rfl
@[simp] theorem wipeD_nil {δ : DEnv} : wipeD δ [] = δ := (rfl)
@[simp] theorem wipeD_cons {δ : DEnv} {v : Nat} {vs : List Nat} : wipeD δ (v :: vs) = (wipeD δ vs).set v none := (rfl)
/-! ### the store -/
theorem nget_eq {α : Type} {o : α} {m : List α} {i : Nat} (h : i = m.length) : nget (o :: m) i = some o := by rw [nget, if_pos h]
theorem nget_ne {α : Type} {o : α} {m : List α} {i : Nat} (h : i ≠ m.length) : nget (o :: m) i = nget m i := by rw [nget, if_neg h]
theorem nset_eq {α : Type} {o u : α} {m : List α} {i : Nat} (h : i = m.length) : nset (o :: m) i u = u :: m := by rw [nset, if_pos h]
theorem nset_ne {α : Type} {o u : α} {m : List α} {i : Nat} (h : i ≠ m.length) : nset (o :: m) i u = o :: nset m i u := by rw [nset, if_neg h]
@[simp] theorem nget_self {α : Type} {o : α} {m : List α} : nget (o :: m) m.length = some o := nget_eq rfl
@[simp] theorem nset_self {α : Type} {o u : α} {m : List α} : nset (o :: m) m.length u = u :: m := nset_eq rfl
@[simp] theorem nget_cons {α : Type} {o : α} {m : List α} {i : Nat} : nget (o :: m) i = if i = m.length then some o else nget m i := (rfl)
@[simp] theorem nset_cons {α : Type} {o u : α} {m : List α} {i : Nat} : nset (o :: m) i u = if i = m.length then u :: m else o :: nset m i u := (rfl)
@[simp] theorem nset_len {α : Type} {l : List α} {i : Nat} {u : α} : (nset l i u).length = l.length := nset_length
theorem nset_nset {α : Type} : ∀ {l : List α} {i : Nat} {u v : α}, nset (nset l i u) i v = nset l i v
  | [], _, _, _ => rfl
  | o :: m, i, u, v => by
    by_cases h : i = m.length
    · rw [nset_eq h, nset_eq h, nset_eq h]
    · rw [nset_ne h, nset_ne h, nset_ne (by rw [nset_length]; exact h), nset_nset]
theorem nset_same {α : Type} : ∀ {l : List α} {i : Nat} {u : α}, nget l i = some u → nset l i u = l
  | [], _, _, _ => rfl
  | o :: m, i, u, e => by
    by_cases h : i = m.length
    · rw [nget_eq h] at e; cases e; rw [nset_eq h]
    · rw [nget_ne h] at e; rw [nset_ne h, nset_same e]
@[simp] theorem dlt_obj {n k : Nat} : dlt n (.obj k) = decide (k < n) := (rfl)
@[simp] theorem dlt_rng {n : Nat} {b : Bool} : dlt n (.rng b) = true := (rfl)
@[simp] theorem mlt_lst {n : Nat} {l : List D} : mlt n (.lst l) = dlts n l := (rfl)
@[simp] theorem mlt_fro {n : Nat} {l : List D} : mlt n (.fro l) = dlts n l := (rfl)
theorem dlts_map {α : Type} {n : Nat} {f : α → D} {l : List α} (h : ∀ a ∈ l, dlt n (f a) = true) : dlts n (l.map f) = true := by
  rw [dlts_all, List.all_map, List.all_eq_true]
  exact h
@[simp] theorem dlts_ints {n : Nat} {l : List Int} : dlts n (l.map D.int) = true := dlts_map fun _ _ => rfl
@[simp] theorem dlts_app {n : Nat} {l r : List D} : dlts n (l ++ r) = (dlts n l && dlts n r) := by
  rw [dlts_all, dlts_all, dlts_all, List.all_append]
/-! ### operators -/
@[simp] theorem opAdd_int {a b : Int} {s : Sto} : opAdd (.int a) (.int b) s = .ok (.int (a + b)) s := (rfl)
@[simp] theorem opAdd_tup {a b : List D} {s : Sto} : opAdd (.tup a) (.tup b) s = mkTup (a ++ b) s := (rfl)
@[simp] theorem opAdd_obj {a b : Nat} {s : Sto} : opAdd (.obj a) (.obj b) s = match nget s.m a, nget s.m b with
    | some (.lst a), some (.lst b) => mkLst (a ++ b) s
    | _, _ => .bad := rfl
theorem opMul_int {a b : Int} {s : Sto} : opMul (.int a) (.int b) s = if (-(2 ^ 64) < a ∧ a < 2 ^ 64) ∨ (-(2 ^ 64) < b ∧ b < 2 ^ 64) then .ok (.int (a * b)) s else .bad := (rfl)
@[simp high] theorem opMul_intR {a b : Int} {s : Sto} (h : -(2 ^ 64) < b ∧ b < 2 ^ 64) : opMul (.int a) (.int b) s = .ok (.int (a * b)) s := by rw [opMul_int, if_pos (.inr h)]
@[simp] theorem opMul_intL {a b : Int} {s : Sto} (h : -(2 ^ 64) < a ∧ a < 2 ^ 64) : opMul (.int a) (.int b) s = .ok (.int (a * b)) s := by rw [opMul_int, if_pos (.inl h)]
@[simp] theorem opMul_obj {n : Nat} {k : Int} {s : Sto} : opMul (.obj n) (.int k) s = match nget s.m n with
    | some (.lst l) => if k < 2 ^ 63 ∧ -(2 ^ 63) ≤ k then mkLst (List.replicate k.toNat l).flatten s else .bad
    | _ => .bad := rfl
@[simp] theorem opSub_int {a b : Int} {s : Sto} : opSub (.int a) (.int b) s = .ok (.int (a - b)) s := (rfl)
@[simp] theorem opAnd_int {a b : Int} {s : Sto} : opAnd (.int a) (.int b) s = .ok (.int (Builtin.bitAnd a b)) s := (rfl)
@[simp] theorem opOr_int {a b : Int} {s : Sto} : opOr (.int a) (.int b) s = .ok (.int (Builtin.bitOr a b)) s := (rfl)
@[simp] theorem opXor_int {a b : Int} {s : Sto} : opXor (.int a) (.int b) s = .ok (.int (Builtin.bitXor a b)) s := (rfl)
@[simp] theorem opFdiv_int {a b : Int} {s : Sto} : opFdiv (.int a) (.int b) s = if 0 < b ∧ b < 1073741824 then .ok (.int (a / b)) s else .bad := (rfl)
@[simp] theorem opMod_int {a b : Int} {s : Sto} : opMod (.int a) (.int b) s = if 0 < b then .ok (.int (a % b)) s else .bad := (rfl)
@[simp] theorem opPow_int {a b : Int} {s : Sto} : opPow (.int a) (.int b) s = if 0 ≤ b ∧ b ≤ 1000000 ∧ a.natAbs < 2 ^ 64 then .ok (.int (a ^ b.toNat)) s else .bad := (rfl)
@[simp] theorem opShl_int {a b : Int} {s : Sto} : opShl (.int a) (.int b) s = if 0 ≤ b ∧ b ≤ 1000000 ∧ a.natAbs < 2 ^ 64 then .ok (.int (a * 2 ^ b.toNat)) s else .bad := (rfl)
@[simp] theorem opShr_int {a b : Int} {s : Sto} : opShr (.int a) (.int b) s = if 0 ≤ b then .ok (.int (a / 2 ^ b.toNat)) s else .bad := (rfl)
@[simp] theorem opLt_int {a b : Int} {s : Sto} : opLt (.int a) (.int b) s = .ok (.bl (decide (a < b))) s := (rfl)
@[simp] theorem opLe_int {a b : Int} {s : Sto} : opLe (.int a) (.int b) s = .ok (.bl (decide (a ≤ b))) s := (rfl)
@[simp] theorem opGt_int {a b : Int} {s : Sto} : opGt (.int a) (.int b) s = .ok (.bl (decide (b < a))) s := (rfl)
@[simp] theorem opGe_int {a b : Int} {s : Sto} : opGe (.int a) (.int b) s = .ok (.bl (decide (b ≤ a))) s := (rfl)
@[simp] theorem opIadd_int {a b : Int} {s : Sto} : opIadd (.int a) (.int b) s = .ok (.int (a + b)) s := (rfl)
@[simp] theorem opEq_int {a b : Int} {s : Sto} : opEq (.int a) (.int b) s = .ok (.bl (a == b)) s := by
  show Out.ok (D.bl (false ^^ (a == b))) s = _
  rw [Bool.false_xor]
@[simp] theorem opNe_int {a b : Int} {s : Sto} : opNe (.int a) (.int b) s = .ok (.bl (a != b)) s := by
  show Out.ok (D.bl (true ^^ (a == b))) s = _
  rw [Bool.true_xor]; rfl
@[simp] theorem opEq_tup {a b : List D} {s : Sto} : opEq (.tup a) (.tup b) s = if (pd 50 (.tup a) && pd 50 (.tup b)) = true then .ok (.bl (deqs a b)) s else .bad := by
  show (if (pd 50 (.tup a) && pd 50 (.tup b)) = true then Out.ok (D.bl (false ^^ deq (.tup a) (.tup b))) s else .bad) = _
  rw [Bool.false_xor]; unfold deq; rfl
@[simp] theorem opNe_tup {a b : List D} {s : Sto} : opNe (.tup a) (.tup b) s = if (pd 50 (.tup a) && pd 50 (.tup b)) = true then .ok (.bl (!deqs a b)) s else .bad := by
  show (if (pd 50 (.tup a) && pd 50 (.tup b)) = true then Out.ok (D.bl (true ^^ deq (.tup a) (.tup b))) s else .bad) = _
  rw [Bool.true_xor]; unfold deq; rfl
@[simp] theorem opEq_obj {a b : Nat} {s : Sto} : opEq (.obj a) (.obj b) s = match nget s.m a, nget s.m b with
    | some (.lst a), some (.lst b) => if (pds 50 a && pds 50 b) = true then .ok (.bl (deqs a b)) s else .bad
    | _, _ => .bad := by
  show (match nget s.m a, nget s.m b with
    | some (.lst a), some (.lst b) => if (pds 50 a && pds 50 b) = true then Out.ok (D.bl (false ^^ deqs a b)) s else .bad
    | _, _ => .bad) = _
  simp only [Bool.false_xor]
@[simp] theorem opNe_obj {a b : Nat} {s : Sto} : opNe (.obj a) (.obj b) s = match nget s.m a, nget s.m b with
    | some (.lst a), some (.lst b) => if (pds 50 a && pds 50 b) = true then .ok (.bl (!deqs a b)) s else .bad
    | _, _ => .bad := by
  show (match nget s.m a, nget s.m b with
    | some (.lst a), some (.lst b) => if (pds 50 a && pds 50 b) = true then Out.ok (D.bl (true ^^ deqs a b)) s else .bad
    | _, _ => .bad) = _
  simp only [Bool.true_xor]
@[simp] theorem opIs_non {d : D} {s : Sto} : opIs d .non s = .ok (.bl (isNon d)) s := by
  cases d <;> rfl
@[simp] theorem opIsNot_non {d : D} {s : Sto} : opIsNot d .non s = .ok (.bl (!isNon d)) s := by
  cases d <;> rfl
@[simp] theorem isNon_non : isNon .non = true := (rfl)
@[simp] theorem isNon_int {i : Int} : isNon (.int i) = false := (rfl)
@[simp] theorem isNon_bl {i : Bool} : isNon (.bl i) = false := (rfl)
@[simp] theorem isNon_tup {l : List D} : isNon (.tup l) = false := (rfl)
@[simp] theorem isNon_obj {n : Nat} : isNon (.obj n) = false := (rfl)
@[simp] theorem isNon_str {x : Str} : isNon (.str x) = false := (rfl)
@[simp] theorem opIn_tup {d : D} {l : List D} {s : Sto} : opIn d (.tup l) s = if (flD d && l.all flD) = true then .ok (.bl (l.any fun y => deq y d)) s else .bad := by
  show inO false d l s = _ <;> first | (unfold inO; simp only [Bool.false_xor]) | skip
@[simp] theorem opIn_obj {d : D} {n : Nat} {s : Sto} : opIn d (.obj n) s = match nget s.m n with
    | some (.lst l) => if (flD d && l.all flD) = true then .ok (.bl (l.any fun y => deq y d)) s else .bad
    | _ => .bad := by
  show (match nget s.m n with
    | some (.lst l) => inO false d l s
    | _ => .bad) = _
  unfold inO; simp only [Bool.false_xor]
@[simp] theorem opNotIn_tup {d : D} {l : List D} {s : Sto} : opNotIn d (.tup l) s = if (flD d && l.all flD) = true then .ok (.bl (!l.any fun y => deq y d)) s else .bad := by
  show inO true d l s = _
  unfold inO; simp only [Bool.true_xor]
@[simp] theorem opNotIn_obj {d : D} {n : Nat} {s : Sto} : opNotIn d (.obj n) s = match nget s.m n with
    | some (.lst l) => if (flD d && l.all flD) = true then .ok (.bl (!l.any fun y => deq y d)) s else .bad
    | _ => .bad := by
  show (match nget s.m n with
    | some (.lst l) => inO true d l s
    | _ => .bad) = _
  unfold inO; simp only [Bool.true_xor]
@[simp] theorem opIx_tup {l : List D} {i : Int} {s : Sto} : opIx (.tup l) (.int i) s = optO (atI l i) s := (rfl)
@[simp] theorem opIx_obj {n : Nat} {i : Int} {s : Sto} : opIx (.obj n) (.int i) s = match nget s.m n with
    | some (.lst l) => optO (atI l i) s
    | some (.fro l) => optO (atI l i) s
    | _ => .bad := rfl
@[simp] theorem atI_nat {α : Type} {l : List α} {k : Nat} : atI l (k : Int) = l[k]? := by
  unfold atI ixN
  rw [if_pos (by omega)]
  by_cases h : (k : Int) < l.length
  · rw [if_pos h]; rfl
  · rw [if_neg h]; exact (List.getElem?_eq_none (by omega)).symm
@[simp] theorem atI_zero {α : Type} {l : List α} : atI l 0 = l[0]? := atI_nat (k := 0)
@[simp] theorem atI_one {α : Type} {l : List α} : atI l 1 = l[1]? := atI_nat (k := 1)
@[simp] theorem atI_2 {α : Type} {l : List α} : atI l 2 = l[2]? := atI_nat (k := 2)
@[simp] theorem atI_3 {α : Type} {l : List α} : atI l 3 = l[3]? := atI_nat (k := 3)
@[simp] theorem atI_4 {α : Type} {l : List α} : atI l 4 = l[4]? := atI_nat (k := 4)
@[simp] theorem atI_5 {α : Type} {l : List α} : atI l 5 = l[5]? := atI_nat (k := 5)
@[simp] theorem atI_6 {α : Type} {l : List α} : atI l 6 = l[6]? := atI_nat (k := 6)
@[simp] theorem atI_7 {α : Type} {l : List α} : atI l 7 = l[7]? := atI_nat (k := 7)
@[simp] theorem atI_8 {α : Type} {l : List α} : atI l 8 = l[8]? := atI_nat (k := 8)
@[simp] theorem atI_9 {α : Type} {l : List α} : atI l 9 = l[9]? := atI_nat (k := 9)
@[simp] theorem atI_last {α : Type} {l : List α} : atI l (-1) = l[l.length - 1]? := by
  unfold atI ixN
  rw [if_neg (by omega)]
  cases l with
  | nil => rfl
  | cons a l =>
    rw [if_pos (by simp; omega)]
    show (a :: l)[((-1 : Int) + ((a :: l).length : Nat)).toNat]? = _
    congr 1
    simp only [List.length_cons]
    omega
theorem ixN_nat {n k : Nat} (h : k < n) : ixN n (k : Int) = some k := by
  unfold ixN
  rw [if_pos (by omega), if_pos (by omega)]
  simp
@[simp] theorem opSl_tup {l : List D} {lo hi : Option Int} {s : Sto} : opSl (.tup l) lo hi s = .ok (.tup (cutD l lo hi)) s := (rfl)
@[simp] theorem opSl_obj {n : Nat} {lo hi : Option Int} {s : Sto} : opSl (.obj n) lo hi s = match nget s.m n with
    | some (.lst l) => mkObj (.lst (cutD l lo hi)) s
    | _ => .bad := rfl
theorem cutD_to {l : List D} {k : Nat} : cutD l none (some (k : Int)) = l.take k := by
  unfold cutD
  rw [HT.sIx_nat, HT.sIx_none, List.drop_zero, Nat.sub_zero]
  by_cases h : k ≤ l.length
  · rw [Nat.min_eq_left h]
  · rw [Nat.min_eq_right (by omega), List.take_of_length_le (Nat.le_refl _), List.take_of_length_le (by omega)]
theorem cutD_from {l : List D} {k : Nat} : cutD l (some (k : Int)) none = l.drop k := by
  unfold cutD
  rw [HT.sIx_nat, HT.sIx_none]
  by_cases h : k ≤ l.length
  · rw [Nat.min_eq_left h, List.take_of_length_le (by simp)]
  · rw [Nat.min_eq_right (by omega), List.drop_of_length_le (Nat.le_refl _), List.drop_of_length_le (by omega)]; simp
theorem cutD_mid {l : List D} {j k : Nat} : cutD l (some (j : Int)) (some (k : Int)) = (l.take k).drop j := by
  unfold cutD
  rw [HT.sIx_nat, HT.sIx_nat, List.drop_take]
  by_cases h : k ≤ l.length
  · rw [Nat.min_eq_left h]
    by_cases h2 : j ≤ l.length
    · rw [Nat.min_eq_left h2]
    · rw [Nat.min_eq_right (by omega), List.drop_of_length_le (Nat.le_refl _), List.drop_of_length_le (by omega)]; simp
  · rw [Nat.min_eq_right (by omega)]
    by_cases h2 : j ≤ l.length
    · rw [Nat.min_eq_left h2, List.take_of_length_le (by simp), List.take_of_length_le (by simp; omega)]
    · rw [Nat.min_eq_right (by omega), List.drop_of_length_le (Nat.le_refl _), List.drop_of_length_le (by omega)]; simp
@[simp] theorem opNeg_int {i : Int} {s : Sto} : opNeg (.int i) s = .ok (.int (-i)) s := (rfl)
@[simp] theorem opInv_int {i : Int} {s : Sto} : opInv (.int i) s = .ok (.int (Builtin.bitNot i)) s := (rfl)
@[simp] theorem opBits_int {i : Int} {s : Sto} : opBits (.int i) s = .ok (.int (Builtin.Int.intBits i : Nat)) s := (rfl)
@[simp] theorem opLen_tup {l : List D} {s : Sto} : opLen (.tup l) s = .ok (.int l.length) s := (rfl)
@[simp] theorem opLen_obj {n : Nat} {s : Sto} : opLen (.obj n) s = match nget s.m n with
    | some (.lst l) => .ok (.int l.length) s
    | some (.fro l) => .ok (.int l.length) s
    | some (.dic l) => .ok (.int l.length) s
    | _ => .bad := rfl
@[simp] theorem opAbs_int {i : Int} {s : Sto} : opAbs (.int i) s = .ok (.int (if i < 0 then -i else i)) s := (rfl)
@[simp] theorem opInt_int {i : Int} {s : Sto} : opInt (.int i) s = .ok (.int i) s := (rfl)
@[simp] theorem opInt_bl {b : Bool} {s : Sto} : opInt (.bl b) s = .ok (.int (if b then 1 else 0)) s := (rfl)
@[simp] theorem opList_tup {l : List D} {s : Sto} : opList (.tup l) s = mkLst l s := (rfl)
@[simp] theorem opList_obj {n : Nat} {s : Sto} : opList (.obj n) s = match nget s.m n with
    | some (.lst l) => mkLst l s
    | some (.fro l) => mkLst l s
    | _ => .bad := rfl
@[simp] theorem opTuple_tup {l : List D} {s : Sto} : opTuple (.tup l) s = .ok (.tup l) s := (rfl)
@[simp] theorem opTuple_obj {n : Nat} {s : Sto} : opTuple (.obj n) s = match nget s.m n with
    | some (.lst l) => mkTup l s
    | some (.fro l) => mkTup l s
    | _ => .bad := rfl
@[simp] theorem onInts_obj {n : Nat} {s : Sto} {k : List Int → Out D} : onInts (.obj n) s k = match nget s.m n with
    | some (.lst l) => match intsOf l with
      | some ns => k ns
      | none => .bad
    | _ => .bad := rfl
@[simp] theorem onTrs_obj {n : Nat} {s : Sto} {k : List Bool → Out D} : onTrs (.obj n) s k = match nget s.m n with
    | some (.lst l) => match trsOf l with
      | some ns => k ns
      | none => .bad
    | _ => .bad := rfl
@[simp] theorem opSum_eq {d : D} {s : Sto} : opSum d s = onInts d s fun ns => .ok (.int ns.sum) s := (rfl)
@[simp] theorem opAnyG_eq {d : D} {s : Sto} : opAnyG d s = onTrs d s fun bs => .ok (.bl (bs.any id)) s := (rfl)
@[simp] theorem opAllG_eq {d : D} {s : Sto} : opAllG d s = onTrs d s fun bs => .ok (.bl (bs.all id)) s := (rfl)
@[simp] theorem fMax_one {d : D} {s : Sto} : fMax [d] s = onInts d s fun ns => if ns ≠ [] then .ok (.int (maxL ns)) s else .bad := (rfl)
@[simp] theorem fMin_one {d : D} {s : Sto} : fMin [d] s = onInts d s fun ns => if ns ≠ [] then .ok (.int (minL ns)) s else .bad := (rfl)
@[simp] theorem fMax_two {a b : Int} {s : Sto} : fMax [.int a, .int b] s = .ok (.int (max a b)) s := by
  show Out.ok (D.int (if b > a then b else a)) s = _
  congr 2
  omega
@[simp] theorem fMin_two {a b : Int} {s : Sto} : fMin [.int a, .int b] s = .ok (.int (min a b)) s := by
  show Out.ok (D.int (if b < a then b else a)) s = _
  congr 2
  omega
@[simp] theorem opSorted_eq {d : D} {s : Sto} : opSorted d s = onInts d s fun ns => mkObj (.lst ((isort ns).map D.int)) s := (rfl)
@[simp] theorem trsOf_bl (ns : List Bool) : trsOf (ns.map D.bl) = some ns := by
  induction ns with
  | nil => rfl
  | cons b l ih => show (trsOf (l.map D.bl)).map (b :: ·) = _; rw [ih]; rfl
@[simp] theorem trsOf_int (ns : List Int) : trsOf (ns.map D.int) = some (ns.map (· != 0)) := by
  induction ns with
  | nil => rfl
  | cons b l ih => show (trsOf (l.map D.int)).map ((b != 0) :: ·) = _; rw [ih]; rfl
theorem trsOf_bls {α : Type} (f : α → Bool) (l : List α) : trsOf (l.map fun a => D.bl (f a)) = some (l.map f) := by
  rw [← trsOf_bl, List.map_map]; rfl
theorem trsOf_ints {α : Type} (f : α → Int) (l : List α) : trsOf (l.map fun a => D.int (f a)) = some (l.map fun a => f a != 0) := by
  rw [show (l.map fun a => D.int (f a)) = (l.map f).map D.int by rw [List.map_map]; rfl, trsOf_int, List.map_map]; rfl
theorem intsOf_ints {α : Type} (f : α → Int) (l : List α) : intsOf (l.map fun a => D.int (f a)) = some (l.map f) := by
  rw [← intsOf_map, List.map_map]; rfl
@[simp] theorem isLst_obj {n : Nat} {s : Sto} : isLst s (.obj n) = match nget s.m n with
    | some (.lst _) => true
    | _ => false := rfl
@[simp] theorem mAppend_eq {n : Nat} {y : D} {s : Sto} : mAppend (.obj n) [y] s = match nget s.m n with
    | some (.lst l) => if l.length < lim then .ok .non ⟨nset s.m n (.lst (l ++ [y])), s.g⟩ else .bad
    | _ => .bad := rfl
@[simp] theorem mPop_eq {n : Nat} {s : Sto} : mPop (.obj n) [] s = match nget s.m n with
    | some (.lst l) => match l[l.length - 1]? with
      | some y => .ok y ⟨nset s.m n (.lst l.dropLast), s.g⟩
      | none => .bad
    | _ => .bad := by
  unfold mPop onLst
  simp only []
  cases nget s.m n with
  | none => rfl
  | some o =>
    cases o with
    | lst l => simp only []; cases l[l.length - 1]? <;> rfl
    | _ => rfl
@[simp] theorem mPopAt_eq {n : Nat} {i : Int} {s : Sto} : mPopAt (.obj n) [.int i] s = match nget s.m n with
    | some (.lst l) => match ixN l.length i with
      | some k => if l.length < lim then optO l[k]? ⟨nset s.m n (.lst (l.eraseIdx k)), s.g⟩ else .bad
      | none => .bad
    | _ => .bad := rfl
@[simp] theorem mExtend_tup {n : Nat} {r : List D} {s : Sto} : mExtend (.obj n) [.tup r] s = match nget s.m n with
    | some (.lst l) => if l.length + r.length < lim then .ok .non ⟨nset s.m n (.lst (l ++ r)), s.g⟩ else .bad
    | _ => .bad := rfl
@[simp] theorem mExtend_obj {n k : Nat} {s : Sto} : mExtend (.obj n) [.obj k] s = match nget s.m n with
    | some (.lst l) => match nget s.m k with
      | some (.lst r) => if l.length + r.length < lim then .ok .non ⟨nset s.m n (.lst (l ++ r)), s.g⟩ else .bad
      | _ => .bad
    | _ => .bad := rfl
@[simp] theorem opSet_obj {n : Nat} {i : Int} {d : D} {s : Sto} : opSet (.obj n) (.int i) d s = match nget s.m n with
    | some (.lst l) => match ixN l.length i with
      | some j => .ok () ⟨nset s.m n (.lst (l.set j d)), s.g⟩
      | none => .bad
    | _ => .bad := rfl
@[simp] theorem opGet_obj {n : Nat} {i : Int} {s : Sto} : opGet (.obj n) (.int i) s = if 0 ≤ i ∧ i < 2 ^ 63 then opIx (.obj n) (.int i) s else .bad := (rfl)
@[simp] theorem srcOf_tup {l : List D} {s : Sto} : srcOf (.tup l) s = .ok ⟨l, none⟩ s := (rfl)
@[simp] theorem srcOf_obj {n : Nat} {s : Sto} : srcOf (.obj n) s = match nget s.m n with
    | some (.lst l) => .ok ⟨l, some (n, .lst l)⟩ s
    | some (.fro l) => .ok ⟨l, some (n, .fro l)⟩ s
    | _ => .bad := rfl
@[simp] theorem srcOf_kls {ns : List Int} {s : Sto} : srcOf (.kls ns) s = .ok ⟨ns.map .int, none⟩ s := (rfl)
@[simp] theorem mkObj_eq {o : MO} {s : Sto} : mkObj o s = .ok (.obj s.m.length) ⟨o :: s.m, s.g⟩ := (rfl)
@[simp] theorem mkLst_eq {l : List D} {s : Sto} : mkLst l s = if l.length < lim then .ok (.obj s.m.length) ⟨.lst l :: s.m, s.g⟩ else .bad := (rfl)
@[simp] theorem mkTup_eq {l : List D} {s : Sto} : mkTup l s = if l.length < lim then .ok (.tup l) s else .bad := (rfl)
@[simp] theorem lim_eq : lim = 1000000 := (rfl)
/-- nothing raised -/
def Out.noex {α : Type} (o : Out α) : Out α := match o with
  | .exc _ _ _ => Out.bad
  | r => r
@[simp] theorem noex_ok {α : Type} {a : α} {s : Sto} : (Out.ok a s).noex = .ok a s := (rfl)
@[simp] theorem nox_noex {G : List D → Sto → Out D} {ds : List D} {s : Sto} : nox G ds s = (G ds s).noex := by
  unfold nox Out.noex
  cases G ds s <;> rfl
@[simp] theorem srcOk_none {l : List D} {s : Sto} : Src.ok ⟨l, none⟩ s = True := (rfl)
@[simp] theorem srcOk_some {l : List D} {n : Nat} {o : MO} {s : Sto} : Src.ok ⟨l, some (n, o)⟩ s = (nget s.m n = some o) := (rfl)
theorem enumD_map {α : Type} (f : α → D) : ∀ (k : Nat) (l : List α), enumD k (l.map f) = (l.zipIdx k).map fun x => .tup [.int (x.2 : Nat), f x.1]
  | _, [] => rfl
  | k, a :: l => by
    show .tup [.int (k : Nat), f a] :: enumD (k + 1) (l.map f) = _
    rw [enumD_map f (k + 1) l]; rfl
/-- iRg1, iRg2, iRgD, iEnu as one sees them -/
theorem iRg2_ap {f g : DEnv → Sto → Out D} {δ : DEnv} {s : Sto} : iRg2 f g δ s = (f δ s).bind fun d s1 => (g δ s1).bind fun e s2 => match d, e with
  | .int i, .int j => if -(2 ^ 62) ≤ i ∧ i < 2 ^ 62 ∧ -(2 ^ 62) ≤ j ∧ j < 2 ^ 62 then .ok ⟨rgD2 i (j - i).toNat, none⟩ s2 else .bad
  | _, _ => .bad := by
  unfold iRg2 aCons aNil
  cases f δ s with
  | ok d s1 =>
    simp only [bind_ok]
    cases g δ s1 with
    | ok e s2 => cases d <;> cases e <;> rfl
    | exc c l s => rfl
    | bad => rfl
  | exc c l s => rfl
  | bad => rfl
/-! ### isinstance -/
theorem isi_of {d : D} {s : Sto} {t T : String} (h : tyD s d = some t) (k : kitB t T = some (isaB t T)) : fIsi [d, .typ T] s = .ok (.bl (isaB t T)) s := by
  unfold fIsi
  simp only [h, k, if_true]
@[simp] theorem isi_non_int  {s : Sto} : fIsi [.non, .typ "int"] s = .ok (.bl false) s := isi_of (t := "NoneType") (rfl) (by decide +kernel)
@[simp] theorem isi_non_bool  {s : Sto} : fIsi [.non, .typ "bool"] s = .ok (.bl false) s := isi_of (t := "NoneType") (rfl) (by decide +kernel)
@[simp] theorem isi_non_str  {s : Sto} : fIsi [.non, .typ "str"] s = .ok (.bl false) s := isi_of (t := "NoneType") (rfl) (by decide +kernel)
@[simp] theorem isi_non_tuple  {s : Sto} : fIsi [.non, .typ "tuple"] s = .ok (.bl false) s := isi_of (t := "NoneType") (rfl) (by decide +kernel)
@[simp] theorem isi_non_list  {s : Sto} : fIsi [.non, .typ "list"] s = .ok (.bl false) s := isi_of (t := "NoneType") (rfl) (by decide +kernel)
@[simp] theorem isi_non_dict  {s : Sto} : fIsi [.non, .typ "dict"] s = .ok (.bl false) s := isi_of (t := "NoneType") (rfl) (by decide +kernel)
@[simp] theorem isi_bl_int {b : Bool} {s : Sto} : fIsi [(.bl b), .typ "int"] s = .ok (.bl true) s := isi_of (t := "bool") (rfl) (by decide +kernel)
@[simp] theorem isi_bl_bool {b : Bool} {s : Sto} : fIsi [(.bl b), .typ "bool"] s = .ok (.bl true) s := isi_of (t := "bool") (rfl) (by decide +kernel)
@[simp] theorem isi_bl_str {b : Bool} {s : Sto} : fIsi [(.bl b), .typ "str"] s = .ok (.bl false) s := isi_of (t := "bool") (rfl) (by decide +kernel)
@[simp] theorem isi_bl_tuple {b : Bool} {s : Sto} : fIsi [(.bl b), .typ "tuple"] s = .ok (.bl false) s := isi_of (t := "bool") (rfl) (by decide +kernel)
@[simp] theorem isi_bl_list {b : Bool} {s : Sto} : fIsi [(.bl b), .typ "list"] s = .ok (.bl false) s := isi_of (t := "bool") (rfl) (by decide +kernel)
@[simp] theorem isi_bl_dict {b : Bool} {s : Sto} : fIsi [(.bl b), .typ "dict"] s = .ok (.bl false) s := isi_of (t := "bool") (rfl) (by decide +kernel)
@[simp] theorem isi_int_int {i : Int} {s : Sto} : fIsi [(.int i), .typ "int"] s = .ok (.bl true) s := isi_of (t := "int") (rfl) (by decide +kernel)
@[simp] theorem isi_int_bool {i : Int} {s : Sto} : fIsi [(.int i), .typ "bool"] s = .ok (.bl false) s := isi_of (t := "int") (rfl) (by decide +kernel)
@[simp] theorem isi_int_str {i : Int} {s : Sto} : fIsi [(.int i), .typ "str"] s = .ok (.bl false) s := isi_of (t := "int") (rfl) (by decide +kernel)
@[simp] theorem isi_int_tuple {i : Int} {s : Sto} : fIsi [(.int i), .typ "tuple"] s = .ok (.bl false) s := isi_of (t := "int") (rfl) (by decide +kernel)
@[simp] theorem isi_int_list {i : Int} {s : Sto} : fIsi [(.int i), .typ "list"] s = .ok (.bl false) s := isi_of (t := "int") (rfl) (by decide +kernel)
@[simp] theorem isi_int_dict {i : Int} {s : Sto} : fIsi [(.int i), .typ "dict"] s = .ok (.bl false) s := isi_of (t := "int") (rfl) (by decide +kernel)
@[simp] theorem isi_str_int {x : Str} {s : Sto} : fIsi [(.str x), .typ "int"] s = .ok (.bl false) s := isi_of (t := "str") (rfl) (by decide +kernel)
@[simp] theorem isi_str_bool {x : Str} {s : Sto} : fIsi [(.str x), .typ "bool"] s = .ok (.bl false) s := isi_of (t := "str") (rfl) (by decide +kernel)
@[simp] theorem isi_str_str {x : Str} {s : Sto} : fIsi [(.str x), .typ "str"] s = .ok (.bl true) s := isi_of (t := "str") (rfl) (by decide +kernel)
@[simp] theorem isi_str_tuple {x : Str} {s : Sto} : fIsi [(.str x), .typ "tuple"] s = .ok (.bl false) s := isi_of (t := "str") (rfl) (by decide +kernel)
@[simp] theorem isi_str_list {x : Str} {s : Sto} : fIsi [(.str x), .typ "list"] s = .ok (.bl false) s := isi_of (t := "str") (rfl) (by decide +kernel)
@[simp] theorem isi_str_dict {x : Str} {s : Sto} : fIsi [(.str x), .typ "dict"] s = .ok (.bl false) s := isi_of (t := "str") (rfl) (by decide +kernel)
@[simp] theorem isi_tup_int {l : List D} {s : Sto} : fIsi [(.tup l), .typ "int"] s = .ok (.bl false) s := isi_of (t := "tuple") (rfl) (by decide +kernel)
@[simp] theorem isi_tup_bool {l : List D} {s : Sto} : fIsi [(.tup l), .typ "bool"] s = .ok (.bl false) s := isi_of (t := "tuple") (rfl) (by decide +kernel)
@[simp] theorem isi_tup_str {l : List D} {s : Sto} : fIsi [(.tup l), .typ "str"] s = .ok (.bl false) s := isi_of (t := "tuple") (rfl) (by decide +kernel)
@[simp] theorem isi_tup_tuple {l : List D} {s : Sto} : fIsi [(.tup l), .typ "tuple"] s = .ok (.bl true) s := isi_of (t := "tuple") (rfl) (by decide +kernel)
@[simp] theorem isi_tup_list {l : List D} {s : Sto} : fIsi [(.tup l), .typ "list"] s = .ok (.bl false) s := isi_of (t := "tuple") (rfl) (by decide +kernel)
@[simp] theorem isi_tup_dict {l : List D} {s : Sto} : fIsi [(.tup l), .typ "dict"] s = .ok (.bl false) s := isi_of (t := "tuple") (rfl) (by decide +kernel)
/-! ### K words: continuations that simp does not enter -/
def kA2 (d : D) (oo : Out (List D)) : Out (List D) := oo.bind fun ds s2 => .ok (d :: ds) s2
@[simp] theorem kA2_ok {d : D} {ds : List D} {s : Sto} : kA2 d (.ok ds s) = .ok (d :: ds) s := (rfl)
@[simp] theorem kA2_exc {d : D} {cc : Addr} {ll : List (Str × D)} {s : Sto} : kA2 d (.exc cc ll s) = .exc cc ll s := (rfl)
@[simp] theorem kA2_bad {d : D} : kA2 d .bad = .bad := (rfl)
def kA1 (g : DEnv → Sto → Out (List D)) (δ : DEnv) (oo : Out D) : Out (List D) := oo.bind fun d s1 => kA2 d (g δ s1)
@[simp] theorem kA1_ok {g : DEnv → Sto → Out (List D)} {δ : DEnv} {d : D} {s : Sto} : kA1 g δ (.ok d s) = kA2 d (g δ s) := (rfl)
@[simp] theorem kA1_exc {g : DEnv → Sto → Out (List D)} {δ : DEnv} {cc : Addr} {ll : List (Str × D)} {s : Sto} : kA1 g δ (.exc cc ll s) = .exc cc ll s := (rfl)
@[simp] theorem kA1_bad {g : DEnv → Sto → Out (List D)} {δ : DEnv} : kA1 g δ .bad = .bad := (rfl)
@[simp] theorem aCons_run {f : DEnv → Sto → Out D} {g : DEnv → Sto → Out (List D)} {δ : DEnv} {s : Sto} : aCons f g δ s = kA1 g δ (f δ s) := (rfl)
@[simp] theorem aNil_run {δ : DEnv} {s : Sto} : aNil δ s = .ok [] s := (rfl)
@[simp] theorem eC_run {d : D} {δ : DEnv} {s : Sto} : eC d δ s = .ok d s := (rfl)
@[simp] theorem cYes_run {δ : DEnv} {s : Sto} : cYes δ s = .ok true s := (rfl)
@[simp] theorem oNone_run {δ : DEnv} {s : Sto} : oNone δ s = .ok none s := (rfl)
@[simp] theorem sNil_run {δ : DEnv} {s : Sto} : sNil δ s = .nx δ s := (rfl)
@[simp] theorem sRetN_run {δ : DEnv} {s : Sto} : sRetN δ s = .rt .non s := (rfl)
@[simp] theorem sBrk_run {δ : DEnv} {s : Sto} : sBrk δ s = .bk δ s := (rfl)
@[simp] theorem sCnt_run {δ : DEnv} {s : Sto} : sCnt δ s = .ct δ s := (rfl)
@[simp] theorem cClean_run {f : DEnv → Sto → Out Bool} {δ : DEnv} {s : Sto} : cClean f δ s = cleanB s (f δ s) := (rfl)
@[simp] theorem eClean_run {f : DEnv → Sto → Out D} {δ : DEnv} {s : Sto} : eClean f δ s = clean s (f δ s) := (rfl)
def kTup  (oo : Out (List D)) : Out D := oo.bind mkTup
@[simp] theorem kTup_ok  {ds : List D} {s : Sto} : kTup  (.ok ds s) = mkTup ds s := (rfl)
@[simp] theorem kTup_exc  {cc : Addr} {ll : List (Str × D)} {s : Sto} : kTup  (.exc cc ll s) = .exc cc ll s := (rfl)
@[simp] theorem kTup_bad  : kTup  .bad = .bad := (rfl)
@[simp] theorem eTup_run {g : DEnv → Sto → Out (List D)} {δ : DEnv} {s : Sto} : eTup g δ s = kTup (g δ s) := (rfl)
def kLst  (oo : Out (List D)) : Out D := oo.bind mkLst
@[simp] theorem kLst_ok  {ds : List D} {s : Sto} : kLst  (.ok ds s) = mkLst ds s := (rfl)
@[simp] theorem kLst_exc  {cc : Addr} {ll : List (Str × D)} {s : Sto} : kLst  (.exc cc ll s) = .exc cc ll s := (rfl)
@[simp] theorem kLst_bad  : kLst  .bad = .bad := (rfl)
@[simp] theorem eLst_run {g : DEnv → Sto → Out (List D)} {δ : DEnv} {s : Sto} : eLst g δ s = kLst (g δ s) := (rfl)
def kOp2 (op : D → D → Sto → Out D) (x : D) (oo : Out D) : Out D := oo.bind fun y s2 => op x y s2
@[simp] theorem kOp2_ok {op : D → D → Sto → Out D} {x : D} {y : D} {s : Sto} : kOp2 op x (.ok y s) = op x y s := (rfl)
@[simp] theorem kOp2_exc {op : D → D → Sto → Out D} {x : D} {cc : Addr} {ll : List (Str × D)} {s : Sto} : kOp2 op x (.exc cc ll s) = .exc cc ll s := (rfl)
@[simp] theorem kOp2_bad {op : D → D → Sto → Out D} {x : D} : kOp2 op x .bad = .bad := (rfl)
def kOp1 (op : D → D → Sto → Out D) (g : DEnv → Sto → Out D) (δ : DEnv) (oo : Out D) : Out D := oo.bind fun x s1 => kOp2 op x (g δ s1)
@[simp] theorem kOp1_ok {op : D → D → Sto → Out D} {g : DEnv → Sto → Out D} {δ : DEnv} {x : D} {s : Sto} : kOp1 op g δ (.ok x s) = kOp2 op x (g δ s) := (rfl)
@[simp] theorem kOp1_exc {op : D → D → Sto → Out D} {g : DEnv → Sto → Out D} {δ : DEnv} {cc : Addr} {ll : List (Str × D)} {s : Sto} : kOp1 op g δ (.exc cc ll s) = .exc cc ll s := (rfl)
@[simp] theorem kOp1_bad {op : D → D → Sto → Out D} {g : DEnv → Sto → Out D} {δ : DEnv} : kOp1 op g δ .bad = .bad := (rfl)
@[simp] theorem eBin_run {op : D → D → Sto → Out D} {f g : DEnv → Sto → Out D} {δ : DEnv} {s : Sto} : eBin op f g δ s = kOp1 op g δ (f δ s) := (rfl)
def kUn (op : D → Sto → Out D) (oo : Out D) : Out D := oo.bind op
@[simp] theorem kUn_ok {op : D → Sto → Out D} {x : D} {s : Sto} : kUn op (.ok x s) = op x s := (rfl)
@[simp] theorem kUn_exc {op : D → Sto → Out D} {cc : Addr} {ll : List (Str × D)} {s : Sto} : kUn op (.exc cc ll s) = .exc cc ll s := (rfl)
@[simp] theorem kUn_bad {op : D → Sto → Out D} : kUn op .bad = .bad := (rfl)
@[simp] theorem eUn_run {op : D → Sto → Out D} {f : DEnv → Sto → Out D} {δ : DEnv} {s : Sto} : eUn op f δ s = kUn op (f δ s) := (rfl)
def kB  (oo : Out D) : Out Bool := oo.bind fun d s1 => match d with
  | .bl b => .ok b s1
  | _ => .bad
@[simp] theorem kB_ok  {b : Bool} {s : Sto} : kB  (.ok (D.bl b) s) = .ok b s := (rfl)
@[simp] theorem kB_exc  {cc : Addr} {ll : List (Str × D)} {s : Sto} : kB  (.exc cc ll s) = .exc cc ll s := (rfl)
@[simp] theorem kB_bad  : kB  .bad = .bad := (rfl)
@[simp] theorem cB_run {f : DEnv → Sto → Out D} {δ : DEnv} {s : Sto} : cB f δ s = kB (f δ s) := (rfl)
def kTru  (oo : Out D) : Out Bool := oo.bind fun d s1 => tru d s1 fun b => .ok b s1
@[simp] theorem kTru_bl  {b : Bool} {s : Sto} : kTru  (.ok (D.bl b) s) = .ok b s := (rfl)
@[simp] theorem kTru_int  {i : Int} {s : Sto} : kTru  (.ok (D.int i) s) = .ok (i != 0) s := (rfl)
@[simp] theorem kTru_tup  {l : List D} {s : Sto} : kTru  (.ok (D.tup l) s) = .ok (!l.isEmpty) s := (rfl)
@[simp] theorem kTru_non   {s : Sto} : kTru  (.ok D.non s) = .ok false s := (rfl)
@[simp] theorem kTru_ok  {d : D} {s : Sto} : kTru  (.ok d s) = tru d s fun b => .ok b s := (rfl)
@[simp] theorem kTru_exc  {cc : Addr} {ll : List (Str × D)} {s : Sto} : kTru  (.exc cc ll s) = .exc cc ll s := (rfl)
@[simp] theorem kTru_bad  : kTru  .bad = .bad := (rfl)
@[simp] theorem cTru_run {f : DEnv → Sto → Out D} {δ : DEnv} {s : Sto} : cTru f δ s = kTru (f δ s) := (rfl)
def kAnd (c : DEnv → Sto → Out Bool) (δ : DEnv) (oo : Out Bool) : Out Bool := oo.bind fun b s1 => if b = true then c δ s1 else .ok false s1
@[simp] theorem kAnd_t {c : DEnv → Sto → Out Bool} {δ : DEnv}  {s : Sto} : kAnd c δ (.ok true s) = c δ s := (rfl)
@[simp] theorem kAnd_f {c : DEnv → Sto → Out Bool} {δ : DEnv}  {s : Sto} : kAnd c δ (.ok false s) = .ok false s := (rfl)
@[simp] theorem kAnd_ok {c : DEnv → Sto → Out Bool} {δ : DEnv} {b : Bool} {s : Sto} : kAnd c δ (.ok b s) = if b = true then c δ s else .ok false s := (rfl)
@[simp] theorem kAnd_exc {c : DEnv → Sto → Out Bool} {δ : DEnv} {cc : Addr} {ll : List (Str × D)} {s : Sto} : kAnd c δ (.exc cc ll s) = .exc cc ll s := (rfl)
@[simp] theorem kAnd_bad {c : DEnv → Sto → Out Bool} {δ : DEnv} : kAnd c δ .bad = .bad := (rfl)
@[simp] theorem cAnd_run {c d : DEnv → Sto → Out Bool} {δ : DEnv} {s : Sto} : cAnd c d δ s = kAnd d δ (c δ s) := (rfl)
def kOr (c : DEnv → Sto → Out Bool) (δ : DEnv) (oo : Out Bool) : Out Bool := oo.bind fun b s1 => if b = true then .ok true s1 else c δ s1
@[simp] theorem kOr_t {c : DEnv → Sto → Out Bool} {δ : DEnv}  {s : Sto} : kOr c δ (.ok true s) = .ok true s := (rfl)
@[simp] theorem kOr_f {c : DEnv → Sto → Out Bool} {δ : DEnv}  {s : Sto} : kOr c δ (.ok false s) = c δ s := (rfl)
@[simp] theorem kOr_ok {c : DEnv → Sto → Out Bool} {δ : DEnv} {b : Bool} {s : Sto} : kOr c δ (.ok b s) = if b = true then .ok true s else c δ s := (rfl)
@[simp] theorem kOr_exc {c : DEnv → Sto → Out Bool} {δ : DEnv} {cc : Addr} {ll : List (Str × D)} {s : Sto} : kOr c δ (.exc cc ll s) = .exc cc ll s := (rfl)
@[simp] theorem kOr_bad {c : DEnv → Sto → Out Bool} {δ : DEnv} : kOr c δ .bad = .bad := (rfl)
@[simp] theorem cOr_run {c d : DEnv → Sto → Out Bool} {δ : DEnv} {s : Sto} : cOr c d δ s = kOr d δ (c δ s) := (rfl)
def kNot  (oo : Out Bool) : Out Bool := oo.bind fun b s1 => .ok (!b) s1
@[simp] theorem kNot_ok  {b : Bool} {s : Sto} : kNot  (.ok b s) = .ok (!b) s := (rfl)
@[simp] theorem kNot_exc  {cc : Addr} {ll : List (Str × D)} {s : Sto} : kNot  (.exc cc ll s) = .exc cc ll s := (rfl)
@[simp] theorem kNot_bad  : kNot  .bad = .bad := (rfl)
@[simp] theorem cNot_run {c : DEnv → Sto → Out Bool} {δ : DEnv} {s : Sto} : cNot c δ s = kNot (c δ s) := (rfl)
def kIf (f g : DEnv → Sto → Out D) (δ : DEnv) (oo : Out Bool) : Out D := oo.bind fun b s1 => if b = true then f δ s1 else g δ s1
@[simp] theorem kIf_t {f g : DEnv → Sto → Out D} {δ : DEnv}  {s : Sto} : kIf f g δ (.ok true s) = f δ s := (rfl)
@[simp] theorem kIf_f {f g : DEnv → Sto → Out D} {δ : DEnv}  {s : Sto} : kIf f g δ (.ok false s) = g δ s := (rfl)
@[simp] theorem kIf_ok {f g : DEnv → Sto → Out D} {δ : DEnv} {b : Bool} {s : Sto} : kIf f g δ (.ok b s) = if b = true then f δ s else g δ s := (rfl)
@[simp] theorem kIf_exc {f g : DEnv → Sto → Out D} {δ : DEnv} {cc : Addr} {ll : List (Str × D)} {s : Sto} : kIf f g δ (.exc cc ll s) = .exc cc ll s := (rfl)
@[simp] theorem kIf_bad {f g : DEnv → Sto → Out D} {δ : DEnv} : kIf f g δ .bad = .bad := (rfl)
@[simp] theorem eIf_run {c : DEnv → Sto → Out Bool} {f g : DEnv → Sto → Out D} {δ : DEnv} {s : Sto} : eIf c f g δ s = kIf f g δ (c δ s) := (rfl)
def kEAnd (g : DEnv → Sto → Out D) (δ : DEnv) (oo : Out D) : Out D := oo.bind fun d s1 => tru d s1 fun b => if b = true then g δ s1 else .ok d s1
@[simp] theorem kEAnd_bl {g : DEnv → Sto → Out D} {δ : DEnv} {b : Bool} {s : Sto} : kEAnd g δ (.ok (D.bl b) s) = if b = true then g δ s else .ok (.bl b) s := (rfl)
@[simp] theorem kEAnd_int {g : DEnv → Sto → Out D} {δ : DEnv} {i : Int} {s : Sto} : kEAnd g δ (.ok (D.int i) s) = if (i != 0) = true then g δ s else .ok (.int i) s := (rfl)
@[simp] theorem kEAnd_ok {g : DEnv → Sto → Out D} {δ : DEnv} {d : D} {s : Sto} : kEAnd g δ (.ok d s) = tru d s fun b => if b = true then g δ s else .ok d s := (rfl)
@[simp] theorem kEAnd_exc {g : DEnv → Sto → Out D} {δ : DEnv} {cc : Addr} {ll : List (Str × D)} {s : Sto} : kEAnd g δ (.exc cc ll s) = .exc cc ll s := (rfl)
@[simp] theorem kEAnd_bad {g : DEnv → Sto → Out D} {δ : DEnv} : kEAnd g δ .bad = .bad := (rfl)
@[simp] theorem eAnd_run {f g : DEnv → Sto → Out D} {δ : DEnv} {s : Sto} : eAnd f g δ s = kEAnd g δ (f δ s) := (rfl)
def kEOr (g : DEnv → Sto → Out D) (δ : DEnv) (oo : Out D) : Out D := oo.bind fun d s1 => tru d s1 fun b => if b = true then .ok d s1 else g δ s1
@[simp] theorem kEOr_bl {g : DEnv → Sto → Out D} {δ : DEnv} {b : Bool} {s : Sto} : kEOr g δ (.ok (D.bl b) s) = if b = true then .ok (.bl b) s else g δ s := (rfl)
@[simp] theorem kEOr_int {g : DEnv → Sto → Out D} {δ : DEnv} {i : Int} {s : Sto} : kEOr g δ (.ok (D.int i) s) = if (i != 0) = true then .ok (.int i) s else g δ s := (rfl)
@[simp] theorem kEOr_ok {g : DEnv → Sto → Out D} {δ : DEnv} {d : D} {s : Sto} : kEOr g δ (.ok d s) = tru d s fun b => if b = true then .ok d s else g δ s := (rfl)
@[simp] theorem kEOr_exc {g : DEnv → Sto → Out D} {δ : DEnv} {cc : Addr} {ll : List (Str × D)} {s : Sto} : kEOr g δ (.exc cc ll s) = .exc cc ll s := (rfl)
@[simp] theorem kEOr_bad {g : DEnv → Sto → Out D} {δ : DEnv} : kEOr g δ .bad = .bad := (rfl)
@[simp] theorem eOr_run {f g : DEnv → Sto → Out D} {δ : DEnv} {s : Sto} : eOr f g δ s = kEOr g δ (f δ s) := (rfl)
def kENot  (oo : Out D) : Out D := oo.bind fun d s1 => tru d s1 fun b => .ok (.bl (!b)) s1
@[simp] theorem kENot_bl  {b : Bool} {s : Sto} : kENot  (.ok (D.bl b) s) = .ok (.bl (!b)) s := (rfl)
@[simp] theorem kENot_int  {i : Int} {s : Sto} : kENot  (.ok (D.int i) s) = .ok (.bl (!(i != 0))) s := (rfl)
@[simp] theorem kENot_non   {s : Sto} : kENot  (.ok D.non s) = .ok (.bl true) s := (rfl)
@[simp] theorem kENot_ok  {d : D} {s : Sto} : kENot  (.ok d s) = tru d s fun b => .ok (.bl (!b)) s := (rfl)
@[simp] theorem kENot_exc  {cc : Addr} {ll : List (Str × D)} {s : Sto} : kENot  (.exc cc ll s) = .exc cc ll s := (rfl)
@[simp] theorem kENot_bad  : kENot  .bad = .bad := (rfl)
@[simp] theorem eNot_run {f : DEnv → Sto → Out D} {δ : DEnv} {s : Sto} : eNot f δ s = kENot (f δ s) := (rfl)
def kCh4 (op : D → D → Sto → Out D) (y : D) (oo : Out D) : Out D := oo.bind fun u s4 => op y u s4
@[simp] theorem kCh4_ok {op : D → D → Sto → Out D} {y : D} {u : D} {s : Sto} : kCh4 op y (.ok u s) = op y u s := (rfl)
@[simp] theorem kCh4_exc {op : D → D → Sto → Out D} {y : D} {cc : Addr} {ll : List (Str × D)} {s : Sto} : kCh4 op y (.exc cc ll s) = .exc cc ll s := (rfl)
@[simp] theorem kCh4_bad {op : D → D → Sto → Out D} {y : D} : kCh4 op y .bad = .bad := (rfl)
def kCh3 (op : D → D → Sto → Out D) (h : DEnv → Sto → Out D) (δ : DEnv) (y : D) (oo : Out D) : Out D := oo.bind fun z s3 => match z with
  | .bl true => kCh4 op y (h δ s3)
  | .bl false => .ok (.bl false) s3
  | _ => .bad
@[simp] theorem kCh3_t {op : D → D → Sto → Out D} {h : DEnv → Sto → Out D} {δ : DEnv} {y : D}  {s : Sto} : kCh3 op h δ y (.ok (D.bl true) s) = kCh4 op y (h δ s) := (rfl)
@[simp] theorem kCh3_f {op : D → D → Sto → Out D} {h : DEnv → Sto → Out D} {δ : DEnv} {y : D}  {s : Sto} : kCh3 op h δ y (.ok (D.bl false) s) = .ok (.bl false) s := (rfl)
@[simp] theorem kCh3_exc {op : D → D → Sto → Out D} {h : DEnv → Sto → Out D} {δ : DEnv} {y : D} {cc : Addr} {ll : List (Str × D)} {s : Sto} : kCh3 op h δ y (.exc cc ll s) = .exc cc ll s := (rfl)
@[simp] theorem kCh3_bad {op : D → D → Sto → Out D} {h : DEnv → Sto → Out D} {δ : DEnv} {y : D} : kCh3 op h δ y .bad = .bad := (rfl)
theorem kCh3_bl {op : D → D → Sto → Out D} {h : DEnv → Sto → Out D} {δ : DEnv} {y : D} {b : Bool} {s : Sto} : kCh3 op h δ y (.ok (D.bl b) s) = if b = true then kCh4 op y (h δ s) else .ok (.bl false) s := by cases b <;> rfl
def kCh2 (op op' : D → D → Sto → Out D) (h : DEnv → Sto → Out D) (δ : DEnv) (x : D) (oo : Out D) : Out D := oo.bind fun y s2 => kCh3 op' h δ y (op x y s2)
@[simp] theorem kCh2_ok {op op' : D → D → Sto → Out D} {h : DEnv → Sto → Out D} {δ : DEnv} {x : D} {y : D} {s : Sto} : kCh2 op op' h δ x (.ok y s) = kCh3 op' h δ y (op x y s) := (rfl)
@[simp] theorem kCh2_exc {op op' : D → D → Sto → Out D} {h : DEnv → Sto → Out D} {δ : DEnv} {x : D} {cc : Addr} {ll : List (Str × D)} {s : Sto} : kCh2 op op' h δ x (.exc cc ll s) = .exc cc ll s := (rfl)
@[simp] theorem kCh2_bad {op op' : D → D → Sto → Out D} {h : DEnv → Sto → Out D} {δ : DEnv} {x : D} : kCh2 op op' h δ x .bad = .bad := (rfl)
def kCh1 (op op' : D → D → Sto → Out D) (g h : DEnv → Sto → Out D) (δ : DEnv) (oo : Out D) : Out D := oo.bind fun x s1 => kCh2 op op' h δ x (g δ s1)
@[simp] theorem kCh1_ok {op op' : D → D → Sto → Out D} {g h : DEnv → Sto → Out D} {δ : DEnv} {x : D} {s : Sto} : kCh1 op op' g h δ (.ok x s) = kCh2 op op' h δ x (g δ s) := (rfl)
@[simp] theorem kCh1_exc {op op' : D → D → Sto → Out D} {g h : DEnv → Sto → Out D} {δ : DEnv} {cc : Addr} {ll : List (Str × D)} {s : Sto} : kCh1 op op' g h δ (.exc cc ll s) = .exc cc ll s := (rfl)
@[simp] theorem kCh1_bad {op op' : D → D → Sto → Out D} {g h : DEnv → Sto → Out D} {δ : DEnv} : kCh1 op op' g h δ .bad = .bad := (rfl)
@[simp] theorem eChain_run {op op' : D → D → Sto → Out D} {f g h : DEnv → Sto → Out D} {δ : DEnv} {s : Sto} : eChain op op' f g h δ s = kCh1 op op' g h δ (f δ s) := (rfl)
def kSl3 (d : D) (l : Option Int) (oo : Out (Option Int)) : Out D := oo.bind fun h s3 => opSl d l h s3
@[simp] theorem kSl3_ok {d : D} {l : Option Int} {h : Option Int} {s : Sto} : kSl3 d l (.ok h s) = opSl d l h s := (rfl)
@[simp] theorem kSl3_exc {d : D} {l : Option Int} {cc : Addr} {ll : List (Str × D)} {s : Sto} : kSl3 d l (.exc cc ll s) = .exc cc ll s := (rfl)
@[simp] theorem kSl3_bad {d : D} {l : Option Int} : kSl3 d l .bad = .bad := (rfl)
def kSl2 (hi : DEnv → Sto → Out (Option Int)) (δ : DEnv) (d : D) (oo : Out (Option Int)) : Out D := oo.bind fun l s2 => kSl3 d l (hi δ s2)
@[simp] theorem kSl2_ok {hi : DEnv → Sto → Out (Option Int)} {δ : DEnv} {d : D} {l : Option Int} {s : Sto} : kSl2 hi δ d (.ok l s) = kSl3 d l (hi δ s) := (rfl)
@[simp] theorem kSl2_exc {hi : DEnv → Sto → Out (Option Int)} {δ : DEnv} {d : D} {cc : Addr} {ll : List (Str × D)} {s : Sto} : kSl2 hi δ d (.exc cc ll s) = .exc cc ll s := (rfl)
@[simp] theorem kSl2_bad {hi : DEnv → Sto → Out (Option Int)} {δ : DEnv} {d : D} : kSl2 hi δ d .bad = .bad := (rfl)
def kSl1 (lo hi : DEnv → Sto → Out (Option Int)) (δ : DEnv) (oo : Out D) : Out D := oo.bind fun d s1 => kSl2 hi δ d (lo δ s1)
@[simp] theorem kSl1_ok {lo hi : DEnv → Sto → Out (Option Int)} {δ : DEnv} {d : D} {s : Sto} : kSl1 lo hi δ (.ok d s) = kSl2 hi δ d (lo δ s) := (rfl)
@[simp] theorem kSl1_exc {lo hi : DEnv → Sto → Out (Option Int)} {δ : DEnv} {cc : Addr} {ll : List (Str × D)} {s : Sto} : kSl1 lo hi δ (.exc cc ll s) = .exc cc ll s := (rfl)
@[simp] theorem kSl1_bad {lo hi : DEnv → Sto → Out (Option Int)} {δ : DEnv} : kSl1 lo hi δ .bad = .bad := (rfl)
@[simp] theorem eSl_run {f : DEnv → Sto → Out D} {lo hi : DEnv → Sto → Out (Option Int)} {δ : DEnv} {s : Sto} : eSl f lo hi δ s = kSl1 lo hi δ (f δ s) := (rfl)
def kSome  (oo : Out D) : Out (Option Int) := oo.bind fun d s1 => match d with
  | .int i => .ok (some i) s1
  | _ => .bad
@[simp] theorem kSome_ok  {i : Int} {s : Sto} : kSome  (.ok (D.int i) s) = .ok (some i) s := (rfl)
@[simp] theorem kSome_exc  {cc : Addr} {ll : List (Str × D)} {s : Sto} : kSome  (.exc cc ll s) = .exc cc ll s := (rfl)
@[simp] theorem kSome_bad  : kSome  .bad = .bad := (rfl)
@[simp] theorem oSome_run {f : DEnv → Sto → Out D} {δ : DEnv} {s : Sto} : oSome f δ s = kSome (f δ s) := (rfl)
def kCall (op : List D → Sto → Out D) (oo : Out (List D)) : Out D := oo.bind op
@[simp] theorem kCall_ok {op : List D → Sto → Out D} {ds : List D} {s : Sto} : kCall op (.ok ds s) = op ds s := (rfl)
@[simp] theorem kCall_exc {op : List D → Sto → Out D} {cc : Addr} {ll : List (Str × D)} {s : Sto} : kCall op (.exc cc ll s) = .exc cc ll s := (rfl)
@[simp] theorem kCall_bad {op : List D → Sto → Out D} : kCall op .bad = .bad := (rfl)
@[simp] theorem eCall_run {op : List D → Sto → Out D} {g : DEnv → Sto → Out (List D)} {δ : DEnv} {s : Sto} : eCall op g δ s = kCall op (g δ s) := (rfl)
def kFn (n : Nat) (G : List D → Sto → Out D) (oo : Out (List D)) : Out D := oo.bind fun ds s1 => if ds.length = n then nox G ds s1 else .bad
@[simp] theorem kFn_ok {n : Nat} {G : List D → Sto → Out D} {ds : List D} {s : Sto} : kFn n G (.ok ds s) = if ds.length = n then nox G ds s else .bad := (rfl)
@[simp] theorem kFn_exc {n : Nat} {G : List D → Sto → Out D} {cc : Addr} {ll : List (Str × D)} {s : Sto} : kFn n G (.exc cc ll s) = .exc cc ll s := (rfl)
@[simp] theorem kFn_bad {n : Nat} {G : List D → Sto → Out D} : kFn n G .bad = .bad := (rfl)
@[simp] theorem eFn_run {n : Nat} {G : List D → Sto → Out D} {g : DEnv → Sto → Out (List D)} {δ : DEnv} {s : Sto} : eFn n G g δ s = kFn n G (g δ s) := (rfl)
def kMt2 (op : D → List D → Sto → Out D) (d : D) (oo : Out (List D)) : Out D := oo.bind fun ds s2 => op d ds s2
@[simp] theorem kMt2_ok {op : D → List D → Sto → Out D} {d : D} {ds : List D} {s : Sto} : kMt2 op d (.ok ds s) = op d ds s := (rfl)
@[simp] theorem kMt2_exc {op : D → List D → Sto → Out D} {d : D} {cc : Addr} {ll : List (Str × D)} {s : Sto} : kMt2 op d (.exc cc ll s) = .exc cc ll s := (rfl)
@[simp] theorem kMt2_bad {op : D → List D → Sto → Out D} {d : D} : kMt2 op d .bad = .bad := (rfl)
def kMt1 (op : D → List D → Sto → Out D) (g : DEnv → Sto → Out (List D)) (δ : DEnv) (oo : Out D) : Out D := oo.bind fun d s1 => if isLst s1 d = true then kMt2 op d (g δ s1) else .bad
@[simp] theorem kMt1_ok {op : D → List D → Sto → Out D} {g : DEnv → Sto → Out (List D)} {δ : DEnv} {d : D} {s : Sto} : kMt1 op g δ (.ok d s) = if isLst s d = true then kMt2 op d (g δ s) else .bad := (rfl)
@[simp] theorem kMt1_exc {op : D → List D → Sto → Out D} {g : DEnv → Sto → Out (List D)} {δ : DEnv} {cc : Addr} {ll : List (Str × D)} {s : Sto} : kMt1 op g δ (.exc cc ll s) = .exc cc ll s := (rfl)
@[simp] theorem kMt1_bad {op : D → List D → Sto → Out D} {g : DEnv → Sto → Out (List D)} {δ : DEnv} : kMt1 op g δ .bad = .bad := (rfl)
@[simp] theorem eMeth_run {op : D → List D → Sto → Out D} {f : DEnv → Sto → Out D} {g : DEnv → Sto → Out (List D)} {δ : DEnv} {s : Sto} : eMeth op f g δ s = kMt1 op g δ (f δ s) := (rfl)
def kMt0 (op : D → List D → Sto → Out D) (oo : Out D) : Out D := oo.bind fun d s1 => if isLst s1 d = true then op d [] s1 else .bad
@[simp] theorem kMt0_ok {op : D → List D → Sto → Out D} {d : D} {s : Sto} : kMt0 op (.ok d s) = if isLst s d = true then op d [] s else .bad := (rfl)
@[simp] theorem kMt0_exc {op : D → List D → Sto → Out D} {cc : Addr} {ll : List (Str × D)} {s : Sto} : kMt0 op (.exc cc ll s) = .exc cc ll s := (rfl)
@[simp] theorem kMt0_bad {op : D → List D → Sto → Out D} : kMt0 op .bad = .bad := (rfl)
@[simp] theorem eMeth0_run {op : D → List D → Sto → Out D} {f : DEnv → Sto → Out D} {δ : DEnv} {s : Sto} : eMeth0 op f δ s = kMt0 op (f δ s) := (rfl)
def kLrg (t : Bool) (oo : Out D) : Out D := oo.bind fun d s1 => match d with
  | .int n => if -(2 ^ 62) ≤ n ∧ n < 1000000 then (if t = true then .ok (.tup (rgD n.toNat)) s1 else mkObj (.lst (rgD n.toNat)) s1) else .bad
  | _ => .bad
@[simp] theorem kLrg_ok {t : Bool} {n : Int} {s : Sto} : kLrg t (.ok (D.int n) s) = if -(2 ^ 62) ≤ n ∧ n < 1000000 then (if t = true then .ok (.tup (rgD n.toNat)) s else mkObj (.lst (rgD n.toNat)) s) else .bad := (rfl)
@[simp] theorem kLrg_exc {t : Bool} {cc : Addr} {ll : List (Str × D)} {s : Sto} : kLrg t (.exc cc ll s) = .exc cc ll s := (rfl)
@[simp] theorem kLrg_bad {t : Bool} : kLrg t .bad = .bad := (rfl)
@[simp] theorem eLrg_run {t : Bool} {f : DEnv → Sto → Out D} {δ : DEnv} {s : Sto} : eLrg t f δ s = kLrg t (f δ s) := (rfl)
def kSeq  (oo : Out D) : Out Src := oo.bind srcOf
@[simp] theorem kSeq_ok  {d : D} {s : Sto} : kSeq  (.ok d s) = srcOf d s := (rfl)
@[simp] theorem kSeq_exc  {cc : Addr} {ll : List (Str × D)} {s : Sto} : kSeq  (.exc cc ll s) = .exc cc ll s := (rfl)
@[simp] theorem kSeq_bad  : kSeq  .bad = .bad := (rfl)
@[simp] theorem iSeq_run {f : DEnv → Sto → Out D} {δ : DEnv} {s : Sto} : iSeq f δ s = kSeq (f δ s) := (rfl)
def kRg1  (oo : Out D) : Out Src := oo.bind fun d s1 => match d with
  | .int j => if -(2 ^ 62) ≤ j ∧ j < 2 ^ 62 then .ok ⟨rgD j.toNat, none⟩ s1 else .bad
  | _ => .bad
@[simp] theorem kRg1_ok  {j : Int} {s : Sto} : kRg1  (.ok (D.int j) s) = if -(2 ^ 62) ≤ j ∧ j < 2 ^ 62 then .ok ⟨rgD j.toNat, none⟩ s else .bad := (rfl)
@[simp] theorem kRg1_exc  {cc : Addr} {ll : List (Str × D)} {s : Sto} : kRg1  (.exc cc ll s) = .exc cc ll s := (rfl)
@[simp] theorem kRg1_bad  : kRg1  .bad = .bad := (rfl)
@[simp] theorem iRg1_run {f : DEnv → Sto → Out D} {δ : DEnv} {s : Sto} : iRg1 f δ s = kRg1 (f δ s) := iRg1_ap
def kEnu2  (oo : Out Src) : Out Src := oo.bind fun src s2 => .ok ⟨enumD 0 src.items, src.gd⟩ s2
@[simp] theorem kEnu2_ok  {src : Src} {s : Sto} : kEnu2  (.ok src s) = .ok ⟨enumD 0 src.items, src.gd⟩ s := (rfl)
@[simp] theorem kEnu2_exc  {cc : Addr} {ll : List (Str × D)} {s : Sto} : kEnu2  (.exc cc ll s) = .exc cc ll s := (rfl)
@[simp] theorem kEnu2_bad  : kEnu2  .bad = .bad := (rfl)
def kEnu  (oo : Out D) : Out Src := oo.bind fun d s1 => kEnu2 (srcOf d s1)
@[simp] theorem kEnu_ok  {d : D} {s : Sto} : kEnu  (.ok d s) = kEnu2 (srcOf d s) := (rfl)
@[simp] theorem kEnu_exc  {cc : Addr} {ll : List (Str × D)} {s : Sto} : kEnu  (.exc cc ll s) = .exc cc ll s := (rfl)
@[simp] theorem kEnu_bad  : kEnu  .bad = .bad := (rfl)
@[simp] theorem iEnu_run {f : DEnv → Sto → Out D} {δ : DEnv} {s : Sto} : iEnu f δ s = kEnu (f δ s) := iEnu_ap
def kRg22 (d : D) (oo : Out D) : Out Src := oo.bind fun e s2 => match d, e with
  | .int i, .int j => if -(2 ^ 62) ≤ i ∧ i < 2 ^ 62 ∧ -(2 ^ 62) ≤ j ∧ j < 2 ^ 62 then .ok ⟨rgD2 i (j - i).toNat, none⟩ s2 else .bad
  | _, _ => .bad
@[simp] theorem kRg22_exc {d : D} {cc : Addr} {ll : List (Str × D)} {s : Sto} : kRg22 d (.exc cc ll s) = .exc cc ll s := (rfl)
@[simp] theorem kRg22_bad {d : D} : kRg22 d .bad = .bad := (rfl)
@[simp] theorem kRg22_ok {i j : Int} {s : Sto} : kRg22 (.int i) (.ok (.int j) s) = if -(2 ^ 62) ≤ i ∧ i < 2 ^ 62 ∧ -(2 ^ 62) ≤ j ∧ j < 2 ^ 62 then .ok ⟨rgD2 i (j - i).toNat, none⟩ s else .bad := (rfl)
def kRg21 (g : DEnv → Sto → Out D) (δ : DEnv) (oo : Out D) : Out Src := oo.bind fun d s1 => kRg22 d (g δ s1)
@[simp] theorem kRg21_ok {g : DEnv → Sto → Out D} {δ : DEnv} {d : D} {s : Sto} : kRg21 g δ (.ok d s) = kRg22 d (g δ s) := (rfl)
@[simp] theorem kRg21_exc {g : DEnv → Sto → Out D} {δ : DEnv} {cc : Addr} {ll : List (Str × D)} {s : Sto} : kRg21 g δ (.exc cc ll s) = .exc cc ll s := (rfl)
@[simp] theorem kRg21_bad {g : DEnv → Sto → Out D} {δ : DEnv} : kRg21 g δ .bad = .bad := (rfl)
@[simp] theorem iRg2_run {f g : DEnv → Sto → Out D} {δ : DEnv} {s : Sto} : iRg2 f g δ s = kRg21 g δ (f δ s) := iRg2_ap
@[simp] theorem sSeq_run {f g : DEnv → Sto → Res} {δ : DEnv} {s : Sto} : sSeq f g δ s = (f δ s).andThen g := sSeq_ap
def kRet (δ : DEnv) (oo : Out D) : Res := oo.to δ fun d s1 => .rt d s1
@[simp] theorem kRet_ok {δ : DEnv} {d : D} {s : Sto} : kRet δ (.ok d s) = .rt d s := (rfl)
@[simp] theorem kRet_exc {δ : DEnv} {cc : Addr} {ll : List (Str × D)} {s : Sto} : kRet δ (.exc cc ll s) = .ex δ cc ll s := (rfl)
@[simp] theorem kRet_bad {δ : DEnv} : kRet δ .bad = .bad := (rfl)
@[simp] theorem sRet_run {f : DEnv → Sto → Out D} {δ : DEnv} {s : Sto} : sRet f δ s = kRet δ (f δ s) := (rfl)
def kExp (δ : DEnv) (oo : Out D) : Res := oo.to δ fun _ s1 => .nx δ s1
@[simp] theorem kExp_ok {δ : DEnv} {d : D} {s : Sto} : kExp δ (.ok d s) = .nx δ s := (rfl)
@[simp] theorem kExp_exc {δ : DEnv} {cc : Addr} {ll : List (Str × D)} {s : Sto} : kExp δ (.exc cc ll s) = .ex δ cc ll s := (rfl)
@[simp] theorem kExp_bad {δ : DEnv} : kExp δ .bad = .bad := (rfl)
@[simp] theorem sExpr_run {f : DEnv → Sto → Out D} {δ : DEnv} {s : Sto} : sExpr f δ s = kExp δ (f δ s) := (rfl)
def kSIf (f g : DEnv → Sto → Res) (δ : DEnv) (oo : Out Bool) : Res := oo.to δ fun b s1 => if b = true then f δ s1 else g δ s1
@[simp] theorem kSIf_t {f g : DEnv → Sto → Res} {δ : DEnv}  {s : Sto} : kSIf f g δ (.ok true s) = f δ s := (rfl)
@[simp] theorem kSIf_f {f g : DEnv → Sto → Res} {δ : DEnv}  {s : Sto} : kSIf f g δ (.ok false s) = g δ s := (rfl)
@[simp] theorem kSIf_ok {f g : DEnv → Sto → Res} {δ : DEnv} {b : Bool} {s : Sto} : kSIf f g δ (.ok b s) = if b = true then f δ s else g δ s := (rfl)
@[simp] theorem kSIf_exc {f g : DEnv → Sto → Res} {δ : DEnv} {cc : Addr} {ll : List (Str × D)} {s : Sto} : kSIf f g δ (.exc cc ll s) = .ex δ cc ll s := (rfl)
@[simp] theorem kSIf_bad {f g : DEnv → Sto → Res} {δ : DEnv} : kSIf f g δ .bad = .bad := (rfl)
@[simp] theorem sIf_run {c : DEnv → Sto → Out Bool} {f g : DEnv → Sto → Res} {δ : DEnv} {s : Sto} : sIf c f g δ s = kSIf f g δ (c δ s) := (rfl)
def kSet (i : Nat) (δ : DEnv) (oo : Out D) : Res := oo.to δ fun d s1 => .nx (δ.set i (some d)) s1
@[simp] theorem kSet_ok {i : Nat} {δ : DEnv} {d : D} {s : Sto} : kSet i δ (.ok d s) = .nx (δ.set i (some d)) s := (rfl)
@[simp] theorem kSet_exc {i : Nat} {δ : DEnv} {cc : Addr} {ll : List (Str × D)} {s : Sto} : kSet i δ (.exc cc ll s) = .ex δ cc ll s := (rfl)
@[simp] theorem kSet_bad {i : Nat} {δ : DEnv} : kSet i δ .bad = .bad := (rfl)
@[simp] theorem sSet_run {i : Nat} {f : DEnv → Sto → Out D} {δ : DEnv} {s : Sto} : sSet i f δ s = kSet i δ (f δ s) := (rfl)
def kAug2 (op : D → D → Sto → Out D) (i : Nat) (δ : DEnv) (x : D) (oo : Out D) : Res := oo.to δ fun y s1 => kSet i δ (op x y s1)
@[simp] theorem kAug2_ok {op : D → D → Sto → Out D} {i : Nat} {δ : DEnv} {x : D} {y : D} {s : Sto} : kAug2 op i δ x (.ok y s) = kSet i δ (op x y s) := (rfl)
@[simp] theorem kAug2_exc {op : D → D → Sto → Out D} {i : Nat} {δ : DEnv} {x : D} {cc : Addr} {ll : List (Str × D)} {s : Sto} : kAug2 op i δ x (.exc cc ll s) = .ex δ cc ll s := (rfl)
@[simp] theorem kAug2_bad {op : D → D → Sto → Out D} {i : Nat} {δ : DEnv} {x : D} : kAug2 op i δ x .bad = .bad := (rfl)
def kAug1 (op : D → D → Sto → Out D) (i : Nat) (f : DEnv → Sto → Out D) (δ : DEnv) (s0 : Sto) (oo : Out D) : Res := oo.to δ fun x _ => kAug2 op i δ x (f δ s0)
@[simp] theorem kAug1_ok {op : D → D → Sto → Out D} {i : Nat} {f : DEnv → Sto → Out D} {δ : DEnv} {s0 : Sto} {x : D} {s : Sto} : kAug1 op i f δ s0 (.ok x s) = kAug2 op i δ x (f δ s0) := (rfl)
@[simp] theorem kAug1_exc {op : D → D → Sto → Out D} {i : Nat} {f : DEnv → Sto → Out D} {δ : DEnv} {s0 : Sto} {cc : Addr} {ll : List (Str × D)} {s : Sto} : kAug1 op i f δ s0 (.exc cc ll s) = .ex δ cc ll s := (rfl)
@[simp] theorem kAug1_bad {op : D → D → Sto → Out D} {i : Nat} {f : DEnv → Sto → Out D} {δ : DEnv} {s0 : Sto} : kAug1 op i f δ s0 .bad = .bad := (rfl)
@[simp] theorem sAug_run {i : Nat} {op : D → D → Sto → Out D} {f : DEnv → Sto → Out D} {δ : DEnv} {s : Sto} : sAug i op f δ s = kAug1 op i f δ s (eVar i δ s) := (rfl)
def kPat (p : Pat) (δ : DEnv) (oo : Out D) : Res := oo.to δ fun d s1 => match pm p d with
  | some l => .nx (setAll δ l) s1
  | none => .bad
@[simp] theorem kPat_ok {p : Pat} {δ : DEnv} {d : D} {s : Sto} : kPat p δ (.ok d s) = match pm p d with
  | some l => .nx (setAll δ l) s
  | none => .bad := rfl
@[simp] theorem kPat_exc {p : Pat} {δ : DEnv} {cc : Addr} {ll : List (Str × D)} {s : Sto} : kPat p δ (.exc cc ll s) = .ex δ cc ll s := (rfl)
@[simp] theorem kPat_bad {p : Pat} {δ : DEnv} : kPat p δ .bad = .bad := (rfl)
@[simp] theorem sPat_run {p : Pat} {f : DEnv → Sto → Out D} {δ : DEnv} {s : Sto} : sPat p f δ s = kPat p δ (f δ s) := (rfl)
def kPar2 (i j : Nat) (δ : DEnv) (x : D) (oo : Out D) : Res := oo.to δ fun y s2 => .nx ((δ.set i (some x)).set j (some y)) s2
@[simp] theorem kPar2_ok {i j : Nat} {δ : DEnv} {x : D} {y : D} {s : Sto} : kPar2 i j δ x (.ok y s) = .nx ((δ.set i (some x)).set j (some y)) s := (rfl)
@[simp] theorem kPar2_exc {i j : Nat} {δ : DEnv} {x : D} {cc : Addr} {ll : List (Str × D)} {s : Sto} : kPar2 i j δ x (.exc cc ll s) = .ex δ cc ll s := (rfl)
@[simp] theorem kPar2_bad {i j : Nat} {δ : DEnv} {x : D} : kPar2 i j δ x .bad = .bad := (rfl)
def kPar1 (i j : Nat) (g : DEnv → Sto → Out D) (δ : DEnv) (oo : Out D) : Res := oo.to δ fun x s1 => kPar2 i j δ x (g δ s1)
@[simp] theorem kPar1_ok {i j : Nat} {g : DEnv → Sto → Out D} {δ : DEnv} {x : D} {s : Sto} : kPar1 i j g δ (.ok x s) = kPar2 i j δ x (g δ s) := (rfl)
@[simp] theorem kPar1_exc {i j : Nat} {g : DEnv → Sto → Out D} {δ : DEnv} {cc : Addr} {ll : List (Str × D)} {s : Sto} : kPar1 i j g δ (.exc cc ll s) = .ex δ cc ll s := (rfl)
@[simp] theorem kPar1_bad {i j : Nat} {g : DEnv → Sto → Out D} {δ : DEnv} : kPar1 i j g δ .bad = .bad := (rfl)
@[simp] theorem sPar_run {i j : Nat} {f g : DEnv → Sto → Out D} {δ : DEnv} {s : Sto} : sPar i j f g δ s = kPar1 i j g δ (f δ s) := (rfl)
def kSub4 (δ : DEnv) (oo : Out Unit) : Res := oo.to δ fun _ s4 => .nx δ s4
@[simp] theorem kSub4_ok {δ : DEnv}  {s : Sto} : kSub4 δ (.ok () s) = .nx δ s := (rfl)
@[simp] theorem kSub4_exc {δ : DEnv} {cc : Addr} {ll : List (Str × D)} {s : Sto} : kSub4 δ (.exc cc ll s) = .ex δ cc ll s := (rfl)
@[simp] theorem kSub4_bad {δ : DEnv} : kSub4 δ .bad = .bad := (rfl)
def kSub3 (δ : DEnv) (d o : D) (oo : Out D) : Res := oo.to δ fun i s3 => kSub4 δ (opSet o i d s3)
@[simp] theorem kSub3_ok {δ : DEnv} {d o : D} {i : D} {s : Sto} : kSub3 δ d o (.ok i s) = kSub4 δ (opSet o i d s) := (rfl)
@[simp] theorem kSub3_exc {δ : DEnv} {d o : D} {cc : Addr} {ll : List (Str × D)} {s : Sto} : kSub3 δ d o (.exc cc ll s) = .ex δ cc ll s := (rfl)
@[simp] theorem kSub3_bad {δ : DEnv} {d o : D} : kSub3 δ d o .bad = .bad := (rfl)
def kSub2 (fi : DEnv → Sto → Out D) (δ : DEnv) (d : D) (oo : Out D) : Res := oo.to δ fun o s2 => kSub3 δ d o (fi δ s2)
@[simp] theorem kSub2_ok {fi : DEnv → Sto → Out D} {δ : DEnv} {d : D} {o : D} {s : Sto} : kSub2 fi δ d (.ok o s) = kSub3 δ d o (fi δ s) := (rfl)
@[simp] theorem kSub2_exc {fi : DEnv → Sto → Out D} {δ : DEnv} {d : D} {cc : Addr} {ll : List (Str × D)} {s : Sto} : kSub2 fi δ d (.exc cc ll s) = .ex δ cc ll s := (rfl)
@[simp] theorem kSub2_bad {fi : DEnv → Sto → Out D} {δ : DEnv} {d : D} : kSub2 fi δ d .bad = .bad := (rfl)
def kSub1 (fo fi : DEnv → Sto → Out D) (δ : DEnv) (oo : Out D) : Res := oo.to δ fun d s1 => kSub2 fi δ d (fo δ s1)
@[simp] theorem kSub1_ok {fo fi : DEnv → Sto → Out D} {δ : DEnv} {d : D} {s : Sto} : kSub1 fo fi δ (.ok d s) = kSub2 fi δ d (fo δ s) := (rfl)
@[simp] theorem kSub1_exc {fo fi : DEnv → Sto → Out D} {δ : DEnv} {cc : Addr} {ll : List (Str × D)} {s : Sto} : kSub1 fo fi δ (.exc cc ll s) = .ex δ cc ll s := (rfl)
@[simp] theorem kSub1_bad {fo fi : DEnv → Sto → Out D} {δ : DEnv} : kSub1 fo fi δ .bad = .bad := (rfl)
@[simp] theorem sSub_run {fo fi f : DEnv → Sto → Out D} {δ : DEnv} {s : Sto} : sSub fo fi f δ s = kSub1 fo fi δ (f δ s) := (rfl)
def kGS5 (δ : DEnv) (o i : D) (oo : Out D) : Res := oo.to δ fun z s5 => kSub4 δ (opSet o i z s5)
@[simp] theorem kGS5_ok {δ : DEnv} {o i : D} {z : D} {s : Sto} : kGS5 δ o i (.ok z s) = kSub4 δ (opSet o i z s) := (rfl)
@[simp] theorem kGS5_exc {δ : DEnv} {o i : D} {cc : Addr} {ll : List (Str × D)} {s : Sto} : kGS5 δ o i (.exc cc ll s) = .ex δ cc ll s := (rfl)
@[simp] theorem kGS5_bad {δ : DEnv} {o i : D} : kGS5 δ o i .bad = .bad := (rfl)
def kGS4 (op : D → D → Sto → Out D) (δ : DEnv) (o i x : D) (oo : Out D) : Res := oo.to δ fun y s4 => kGS5 δ o i (op x y s4)
@[simp] theorem kGS4_ok {op : D → D → Sto → Out D} {δ : DEnv} {o i x : D} {y : D} {s : Sto} : kGS4 op δ o i x (.ok y s) = kGS5 δ o i (op x y s) := (rfl)
@[simp] theorem kGS4_exc {op : D → D → Sto → Out D} {δ : DEnv} {o i x : D} {cc : Addr} {ll : List (Str × D)} {s : Sto} : kGS4 op δ o i x (.exc cc ll s) = .ex δ cc ll s := (rfl)
@[simp] theorem kGS4_bad {op : D → D → Sto → Out D} {δ : DEnv} {o i x : D} : kGS4 op δ o i x .bad = .bad := (rfl)
def kGS3 (op : D → D → Sto → Out D) (f : DEnv → Sto → Out D) (δ : DEnv) (o i : D) (oo : Out D) : Res := oo.to δ fun x s3 => kGS4 op δ o i x (f δ s3)
@[simp] theorem kGS3_ok {op : D → D → Sto → Out D} {f : DEnv → Sto → Out D} {δ : DEnv} {o i : D} {x : D} {s : Sto} : kGS3 op f δ o i (.ok x s) = kGS4 op δ o i x (f δ s) := (rfl)
@[simp] theorem kGS3_exc {op : D → D → Sto → Out D} {f : DEnv → Sto → Out D} {δ : DEnv} {o i : D} {cc : Addr} {ll : List (Str × D)} {s : Sto} : kGS3 op f δ o i (.exc cc ll s) = .ex δ cc ll s := (rfl)
@[simp] theorem kGS3_bad {op : D → D → Sto → Out D} {f : DEnv → Sto → Out D} {δ : DEnv} {o i : D} : kGS3 op f δ o i .bad = .bad := (rfl)
def kGS2 (op : D → D → Sto → Out D) (f : DEnv → Sto → Out D) (δ : DEnv) (o : D) (oo : Out D) : Res := oo.to δ fun i s2 => kGS3 op f δ o i (opGet o i s2)
@[simp] theorem kGS2_ok {op : D → D → Sto → Out D} {f : DEnv → Sto → Out D} {δ : DEnv} {o : D} {i : D} {s : Sto} : kGS2 op f δ o (.ok i s) = kGS3 op f δ o i (opGet o i s) := (rfl)
@[simp] theorem kGS2_exc {op : D → D → Sto → Out D} {f : DEnv → Sto → Out D} {δ : DEnv} {o : D} {cc : Addr} {ll : List (Str × D)} {s : Sto} : kGS2 op f δ o (.exc cc ll s) = .ex δ cc ll s := (rfl)
@[simp] theorem kGS2_bad {op : D → D → Sto → Out D} {f : DEnv → Sto → Out D} {δ : DEnv} {o : D} : kGS2 op f δ o .bad = .bad := (rfl)
def kGS1 (op : D → D → Sto → Out D) (fi f : DEnv → Sto → Out D) (δ : DEnv) (oo : Out D) : Res := oo.to δ fun o s1 => kGS2 op f δ o (fi δ s1)
@[simp] theorem kGS1_ok {op : D → D → Sto → Out D} {fi f : DEnv → Sto → Out D} {δ : DEnv} {o : D} {s : Sto} : kGS1 op fi f δ (.ok o s) = kGS2 op f δ o (fi δ s) := (rfl)
@[simp] theorem kGS1_exc {op : D → D → Sto → Out D} {fi f : DEnv → Sto → Out D} {δ : DEnv} {cc : Addr} {ll : List (Str × D)} {s : Sto} : kGS1 op fi f δ (.exc cc ll s) = .ex δ cc ll s := (rfl)
@[simp] theorem kGS1_bad {op : D → D → Sto → Out D} {fi f : DEnv → Sto → Out D} {δ : DEnv} : kGS1 op fi f δ .bad = .bad := (rfl)
@[simp] theorem sAugS_run {fo fi : DEnv → Sto → Out D} {op : D → D → Sto → Out D} {f : DEnv → Sto → Out D} {δ : DEnv} {s : Sto} : sAugS fo fi op f δ s = kGS1 op fi f δ (fo δ s) := (rfl)
noncomputable def kFor (p : Pat) (f : DEnv → Sto → Res) (δ : DEnv) (oo : Out Src) : Res := oo.to δ fun src s1 => forL src p f src.items δ s1
@[simp] theorem kFor_ok {p : Pat} {f : DEnv → Sto → Res} {δ : DEnv} {src : Src} {s : Sto} : kFor p f δ (.ok src s) = forL src p f src.items δ s := (rfl)
@[simp] theorem kFor_exc {p : Pat} {f : DEnv → Sto → Res} {δ : DEnv} {cc : Addr} {ll : List (Str × D)} {s : Sto} : kFor p f δ (.exc cc ll s) = .ex δ cc ll s := (rfl)
@[simp] theorem sFor_run {fi : DEnv → Sto → Out Src} {p : Pat} {f : DEnv → Sto → Res} {δ : DEnv} {s : Sto} : sFor fi p f δ s = kFor p f δ (fi δ s) := (rfl)
/-! ### forgetting -/
@[simp] theorem clean_0 {m : List MO} {g g' : Option Rng} {d : D} (h : dlt m.length d = true) : clean ⟨m, g⟩ (.ok d ⟨m, g'⟩) = .ok d ⟨m, g'⟩ := clean_same (s0 := ⟨m, g⟩) (ex := []) h
@[simp] theorem cleanB_0 {m : List MO} {g g' : Option Rng} {d : Bool} : cleanB ⟨m, g⟩ (.ok d ⟨m, g'⟩) = .ok d ⟨m, g'⟩ := cleanB_same (s0 := ⟨m, g⟩) (ex := [])
@[simp] theorem cleanS_0_1 {m : List MO} {g g' : Option Rng} {d : D} {u0 v0 : MO} (h : dlt (m.length + 1) d = true) (h0 : mlt (m.length + 1) v0 = true) : clean ⟨u0 :: m, g⟩ (.ok d ⟨v0 :: m, g'⟩) = .ok d ⟨v0 :: m, g'⟩ := by
  refine clean_wf (s0 := ⟨u0 :: m, g⟩) (ex := []) (m := v0 :: m) rfl h fun o ho => ?_
  simp only [List.mem_cons] at ho
  rcases ho with rfl | ho
  · exact .inr h0
  · exact .inl (by simp [ho])
@[simp] theorem cleanS_0_2 {m : List MO} {g g' : Option Rng} {d : D} {u0 u1 v0 v1 : MO} (h : dlt (m.length + 2) d = true) (h0 : mlt (m.length + 2) v0 = true) (h1 : mlt (m.length + 2) v1 = true) : clean ⟨u0 :: u1 :: m, g⟩ (.ok d ⟨v0 :: v1 :: m, g'⟩) = .ok d ⟨v0 :: v1 :: m, g'⟩ := by
  refine clean_wf (s0 := ⟨u0 :: u1 :: m, g⟩) (ex := []) (m := v0 :: v1 :: m) rfl h fun o ho => ?_
  simp only [List.mem_cons] at ho
  rcases ho with rfl | rfl | ho
  · exact .inr h0
  · exact .inr h1
  · exact .inl (by simp [ho])
@[simp] theorem cleanS_0_3 {m : List MO} {g g' : Option Rng} {d : D} {u0 u1 u2 v0 v1 v2 : MO} (h : dlt (m.length + 3) d = true) (h0 : mlt (m.length + 3) v0 = true) (h1 : mlt (m.length + 3) v1 = true) (h2 : mlt (m.length + 3) v2 = true) : clean ⟨u0 :: u1 :: u2 :: m, g⟩ (.ok d ⟨v0 :: v1 :: v2 :: m, g'⟩) = .ok d ⟨v0 :: v1 :: v2 :: m, g'⟩ := by
  refine clean_wf (s0 := ⟨u0 :: u1 :: u2 :: m, g⟩) (ex := []) (m := v0 :: v1 :: v2 :: m) rfl h fun o ho => ?_
  simp only [List.mem_cons] at ho
  rcases ho with rfl | rfl | rfl | ho
  · exact .inr h0
  · exact .inr h1
  · exact .inr h2
  · exact .inl (by simp [ho])
@[simp] theorem clean_1 {m : List MO} {g g' : Option Rng} {d : D} {o0 : MO} (h : dlt m.length d = true) : clean ⟨m, g⟩ (.ok d ⟨o0 :: m, g'⟩) = .ok d ⟨m, g'⟩ := clean_same (s0 := ⟨m, g⟩) (ex := [o0]) h
@[simp] theorem cleanB_1 {m : List MO} {g g' : Option Rng} {d : Bool} {o0 : MO} : cleanB ⟨m, g⟩ (.ok d ⟨o0 :: m, g'⟩) = .ok d ⟨m, g'⟩ := cleanB_same (s0 := ⟨m, g⟩) (ex := [o0])
@[simp] theorem cleanO_1_0 {m : List MO} {g g' : Option Rng} {o0 : MO} {i : Nat} (hi : i = m.length) (h : mlt m.length o0 = true) : clean ⟨m, g⟩ (.ok (.obj i) ⟨o0 :: m, g'⟩) = .ok (.obj m.length) ⟨o0 :: m, g'⟩ := by
  subst hi
  exact clean_one (s0 := ⟨m, g⟩) (ex := [o0]) (by simp <;> omega) (by simp [Nat.add_assoc] <;> omega) h
@[simp] theorem cleanS_1_1 {m : List MO} {g g' : Option Rng} {d : D} {o0 : MO} {u0 v0 : MO} (h : dlt (m.length + 1) d = true) (h0 : mlt (m.length + 1) v0 = true) : clean ⟨u0 :: m, g⟩ (.ok d ⟨o0 :: v0 :: m, g'⟩) = .ok d ⟨v0 :: m, g'⟩ := by
  refine clean_wf (s0 := ⟨u0 :: m, g⟩) (ex := [o0]) (m := v0 :: m) rfl h fun o ho => ?_
  simp only [List.mem_cons] at ho
  rcases ho with rfl | ho
  · exact .inr h0
  · exact .inl (by simp [ho])
@[simp] theorem cleanS_1_2 {m : List MO} {g g' : Option Rng} {d : D} {o0 : MO} {u0 u1 v0 v1 : MO} (h : dlt (m.length + 2) d = true) (h0 : mlt (m.length + 2) v0 = true) (h1 : mlt (m.length + 2) v1 = true) : clean ⟨u0 :: u1 :: m, g⟩ (.ok d ⟨o0 :: v0 :: v1 :: m, g'⟩) = .ok d ⟨v0 :: v1 :: m, g'⟩ := by
  refine clean_wf (s0 := ⟨u0 :: u1 :: m, g⟩) (ex := [o0]) (m := v0 :: v1 :: m) rfl h fun o ho => ?_
  simp only [List.mem_cons] at ho
  rcases ho with rfl | rfl | ho
  · exact .inr h0
  · exact .inr h1
  · exact .inl (by simp [ho])
@[simp] theorem cleanS_1_3 {m : List MO} {g g' : Option Rng} {d : D} {o0 : MO} {u0 u1 u2 v0 v1 v2 : MO} (h : dlt (m.length + 3) d = true) (h0 : mlt (m.length + 3) v0 = true) (h1 : mlt (m.length + 3) v1 = true) (h2 : mlt (m.length + 3) v2 = true) : clean ⟨u0 :: u1 :: u2 :: m, g⟩ (.ok d ⟨o0 :: v0 :: v1 :: v2 :: m, g'⟩) = .ok d ⟨v0 :: v1 :: v2 :: m, g'⟩ := by
  refine clean_wf (s0 := ⟨u0 :: u1 :: u2 :: m, g⟩) (ex := [o0]) (m := v0 :: v1 :: v2 :: m) rfl h fun o ho => ?_
  simp only [List.mem_cons] at ho
  rcases ho with rfl | rfl | rfl | ho
  · exact .inr h0
  · exact .inr h1
  · exact .inr h2
  · exact .inl (by simp [ho])
@[simp] theorem clean_2 {m : List MO} {g g' : Option Rng} {d : D} {o0 o1 : MO} (h : dlt m.length d = true) : clean ⟨m, g⟩ (.ok d ⟨o0 :: o1 :: m, g'⟩) = .ok d ⟨m, g'⟩ := clean_same (s0 := ⟨m, g⟩) (ex := [o0, o1]) h
@[simp] theorem cleanB_2 {m : List MO} {g g' : Option Rng} {d : Bool} {o0 o1 : MO} : cleanB ⟨m, g⟩ (.ok d ⟨o0 :: o1 :: m, g'⟩) = .ok d ⟨m, g'⟩ := cleanB_same (s0 := ⟨m, g⟩) (ex := [o0, o1])
@[simp] theorem cleanO_2_0 {m : List MO} {g g' : Option Rng} {o0 o1 : MO} {i : Nat} (hi : i = m.length + 1) (h : mlt m.length o0 = true) : clean ⟨m, g⟩ (.ok (.obj i) ⟨o0 :: o1 :: m, g'⟩) = .ok (.obj m.length) ⟨o0 :: m, g'⟩ := by
  subst hi
  exact clean_one (s0 := ⟨m, g⟩) (ex := [o0, o1]) (by simp <;> omega) (by simp [Nat.add_assoc] <;> omega) h
@[simp] theorem cleanO_2_1 {m : List MO} {g g' : Option Rng} {o0 o1 : MO} {i : Nat} (hi : i = m.length) (h : mlt m.length o1 = true) : clean ⟨m, g⟩ (.ok (.obj i) ⟨o0 :: o1 :: m, g'⟩) = .ok (.obj m.length) ⟨o1 :: m, g'⟩ := by
  subst hi
  exact clean_one (s0 := ⟨m, g⟩) (ex := [o0, o1]) (by simp <;> omega) (by simp [Nat.add_assoc] <;> omega) h
@[simp] theorem cleanS_2_1 {m : List MO} {g g' : Option Rng} {d : D} {o0 o1 : MO} {u0 v0 : MO} (h : dlt (m.length + 1) d = true) (h0 : mlt (m.length + 1) v0 = true) : clean ⟨u0 :: m, g⟩ (.ok d ⟨o0 :: o1 :: v0 :: m, g'⟩) = .ok d ⟨v0 :: m, g'⟩ := by
  refine clean_wf (s0 := ⟨u0 :: m, g⟩) (ex := [o0, o1]) (m := v0 :: m) rfl h fun o ho => ?_
  simp only [List.mem_cons] at ho
  rcases ho with rfl | ho
  · exact .inr h0
  · exact .inl (by simp [ho])
@[simp] theorem cleanS_2_2 {m : List MO} {g g' : Option Rng} {d : D} {o0 o1 : MO} {u0 u1 v0 v1 : MO} (h : dlt (m.length + 2) d = true) (h0 : mlt (m.length + 2) v0 = true) (h1 : mlt (m.length + 2) v1 = true) : clean ⟨u0 :: u1 :: m, g⟩ (.ok d ⟨o0 :: o1 :: v0 :: v1 :: m, g'⟩) = .ok d ⟨v0 :: v1 :: m, g'⟩ := by
  refine clean_wf (s0 := ⟨u0 :: u1 :: m, g⟩) (ex := [o0, o1]) (m := v0 :: v1 :: m) rfl h fun o ho => ?_
  simp only [List.mem_cons] at ho
  rcases ho with rfl | rfl | ho
  · exact .inr h0
  · exact .inr h1
  · exact .inl (by simp [ho])
@[simp] theorem cleanS_2_3 {m : List MO} {g g' : Option Rng} {d : D} {o0 o1 : MO} {u0 u1 u2 v0 v1 v2 : MO} (h : dlt (m.length + 3) d = true) (h0 : mlt (m.length + 3) v0 = true) (h1 : mlt (m.length + 3) v1 = true) (h2 : mlt (m.length + 3) v2 = true) : clean ⟨u0 :: u1 :: u2 :: m, g⟩ (.ok d ⟨o0 :: o1 :: v0 :: v1 :: v2 :: m, g'⟩) = .ok d ⟨v0 :: v1 :: v2 :: m, g'⟩ := by
  refine clean_wf (s0 := ⟨u0 :: u1 :: u2 :: m, g⟩) (ex := [o0, o1]) (m := v0 :: v1 :: v2 :: m) rfl h fun o ho => ?_
  simp only [List.mem_cons] at ho
  rcases ho with rfl | rfl | rfl | ho
  · exact .inr h0
  · exact .inr h1
  · exact .inr h2
  · exact .inl (by simp [ho])
@[simp] theorem clean_3 {m : List MO} {g g' : Option Rng} {d : D} {o0 o1 o2 : MO} (h : dlt m.length d = true) : clean ⟨m, g⟩ (.ok d ⟨o0 :: o1 :: o2 :: m, g'⟩) = .ok d ⟨m, g'⟩ := clean_same (s0 := ⟨m, g⟩) (ex := [o0, o1, o2]) h
@[simp] theorem cleanB_3 {m : List MO} {g g' : Option Rng} {d : Bool} {o0 o1 o2 : MO} : cleanB ⟨m, g⟩ (.ok d ⟨o0 :: o1 :: o2 :: m, g'⟩) = .ok d ⟨m, g'⟩ := cleanB_same (s0 := ⟨m, g⟩) (ex := [o0, o1, o2])
@[simp] theorem cleanO_3_0 {m : List MO} {g g' : Option Rng} {o0 o1 o2 : MO} {i : Nat} (hi : i = m.length + 1 + 1) (h : mlt m.length o0 = true) : clean ⟨m, g⟩ (.ok (.obj i) ⟨o0 :: o1 :: o2 :: m, g'⟩) = .ok (.obj m.length) ⟨o0 :: m, g'⟩ := by
  subst hi
  exact clean_one (s0 := ⟨m, g⟩) (ex := [o0, o1, o2]) (by simp <;> omega) (by simp [Nat.add_assoc] <;> omega) h
@[simp] theorem cleanO_3_1 {m : List MO} {g g' : Option Rng} {o0 o1 o2 : MO} {i : Nat} (hi : i = m.length + 1) (h : mlt m.length o1 = true) : clean ⟨m, g⟩ (.ok (.obj i) ⟨o0 :: o1 :: o2 :: m, g'⟩) = .ok (.obj m.length) ⟨o1 :: m, g'⟩ := by
  subst hi
  exact clean_one (s0 := ⟨m, g⟩) (ex := [o0, o1, o2]) (by simp <;> omega) (by simp [Nat.add_assoc] <;> omega) h
@[simp] theorem cleanO_3_2 {m : List MO} {g g' : Option Rng} {o0 o1 o2 : MO} {i : Nat} (hi : i = m.length) (h : mlt m.length o2 = true) : clean ⟨m, g⟩ (.ok (.obj i) ⟨o0 :: o1 :: o2 :: m, g'⟩) = .ok (.obj m.length) ⟨o2 :: m, g'⟩ := by
  subst hi
  exact clean_one (s0 := ⟨m, g⟩) (ex := [o0, o1, o2]) (by simp <;> omega) (by simp [Nat.add_assoc] <;> omega) h
@[simp] theorem cleanS_3_1 {m : List MO} {g g' : Option Rng} {d : D} {o0 o1 o2 : MO} {u0 v0 : MO} (h : dlt (m.length + 1) d = true) (h0 : mlt (m.length + 1) v0 = true) : clean ⟨u0 :: m, g⟩ (.ok d ⟨o0 :: o1 :: o2 :: v0 :: m, g'⟩) = .ok d ⟨v0 :: m, g'⟩ := by
  refine clean_wf (s0 := ⟨u0 :: m, g⟩) (ex := [o0, o1, o2]) (m := v0 :: m) rfl h fun o ho => ?_
  simp only [List.mem_cons] at ho
  rcases ho with rfl | ho
  · exact .inr h0
  · exact .inl (by simp [ho])
@[simp] theorem cleanS_3_2 {m : List MO} {g g' : Option Rng} {d : D} {o0 o1 o2 : MO} {u0 u1 v0 v1 : MO} (h : dlt (m.length + 2) d = true) (h0 : mlt (m.length + 2) v0 = true) (h1 : mlt (m.length + 2) v1 = true) : clean ⟨u0 :: u1 :: m, g⟩ (.ok d ⟨o0 :: o1 :: o2 :: v0 :: v1 :: m, g'⟩) = .ok d ⟨v0 :: v1 :: m, g'⟩ := by
  refine clean_wf (s0 := ⟨u0 :: u1 :: m, g⟩) (ex := [o0, o1, o2]) (m := v0 :: v1 :: m) rfl h fun o ho => ?_
  simp only [List.mem_cons] at ho
  rcases ho with rfl | rfl | ho
  · exact .inr h0
  · exact .inr h1
  · exact .inl (by simp [ho])
@[simp] theorem cleanS_3_3 {m : List MO} {g g' : Option Rng} {d : D} {o0 o1 o2 : MO} {u0 u1 u2 v0 v1 v2 : MO} (h : dlt (m.length + 3) d = true) (h0 : mlt (m.length + 3) v0 = true) (h1 : mlt (m.length + 3) v1 = true) (h2 : mlt (m.length + 3) v2 = true) : clean ⟨u0 :: u1 :: u2 :: m, g⟩ (.ok d ⟨o0 :: o1 :: o2 :: v0 :: v1 :: v2 :: m, g'⟩) = .ok d ⟨v0 :: v1 :: v2 :: m, g'⟩ := by
  refine clean_wf (s0 := ⟨u0 :: u1 :: u2 :: m, g⟩) (ex := [o0, o1, o2]) (m := v0 :: v1 :: v2 :: m) rfl h fun o ho => ?_
  simp only [List.mem_cons] at ho
  rcases ho with rfl | rfl | rfl | ho
  · exact .inr h0
  · exact .inr h1
  · exact .inr h2
  · exact .inl (by simp [ho])
@[simp] theorem clean_4 {m : List MO} {g g' : Option Rng} {d : D} {o0 o1 o2 o3 : MO} (h : dlt m.length d = true) : clean ⟨m, g⟩ (.ok d ⟨o0 :: o1 :: o2 :: o3 :: m, g'⟩) = .ok d ⟨m, g'⟩ := clean_same (s0 := ⟨m, g⟩) (ex := [o0, o1, o2, o3]) h
@[simp] theorem cleanB_4 {m : List MO} {g g' : Option Rng} {d : Bool} {o0 o1 o2 o3 : MO} : cleanB ⟨m, g⟩ (.ok d ⟨o0 :: o1 :: o2 :: o3 :: m, g'⟩) = .ok d ⟨m, g'⟩ := cleanB_same (s0 := ⟨m, g⟩) (ex := [o0, o1, o2, o3])
@[simp] theorem cleanO_4_0 {m : List MO} {g g' : Option Rng} {o0 o1 o2 o3 : MO} {i : Nat} (hi : i = m.length + 1 + 1 + 1) (h : mlt m.length o0 = true) : clean ⟨m, g⟩ (.ok (.obj i) ⟨o0 :: o1 :: o2 :: o3 :: m, g'⟩) = .ok (.obj m.length) ⟨o0 :: m, g'⟩ := by
  subst hi
  exact clean_one (s0 := ⟨m, g⟩) (ex := [o0, o1, o2, o3]) (by simp <;> omega) (by simp [Nat.add_assoc] <;> omega) h
@[simp] theorem cleanO_4_1 {m : List MO} {g g' : Option Rng} {o0 o1 o2 o3 : MO} {i : Nat} (hi : i = m.length + 1 + 1) (h : mlt m.length o1 = true) : clean ⟨m, g⟩ (.ok (.obj i) ⟨o0 :: o1 :: o2 :: o3 :: m, g'⟩) = .ok (.obj m.length) ⟨o1 :: m, g'⟩ := by
  subst hi
  exact clean_one (s0 := ⟨m, g⟩) (ex := [o0, o1, o2, o3]) (by simp <;> omega) (by simp [Nat.add_assoc] <;> omega) h
@[simp] theorem cleanO_4_2 {m : List MO} {g g' : Option Rng} {o0 o1 o2 o3 : MO} {i : Nat} (hi : i = m.length + 1) (h : mlt m.length o2 = true) : clean ⟨m, g⟩ (.ok (.obj i) ⟨o0 :: o1 :: o2 :: o3 :: m, g'⟩) = .ok (.obj m.length) ⟨o2 :: m, g'⟩ := by
  subst hi
  exact clean_one (s0 := ⟨m, g⟩) (ex := [o0, o1, o2, o3]) (by simp <;> omega) (by simp [Nat.add_assoc] <;> omega) h
@[simp] theorem cleanO_4_3 {m : List MO} {g g' : Option Rng} {o0 o1 o2 o3 : MO} {i : Nat} (hi : i = m.length) (h : mlt m.length o3 = true) : clean ⟨m, g⟩ (.ok (.obj i) ⟨o0 :: o1 :: o2 :: o3 :: m, g'⟩) = .ok (.obj m.length) ⟨o3 :: m, g'⟩ := by
  subst hi
  exact clean_one (s0 := ⟨m, g⟩) (ex := [o0, o1, o2, o3]) (by simp <;> omega) (by simp [Nat.add_assoc] <;> omega) h
@[simp] theorem cleanS_4_1 {m : List MO} {g g' : Option Rng} {d : D} {o0 o1 o2 o3 : MO} {u0 v0 : MO} (h : dlt (m.length + 1) d = true) (h0 : mlt (m.length + 1) v0 = true) : clean ⟨u0 :: m, g⟩ (.ok d ⟨o0 :: o1 :: o2 :: o3 :: v0 :: m, g'⟩) = .ok d ⟨v0 :: m, g'⟩ := by
  refine clean_wf (s0 := ⟨u0 :: m, g⟩) (ex := [o0, o1, o2, o3]) (m := v0 :: m) rfl h fun o ho => ?_
  simp only [List.mem_cons] at ho
  rcases ho with rfl | ho
  · exact .inr h0
  · exact .inl (by simp [ho])
@[simp] theorem cleanS_4_2 {m : List MO} {g g' : Option Rng} {d : D} {o0 o1 o2 o3 : MO} {u0 u1 v0 v1 : MO} (h : dlt (m.length + 2) d = true) (h0 : mlt (m.length + 2) v0 = true) (h1 : mlt (m.length + 2) v1 = true) : clean ⟨u0 :: u1 :: m, g⟩ (.ok d ⟨o0 :: o1 :: o2 :: o3 :: v0 :: v1 :: m, g'⟩) = .ok d ⟨v0 :: v1 :: m, g'⟩ := by
  refine clean_wf (s0 := ⟨u0 :: u1 :: m, g⟩) (ex := [o0, o1, o2, o3]) (m := v0 :: v1 :: m) rfl h fun o ho => ?_
  simp only [List.mem_cons] at ho
  rcases ho with rfl | rfl | ho
  · exact .inr h0
  · exact .inr h1
  · exact .inl (by simp [ho])
@[simp] theorem cleanS_4_3 {m : List MO} {g g' : Option Rng} {d : D} {o0 o1 o2 o3 : MO} {u0 u1 u2 v0 v1 v2 : MO} (h : dlt (m.length + 3) d = true) (h0 : mlt (m.length + 3) v0 = true) (h1 : mlt (m.length + 3) v1 = true) (h2 : mlt (m.length + 3) v2 = true) : clean ⟨u0 :: u1 :: u2 :: m, g⟩ (.ok d ⟨o0 :: o1 :: o2 :: o3 :: v0 :: v1 :: v2 :: m, g'⟩) = .ok d ⟨v0 :: v1 :: v2 :: m, g'⟩ := by
  refine clean_wf (s0 := ⟨u0 :: u1 :: u2 :: m, g⟩) (ex := [o0, o1, o2, o3]) (m := v0 :: v1 :: v2 :: m) rfl h fun o ho => ?_
  simp only [List.mem_cons] at ho
  rcases ho with rfl | rfl | rfl | ho
  · exact .inr h0
  · exact .inr h1
  · exact .inr h2
  · exact .inl (by simp [ho])
/-! ### comprehensions -/
section
variable {α : Type} {src : Src} {p : Pat} {tst : DEnv → Sto → Out Bool} {elt : DEnv → Sto → Out D} {δ : DEnv} {m : List MO} {g : Option Rng}
theorem compL_map (f : α → D) (T : α → Bool) (G : α → D) (hs : ∀ l, src.ok ⟨.lst l :: m, g⟩) : ∀ (l : List α) (acc : List D), (∀ a ∈ l, ∃ b, pm p (f a) = some b ∧ ∀ acc, tst (setAll δ b) ⟨.lst acc :: m, g⟩ = .ok (T a) ⟨.lst acc :: m, g⟩ ∧ (T a = true → elt (setAll δ b) ⟨.lst acc :: m, g⟩ = .ok (G a) ⟨.lst acc :: m, g⟩)) →
    acc.length + l.length ≤ lim → compL src p tst elt m.length δ (l.map f) ⟨.lst acc :: m, g⟩ = .ok () ⟨.lst (acc ++ (l.filter T).map G) :: m, g⟩
  | [], acc, _, _ => by
    show compL src p tst elt m.length δ [] _ = _
    rw [compL, if_pos (hs _)]; simp
  | a :: l, acc, h, hl => by
    obtain ⟨b, h1, h2⟩ := h a List.mem_cons_self
    obtain ⟨h3, h4⟩ := h2 acc
    rw [List.map_cons, compL, if_pos (hs _), h1]
    simp only []
    rw [h3]
    cases t : T a with
    | true =>
      simp only []
      rw [h4 t]
      simp only [nget_self, nset_self]
      rw [if_pos (by simp at hl; simp only [lim_eq]; omega), compL_map f T G hs l _ (fun x hx => h x (List.mem_cons_of_mem _ hx)) (by simp at hl ⊢; omega)]
      rw [List.filter_cons_of_pos t, List.map_cons, List.append_assoc]; rfl
    | false =>
      simp only []
      rw [compL_map f T G hs l _ (fun x hx => h x (List.mem_cons_of_mem _ hx)) (by simp at hl ⊢; omega), List.filter_cons_of_neg (by simp [t])]
/-- a comprehension whose parts change nothing -/
theorem eComp_run {fi : DEnv → Sto → Out Src} {vs : List Nat} {s : Sto} (f : α → D) (T : α → Bool) (G : α → D) (l : List α) (hi : fi δ s = .ok src ⟨m, g⟩) (hl : src.items = l.map f) (hs : ∀ l, src.ok ⟨.lst l :: m, g⟩)
    (h : ∀ a ∈ l, ∃ b, pm p (f a) = some b ∧ ∀ acc, tst (setAll (wipeD δ vs) b) ⟨.lst acc :: m, g⟩ = .ok (T a) ⟨.lst acc :: m, g⟩ ∧ (T a = true → elt (setAll (wipeD δ vs) b) ⟨.lst acc :: m, g⟩ = .ok (G a) ⟨.lst acc :: m, g⟩)) (hn : l.length ≤ lim) :
    eComp fi p tst elt vs δ s = .ok (.obj m.length) ⟨.lst ((l.filter T).map G) :: m, g⟩ := by
  rw [eComp_ap, hi]
  simp only [bind_ok]
  rw [hl, compL_map f T G hs l [] h (by simpa using hn)]
  rfl
/-- all of them -/
theorem eComp_all {fi : DEnv → Sto → Out Src} {vs : List Nat} {s : Sto} (f : α → D) (G : α → D) (l : List α) (hi : fi δ s = .ok src ⟨m, g⟩) (hl : src.items = l.map f) (hs : ∀ l, src.ok ⟨.lst l :: m, g⟩)
    (h : ∀ a ∈ l, ∃ b, pm p (f a) = some b ∧ ∀ acc, elt (setAll (wipeD δ vs) b) ⟨.lst acc :: m, g⟩ = .ok (G a) ⟨.lst acc :: m, g⟩) (hn : l.length ≤ lim) :
    eComp fi p cYes elt vs δ s = .ok (.obj m.length) ⟨.lst (l.map G) :: m, g⟩ := by
  rw [eComp_run f (fun _ => true) G l hi hl hs (fun a ha => let ⟨b, h1, h2⟩ := h a ha; ⟨b, h1, fun acc => ⟨rfl, fun _ => h2 acc⟩⟩) hn, List.filter_eq_self.mpr fun _ _ => rfl]
/-- two loops in one comprehension -/
theorem compO_map {β : Type} {fi1 : DEnv → Sto → Out Src} {p1 : Pat} {vs1 : List Nat} (f : α → D) (f1 : β → D) (K : α → List β) (G : α → β → D) (hs : ∀ l, src.ok ⟨.lst l :: m, g⟩) : ∀ (l : List α) (acc : List D),
    (∀ a ∈ l, ∃ b, pm p (f a) = some b ∧ ∀ acc, ∃ src1, fi1 (setAll δ b) ⟨.lst acc :: m, g⟩ = .ok src1 ⟨.lst acc :: m, g⟩ ∧ src1.items = (K a).map f1 ∧ (∀ l, src1.ok ⟨.lst l :: m, g⟩) ∧ ∀ c ∈ K a, ∃ b1, pm p1 (f1 c) = some b1 ∧ ∀ acc, elt (setAll (wipeD (setAll δ b) vs1) b1) ⟨.lst acc :: m, g⟩ = .ok (G a c) ⟨.lst acc :: m, g⟩) →
    acc.length + (l.flatMap fun a => (K a).map (G a)).length ≤ lim → compO src p cYes fi1 p1 vs1 cYes elt m.length δ (l.map f) ⟨.lst acc :: m, g⟩ = .ok () ⟨.lst (acc ++ l.flatMap fun a => (K a).map (G a)) :: m, g⟩
  | [], acc, _, _ => by
    show compO src p cYes fi1 p1 vs1 cYes elt m.length δ [] _ = _
    rw [compO, if_pos (hs _)]; simp
  | a :: l, acc, h, hl => by
    obtain ⟨b, h1, h2⟩ := h a List.mem_cons_self
    obtain ⟨src1, h3, h4, h5, h6⟩ := h2 acc
    rw [List.flatMap_cons, List.length_append, List.length_map] at hl
    rw [List.map_cons, compO, if_pos (hs _), h1]
    simp only [cYes_ap]
    rw [h3]
    simp only []
    rw [h4, compL_map f1 (fun _ => true) (G a) h5 (K a) acc (fun c hc => let ⟨b1, z1, z2⟩ := h6 c hc; ⟨b1, z1, fun acc => ⟨rfl, fun _ => z2 acc⟩⟩) (by omega), bind_ok, List.filter_eq_self.mpr fun _ _ => rfl,
      compO_map f f1 K G hs l _ (fun x hx => h x (List.mem_cons_of_mem _ hx)) (by rw [List.length_append, List.length_map]; omega), List.flatMap_cons, List.append_assoc]
theorem eComp2_all {β : Type} {fi fi1 : DEnv → Sto → Out Src} {p1 : Pat} {vs vs1 : List Nat} {s : Sto} (f : α → D) (f1 : β → D) (K : α → List β) (G : α → β → D) (l : List α) (hi : fi δ s = .ok src ⟨m, g⟩) (hl : src.items = l.map f) (hs : ∀ l, src.ok ⟨.lst l :: m, g⟩)
    (h : ∀ a ∈ l, ∃ b, pm p (f a) = some b ∧ ∀ acc, ∃ src1, fi1 (setAll (wipeD δ vs) b) ⟨.lst acc :: m, g⟩ = .ok src1 ⟨.lst acc :: m, g⟩ ∧ src1.items = (K a).map f1 ∧ (∀ l, src1.ok ⟨.lst l :: m, g⟩) ∧ ∀ c ∈ K a, ∃ b1, pm p1 (f1 c) = some b1 ∧ ∀ acc, elt (setAll (wipeD (setAll (wipeD δ vs) b) vs1) b1) ⟨.lst acc :: m, g⟩ = .ok (G a c) ⟨.lst acc :: m, g⟩)
    (hn : (l.flatMap fun a => (K a).map (G a)).length ≤ lim) : eComp2 fi p cYes fi1 p1 vs1 cYes elt vs δ s = .ok (.obj m.length) ⟨.lst (l.flatMap fun a => (K a).map (G a)) :: m, g⟩ := by
  unfold eComp2
  rw [hi]
  simp only [bind_ok]
  rw [hl, compO_map f f1 K G hs l [] h (by simpa using hn)]
  rfl
/-- a comprehension that draws: what holds of its parts -/
theorem compL_R (f : α → D) (P : α → D → Prop) (hs : ∀ l g, src.ok ⟨.lst l :: m, g⟩) : ∀ (l : List α) (acc : List D) (r : Rng), (∀ a ∈ l, ∀ r, ∃ b, pm p (f a) = some b ∧ ∀ acc, ∃ d r', P a d ∧ elt (setAll δ b) ⟨.lst acc :: m, some r⟩ = .ok d ⟨.lst acc :: m, some r'⟩) →
    acc.length + l.length ≤ lim → ∃ ds r', ds.length = l.length ∧ (∀ d ∈ ds, ∃ a ∈ l, P a d) ∧ compL src p cYes elt m.length δ (l.map f) ⟨.lst acc :: m, some r⟩ = .ok () ⟨.lst (acc ++ ds) :: m, some r'⟩
  | [], acc, r, _, _ => by
    refine ⟨[], r, rfl, by simp, ?_⟩
    show compL src p cYes elt m.length δ [] _ = _
    rw [compL, if_pos (hs _ _)]; simp
  | a :: l, acc, r, h, hl => by
    obtain ⟨b, h1, h2⟩ := h a List.mem_cons_self r
    obtain ⟨d, r1, hp, e⟩ := h2 acc
    obtain ⟨ds, r', q1, q2, q3⟩ := compL_R f P hs l (acc ++ [d]) r1 (fun x hx => h x (List.mem_cons_of_mem _ hx)) (by simp at hl ⊢; omega)
    refine ⟨d :: ds, r', by simp [q1], fun y hy => ?_, ?_⟩
    · rcases List.mem_cons.mp hy with rfl | hy
      · exact ⟨a, List.mem_cons_self, hp⟩
      · obtain ⟨x, hx, hx2⟩ := q2 y hy
        exact ⟨x, List.mem_cons_of_mem _ hx, hx2⟩
    · rw [List.map_cons, compL, if_pos (hs _ _), h1]
      simp only [cYes_ap, e, nget_self, nset_self]
      rw [if_pos (by simp at hl; simp only [lim_eq]; omega), q3, List.append_assoc]; rfl
theorem eComp_R {fi : DEnv → Sto → Out Src} {vs : List Nat} {s : Sto} {r : Rng} (f : α → D) (P : α → D → Prop) (l : List α) (hi : fi δ s = .ok src ⟨m, some r⟩) (hl : src.items = l.map f) (hs : ∀ l g, src.ok ⟨.lst l :: m, g⟩)
    (h : ∀ a ∈ l, ∀ r, ∃ b, pm p (f a) = some b ∧ ∀ acc, ∃ d r', P a d ∧ elt (setAll (wipeD δ vs) b) ⟨.lst acc :: m, some r⟩ = .ok d ⟨.lst acc :: m, some r'⟩) (hn : l.length ≤ lim) :
    ∃ ds r', ds.length = l.length ∧ (∀ d ∈ ds, ∃ a ∈ l, P a d) ∧ eComp fi p cYes elt vs δ s = .ok (.obj m.length) ⟨.lst ds :: m, some r'⟩ := by
  obtain ⟨ds, r', q1, q2, q3⟩ := compL_R f P hs l [] r h (by simpa using hn)
  refine ⟨ds, r', q1, q2, ?_⟩
  rw [eComp_ap, hi]
  simp only [bind_ok]
  rw [hl, q3]
  rfl
/-- a comprehension that draws -/
def compF (step : α → Option Rng → D × Option Rng) : List α → Option Rng → List D × Option Rng
  | [], g => ([], g)
  | a :: l, g => ((step a g).1 :: (compF step l (step a g).2).1, (compF step l (step a g).2).2)
theorem compL_draw (f : α → D) (step : α → Option Rng → D × Option Rng) (J : Option Rng → Prop) (hs : ∀ l g, src.ok ⟨.lst l :: m, g⟩) : ∀ (l : List α) (acc : List D) (g : Option Rng), J g →
    (∀ a ∈ l, ∀ g, J g → J (step a g).2 ∧ ∃ b, pm p (f a) = some b ∧ ∀ acc, elt (setAll δ b) ⟨.lst acc :: m, g⟩ = .ok (step a g).1 ⟨.lst acc :: m, (step a g).2⟩) →
    acc.length + l.length ≤ lim → compL src p cYes elt m.length δ (l.map f) ⟨.lst acc :: m, g⟩ = .ok () ⟨.lst (acc ++ (compF step l g).1) :: m, (compF step l g).2⟩
  | [], acc, g, _, _, _ => by
    show compL src p cYes elt m.length δ [] _ = _
    rw [compL, if_pos (hs _ _)]; simp [compF]
  | a :: l, acc, g, hj, h, hl => by
    obtain ⟨j, b, h1, h2⟩ := h a List.mem_cons_self g hj
    rw [List.map_cons, compL, if_pos (hs _ _), h1]
    simp only [cYes_ap, h2, nget_self, nset_self]
    rw [if_pos (by simp at hl; simp only [lim_eq]; omega), compL_draw f step J hs l _ _ j (fun x hx => h x (List.mem_cons_of_mem _ hx)) (by simp at hl ⊢; omega)]
    simp [compF]
theorem eComp_draw {fi : DEnv → Sto → Out Src} {vs : List Nat} {s : Sto} (f : α → D) (step : α → Option Rng → D × Option Rng) (J : Option Rng → Prop) (l : List α) (hj : J g) (hi : fi δ s = .ok src ⟨m, g⟩) (hl : src.items = l.map f) (hs : ∀ l g, src.ok ⟨.lst l :: m, g⟩)
    (h : ∀ a ∈ l, ∀ g, J g → J (step a g).2 ∧ ∃ b, pm p (f a) = some b ∧ ∀ acc, elt (setAll (wipeD δ vs) b) ⟨.lst acc :: m, g⟩ = .ok (step a g).1 ⟨.lst acc :: m, (step a g).2⟩) (hn : l.length ≤ lim) :
    eComp fi p cYes elt vs δ s = .ok (.obj m.length) ⟨.lst (compF step l g).1 :: m, (compF step l g).2⟩ := by
  rw [eComp_ap, hi]
  simp only [bind_ok]
  rw [hl, compL_draw f step J hs l [] g hj h (by simpa using hn)]
  rfl
end
/-! ### for loops as folds -/
section
variable {α β γ : Type} {src : Src} {p : Pat} {body : DEnv → Sto → Res}
theorem okN {l : List D} {s : Sto} : Src.ok ⟨l, none⟩ s := trivial
theorem forL_nil {δ : DEnv} {s : Sto} (h : src.ok s) : forL src p body [] δ s = .nx δ s := by rw [forL, if_pos h]
theorem forL_nx {x : D} {xs : List D} {l : List (Nat × D)} {δ δ' : DEnv} {s s' : Sto} (h : src.ok s) (hp : pm p x = some l) (hb : body (setAll δ l) s = .nx δ' s') : forL src p body (x :: xs) δ s = forL src p body xs δ' s' := by
  rw [forL, if_pos h, hp]; simp only []; rw [hb]
theorem forL_ct {x : D} {xs : List D} {l : List (Nat × D)} {δ δ' : DEnv} {s s' : Sto} (h : src.ok s) (hp : pm p x = some l) (hb : body (setAll δ l) s = .ct δ' s') : forL src p body (x :: xs) δ s = forL src p body xs δ' s' := by
  rw [forL, if_pos h, hp]; simp only []; rw [hb]
theorem forL_rt {x : D} {xs : List D} {l : List (Nat × D)} {δ : DEnv} {s s' : Sto} {d : D} (h : src.ok s) (hp : pm p x = some l) (hb : body (setAll δ l) s = .rt d s') : forL src p body (x :: xs) δ s = .rt d s' := by
  rw [forL, if_pos h, hp]; simp only []; rw [hb]
theorem forL_bk {x : D} {xs : List D} {l : List (Nat × D)} {δ δ' : DEnv} {s s' : Sto} (h : src.ok s) (hp : pm p x = some l) (hb : body (setAll δ l) s = .bk δ' s') : forL src p body (x :: xs) δ s = .nx δ' s' := by
  rw [forL, if_pos h, hp]; simp only []; rw [hb]
/-- what a loop's turn does: on, out, back -/
inductive Lp (β γ : Type) where
  | go (b : β) | brk (b : β) | ret (c : γ)
def lpL (step : β → α → Lp β γ) : List α → β → Lp β γ
  | [], b => .go b
  | a :: l, b => match step b a with
    | .go b => lpL step l b
    | r => r
/-- what became of the loop -/
def LpOk (enc : β → DEnv → Sto → Prop) (encR : γ → D → Sto → Prop) : Lp β γ → Res → Prop
  | .go b, r => ∃ δ s, r = .nx δ s ∧ enc b δ s
  | .brk b, r => ∃ δ s, r = .nx δ s ∧ enc b δ s
  | .ret c, r => ∃ d s, r = .rt d s ∧ encR c d s
def LpStep (enc : β → DEnv → Sto → Prop) (encR : γ → D → Sto → Prop) : Lp β γ → Res → Prop
  | .go b, r => ∃ δ s, (r = .nx δ s ∨ r = .ct δ s) ∧ enc b δ s
  | .brk b, r => ∃ δ s, r = .bk δ s ∧ enc b δ s
  | .ret c, r => ∃ d s, r = .rt d s ∧ encR c d s
theorem forL_lp (f : α → D) (step : β → α → Lp β γ) (enc : β → DEnv → Sto → Prop) (encR : γ → D → Sto → Prop) (hsrc : ∀ b δ s, enc b δ s → src.ok s) : ∀ (l : List α) (b : β) (δ : DEnv) (s : Sto), enc b δ s →
    (∀ (done : List α) (a : α) (rest : List α) (b' : β) (δ : DEnv) (s : Sto), l = done ++ a :: rest → lpL step done b = .go b' → enc b' δ s → ∃ bb, pm p (f a) = some bb ∧ LpStep enc encR (step b' a) (body (setAll δ bb) s)) →
    LpOk enc encR (lpL step l b) (forL src p body (l.map f) δ s)
  | [], b, δ, s, e, _ => by
    rw [List.map_nil, forL, if_pos (hsrc _ _ _ e)]
    exact ⟨δ, s, rfl, e⟩
  | a :: l, b, δ, s, e, h => by
    obtain ⟨bb, h1, h2⟩ := h [] a l b δ s rfl rfl e
    rw [List.map_cons, forL, if_pos (hsrc _ _ _ e), h1]
    unfold lpL
    simp only []
    cases q : step b a with
    | go b' =>
      rw [q] at h2
      obtain ⟨δ', s', h2, e'⟩ := h2
      have := forL_lp f step enc encR hsrc l b' δ' s' e' fun done x rest b2 δ2 s2 e1 e2 e3 => h (a :: done) x rest b2 δ2 s2 (by rw [e1]; rfl) (by unfold lpL; rw [q]; exact e2) e3
      rcases h2 with h2 | h2 <;> rw [h2] <;> exact this
    | brk b' =>
      rw [q] at h2
      obtain ⟨δ', s', h2, e'⟩ := h2
      rw [h2]
      exact ⟨δ', s', rfl, e'⟩
    | ret c =>
      rw [q] at h2
      obtain ⟨d, s', h2, e'⟩ := h2
      rw [h2]
      exact ⟨d, s', rfl, e'⟩
theorem forL_fold (f : α → D) (step : β → α → β) (enc : β → DEnv → Sto → Prop) (hsrc : ∀ b δ s, enc b δ s → src.ok s) : ∀ (l : List α) (b : β) (δ : DEnv) (s : Sto), enc b δ s →
    (∀ (done : List α) (a : α) (rest : List α) (δ : DEnv) (s : Sto), l = done ++ a :: rest → enc (done.foldl step b) δ s → ∃ bb, pm p (f a) = some bb ∧ ∃ δ' s', (body (setAll δ bb) s = .nx δ' s' ∨ body (setAll δ bb) s = .ct δ' s') ∧ enc (step (done.foldl step b) a) δ' s') →
    ∃ δ' s', forL src p body (l.map f) δ s = .nx δ' s' ∧ enc (l.foldl step b) δ' s'
  | [], b, δ, s, e, _ => by
    rw [List.map_nil, forL, if_pos (hsrc _ _ _ e)]
    exact ⟨δ, s, rfl, e⟩
  | a :: l, b, δ, s, e, h => by
    obtain ⟨bb, h1, δ', s', h2, e'⟩ := h [] a l δ s rfl e
    rw [List.map_cons, forL, if_pos (hsrc _ _ _ e), h1]
    simp only []
    have := forL_fold f step enc hsrc l (step b a) δ' s' e' fun done x rest δ2 s2 e1 e2 => h (a :: done) x rest δ2 s2 (by rw [e1]; rfl) e2
    rcases h2 with h2 | h2 <;> rw [h2] <;> exact this
/-- a loop, then the rest of a def -/
theorem forL_end {k : DEnv → Sto → Res} {R : Out D} {l : List α} {b : β} {δ : DEnv} {s : Sto} {xs : List D} (f : α → D) (step : β → α → β) (enc : β → DEnv → Sto → Prop) (hx : xs = l.map f) (e : enc b δ s) (hsrc : ∀ b δ s, enc b δ s → src.ok s)
    (h : ∀ (done : List α) (a : α) (rest : List α) (δ : DEnv) (s : Sto), l = done ++ a :: rest → enc (done.foldl step b) δ s → ∃ bb, pm p (f a) = some bb ∧ ∃ δ' s', (body (setAll δ bb) s = .nx δ' s' ∨ body (setAll δ bb) s = .ct δ' s') ∧ enc (step (done.foldl step b) a) δ' s')
    (fin : ∀ δ s, enc (l.foldl step b) δ s → endOf (k δ s) = R) : endOf ((forL src p body xs δ s).andThen k) = R := by
  obtain ⟨δ', s', e1, e2⟩ := forL_fold f step enc hsrc l b δ s e h
  rw [hx, e1]
  exact fin δ' s' e2
/-- a loop that may go back -/
theorem forL_endR {k : DEnv → Sto → Res} {R : Out D} {l : List α} {b : β} {δ : DEnv} {s : Sto} {xs : List D} (f : α → D) (step : β → α → Lp β γ) (enc : β → DEnv → Sto → Prop) (encR : γ → D → Sto → Prop) (hx : xs = l.map f) (e : enc b δ s) (hsrc : ∀ b δ s, enc b δ s → src.ok s)
    (h : ∀ (done : List α) (a : α) (rest : List α) (b' : β) (δ : DEnv) (s : Sto), l = done ++ a :: rest → lpL step done b = .go b' → enc b' δ s → ∃ bb, pm p (f a) = some bb ∧ LpStep enc encR (step b' a) (body (setAll δ bb) s))
    (fin : match lpL step l b with
      | .go b' => ∀ δ s, enc b' δ s → endOf (k δ s) = R
      | .brk b' => ∀ δ s, enc b' δ s → endOf (k δ s) = R
      | .ret c => ∀ d s, encR c d s → Out.ok d s = R) : endOf ((forL src p body xs δ s).andThen k) = R := by
  have q := forL_lp f step enc encR hsrc l b δ s e h
  rw [hx]
  cases z : lpL step l b with
  | go b' =>
    rw [z] at q fin
    obtain ⟨δ', s', e1, e2⟩ := q
    rw [e1]; exact fin δ' s' e2
  | brk b' =>
    rw [z] at q fin
    obtain ⟨δ', s', e1, e2⟩ := q
    rw [e1]; exact fin δ' s' e2
  | ret c =>
    rw [z] at q fin
    obtain ⟨d, s', e1, e2⟩ := q
    rw [e1]; exact fin d s' e2
/-- a loop by what holds of the part that is done -/
theorem forL_I {l : List α} {δ : DEnv} {s : Sto} (f : α → D) (I : List α → DEnv → Sto → Prop) (e : I [] δ s) (hsrc : ∀ b δ s, I b δ s → src.ok s)
    (h : ∀ (done : List α) (a : α) (rest : List α) (δ : DEnv) (s : Sto), l = done ++ a :: rest → I done δ s → ∃ bb, pm p (f a) = some bb ∧ ∃ δ' s', (body (setAll δ bb) s = .nx δ' s' ∨ body (setAll δ bb) s = .ct δ' s') ∧ I (done ++ [a]) δ' s') :
    ∃ δ' s', forL src p body (l.map f) δ s = .nx δ' s' ∧ I l δ' s' := by
  have q : ∀ (l b : List α), l.foldl (fun acc a => acc ++ [a]) b = b ++ l := by
    intro l
    induction l with
    | nil => intro b; simp
    | cons x l ih => intro b; rw [List.foldl_cons, ih, List.append_assoc]; rfl
  have := forL_fold f (fun acc a => acc ++ [a]) I hsrc l [] δ s e fun done a rest δ s e1 e2 => by
    rw [q, List.nil_append] at e2 ⊢
    exact h done a rest δ s e1 e2
  rw [q, List.nil_append] at this
  exact this
theorem forL_endI {k : DEnv → Sto → Res} {R : Out D} {l : List α} {δ : DEnv} {s : Sto} {xs : List D} (f : α → D) (I : List α → DEnv → Sto → Prop) (hx : xs = l.map f) (e : I [] δ s) (hsrc : ∀ b δ s, I b δ s → src.ok s)
    (h : ∀ (done : List α) (a : α) (rest : List α) (δ : DEnv) (s : Sto), l = done ++ a :: rest → I done δ s → ∃ bb, pm p (f a) = some bb ∧ ∃ δ' s', (body (setAll δ bb) s = .nx δ' s' ∨ body (setAll δ bb) s = .ct δ' s') ∧ I (done ++ [a]) δ' s')
    (fin : ∀ δ s, I l δ s → endOf (k δ s) = R) : endOf ((forL src p body xs δ s).andThen k) = R := by
  obtain ⟨δ', s', e1, e2⟩ := forL_I f I e hsrc h
  rw [hx, e1]
  exact fin δ' s' e2
end
end DL

/-! The laws' shared helpers: their meanings (as gen.py prints them) and what they tell. -/
namespace LA
open PySem PySem.Spec PyProof.Rows L2 DL
/-! _law_begin(script): script 0, cell 1 -/
noncomputable def cp_law_begin_1 : DEnv → Sto → Out D :=
    (eComp (iSeq (eVar 0)) (.nm 1) cYes (eCall (f1 opInt) (aCons (eVar 1) aNil)) [1])
noncomputable def raw_law_begin : DEnv → Sto → Res :=
    (sRet (eLst (aCons cp_law_begin_1 (aCons (eC (.int 0)) (aCons (eC (.int 0)) (aCons (eC (.int 17)) aNil))))))
noncomputable def G_law_begin : List D → Sto → Out D := G_begin
/-! _law_draw(d, many): d 0, many 1, size 2, value 3, cell 4 -/
noncomputable def raw_law_draw : DEnv → Sto → Res :=
    (sSeq (sIf (cB (eBin opGt (eBin opIx (eVar 0) (eC (.int 2))) (eC (.int 0))))
    (sSeq (sSet 3 (eBin opIx (eVar 0) (eC (.int 2))))
    (sSeq (sSub (eVar 0) (eC (.int 2)) (eBin opFdiv (eVar 3) (eVar 1)))
    (sRet (eBin opMod (eCall (f1 opInt) (aCons (eVar 3) aNil)) (eVar 1)))))
    sNil)
    (sSeq (sSet 2 (eC (.int 0)))
    (sSeq (sIf (cB (eBin opLt (eBin opIx (eVar 0) (eC (.int 1))) (eCall (f1 opLen) (aCons (eBin opIx (eVar 0) (eC (.int 0))) aNil))))
    (sSeq (sSet 4 (eBin opIx (eBin opIx (eVar 0) (eC (.int 0))) (eBin opIx (eVar 0) (eC (.int 1)))))
    (sSet 2 (eBin opAdd (eBin opMul (eC (.int 2)) (eCall (f1 opAbs) (aCons (eVar 4) aNil))) (eCall (f1 opInt) (aCons (eBin opLt (eVar 4) (eC (.int 0))) aNil)))))
    sNil)
    (sSeq (sAugS (eVar 0) (eC (.int 1)) opIadd (eC (.int 1)))
    (sSeq (sIf (cB (eBin opGe (eVar 2) (eBin opMul (eC (.int 2)) (eBin opPow (eC (.int 10)) (eC (.int 18))))))
    (sSeq (sSet 3 (eBin opMod (eCall (f1 opInt) (aCons (eBin opFdiv (eVar 2) (eC (.int 2))) aNil)) (eBin opShl (eC (.int 1)) (eC (.int 6000)))))
    (sSeq (sSub (eVar 0) (eC (.int 2)) (eBin opFdiv (eVar 3) (eVar 1)))
    (sRet (eBin opMod (eCall (f1 opInt) (aCons (eVar 3) aNil)) (eVar 1)))))
    sNil)
    (sSeq (sSub (eVar 0) (eC (.int 3)) (eBin opMod (eCall (f1 opInt) (aCons (eBin opAdd (eBin opAdd (eBin opAdd (eBin opMul (eBin opIx (eVar 0) (eC (.int 3))) (eC (.int 69069))) (eBin opMul (eBin opMod (eCall (f1 opInt) (aCons (eVar 2) aNil)) (eC (.int 2147483629))) (eC (.int 40692)))) (eBin opMul (eBin opIx (eVar 0) (eC (.int 1))) (eC (.int 40014)))) (eC (.int 29))) aNil)) (eC (.int 2147483647))))
    (sRet (eBin opMod (eCall (f1 opInt) (aCons (eBin opFdiv (eBin opIx (eVar 0) (eC (.int 3))) (eC (.int 32))) aNil)) (eVar 1)))))))))
noncomputable def G_law_draw : List D → Sto → Out D := fnD 2 3 raw_law_draw
/-! _law_pick(d, row): d 0, row 1 -/
noncomputable def raw_law_pick : DEnv → Sto → Res :=
    (sRet (eBin opIx (eVar 1) (eFn 2 G_law_draw (aCons (eVar 0) (aCons (eCall (f1 opLen) (aCons (eVar 1) aNil)) aNil)))))
noncomputable def G_law_pick : List D → Sto → Out D := fnD 2 0 raw_law_pick
/-! _law_shuffled(d, row): d 0, row 1, left 2, found 3, k 4 -/
noncomputable def lp_law_shuffled_1 : DEnv → Sto → Res :=
    (sExpr (eMeth mAppend (eVar 3) (aCons (eMeth mPopAt (eVar 2) (aCons (eFn 2 G_law_draw (aCons (eVar 0) (aCons (eCall (f1 opLen) (aCons (eVar 2) aNil)) aNil))) aNil)) aNil)))
noncomputable def raw_law_shuffled : DEnv → Sto → Res :=
    (sSeq (sSet 2 (eCall (f1 opList) (aCons (eVar 1) aNil)))
    (sSeq (sSet 3 (eLst aNil))
    (sSeq (sFor (iRg1 (eCall (f1 opLen) (aCons (eVar 2) aNil))) (.nm 4)
    lp_law_shuffled_1)
    (sRet (eVar 3)))))
noncomputable def G_law_shuffled : List D → Sto → Out D := fnD 2 3 raw_law_shuffled
/-! _law_some(d, row, many): d 0, row 1, many 2 -/
noncomputable def raw_law_some : DEnv → Sto → Res :=
    (sRet (eClean (eSl (eFn 2 G_law_shuffled (aCons (eVar 0) (aCons (eVar 1) aNil))) oNone (oSome (eVar 2)))))
noncomputable def G_law_some : List D → Sto → Out D := fnD 3 0 raw_law_some
/-! _law_is_int(thing): thing 0 -/
noncomputable def raw_law_is_int : DEnv → Sto → Res :=
    (sRet (eAnd (eCall (fIsi) (aCons (eVar 0) (aCons (eC (.typ "int")) aNil))) (eNot (eCall (fIsi) (aCons (eVar 0) (aCons (eC (.typ "bool")) aNil))))))
noncomputable def G_law_is_int : List D → Sto → Out D := fnD 1 0 raw_law_is_int
/-! _law_plain(thing): thing 0, waiting 1, k 2, part 3 -/
noncomputable def lp_law_plain_1 : DEnv → Sto → Res :=
    (sSeq (sIf (cClean (cB (eBin opEq (eVar 1) (eLst aNil))))
    (sRet (eC (.bl true)))
    sNil)
    (sSeq (sSet 3 (eMeth0 mPop (eVar 1)))
    (sIf (cTru (eCall (fIsi) (aCons (eVar 3) (aCons (eC (.typ "tuple")) aNil))))
    (sExpr (eMeth mExtend (eVar 1) (aCons (eVar 3) aNil)))
    (sIf (cNot (cOr (cB (eBin opIs (eVar 3) (eC .non))) (cOr (cTru (eCall (fIsi) (aCons (eVar 3) (aCons (eC (.typ "str")) aNil)))) (cTru (eFn 1 G_law_is_int (aCons (eVar 3) aNil))))))
    (sRet (eC (.bl false)))
    sNil))))
noncomputable def raw_law_plain : DEnv → Sto → Res :=
    (sSeq (sSet 1 (eLst (aCons (eVar 0) aNil)))
    (sSeq (sFor (iRg1 (eC (.int 20000))) (.nm 2)
    lp_law_plain_1)
    (sRet (eClean (eBin opEq (eVar 1) (eLst aNil))))))
noncomputable def G_law_plain : List D → Sto → Out D := fnD 1 3 raw_law_plain
/-! _law_bits(mask): mask 0, place 1 -/
noncomputable def cp_law_bits_1 : DEnv → Sto → Out D :=
    (eComp (iRg1 (eUn opBits (eVar 0))) (.nm 1) (cTru (eBin opAnd (eBin opShr (eVar 0) (eVar 1)) (eC (.int 1)))) (eVar 1) [1])
noncomputable def raw_law_bits : DEnv → Sto → Res :=
    (sRet cp_law_bits_1)
noncomputable def G_law_bits : List D → Sto → Out D := fnD 1 1 raw_law_bits
/-! _law_mask(numbers): numbers 0, mask 1, number 2 -/
noncomputable def lp_law_mask_1 : DEnv → Sto → Res :=
    (sSet 1 (eBin opOr (eVar 1) (eBin opShl (eC (.int 1)) (eVar 2))))
noncomputable def raw_law_mask : DEnv → Sto → Res :=
    (sSeq (sSet 1 (eC (.int 0)))
    (sSeq (sFor (iSeq (eVar 0)) (.nm 2)
    lp_law_mask_1)
    (sRet (eVar 1))))
noncomputable def G_law_mask : List D → Sto → Out D := fnD 1 2 raw_law_mask
/-! _law_within(inner, outer): inner 0, outer 1 -/
noncomputable def raw_law_within : DEnv → Sto → Res :=
    (sRet (eBin opEq (eBin opAnd (eVar 0) (eVar 1)) (eVar 0)))
noncomputable def G_law_within : List D → Sto → Out D := fnD 2 0 raw_law_within
/-! _law_agree(one, other): one 0, other 1, mask 2, place 3 -/
noncomputable def lp_law_agree_1 : DEnv → Sto → Res :=
    (sIf (cB (eBin opEq (eBin opIx (eVar 0) (eVar 3)) (eBin opIx (eVar 1) (eVar 3))))
    (sSet 2 (eBin opOr (eVar 2) (eBin opShl (eC (.int 1)) (eVar 3))))
    sNil)
noncomputable def raw_law_agree : DEnv → Sto → Res :=
    (sSeq (sSet 2 (eC (.int 0)))
    (sSeq (sFor (iRg1 (eCall (f1 opLen) (aCons (eVar 0) aNil))) (.nm 3)
    lp_law_agree_1)
    (sRet (eVar 2))))
noncomputable def G_law_agree : List D → Sto → Out D := fnD 2 2 raw_law_agree
/-! _law_clash(book, one, other): book 0, one 1, other 2, mask 3, left 4, right 5 -/
noncomputable def cp_law_clash_1 : DEnv → Sto → Out D :=
    (eComp (iSeq (eBin opIx (eVar 0) (eC (.int 1)))) (.tp [(.nm 4), (.nm 5)]) cYes (eAnd (eFn 2 G_law_within (aCons (eVar 4) (aCons (eVar 3) aNil))) (eNot (eFn 2 G_law_within (aCons (eVar 5) (aCons (eVar 3) aNil))))) [4, 5])
noncomputable def raw_law_clash : DEnv → Sto → Res :=
    (sSeq (sSet 3 (eFn 2 G_law_agree (aCons (eVar 1) (aCons (eVar 2) aNil))))
    (sRet (eClean (eCall (f1 opAnyG) (aCons cp_law_clash_1 aNil)))))
noncomputable def G_law_clash : List D → Sto → Out D := fnD 3 3 raw_law_clash
/-! _law_web(book, rows): book 0, rows 1, found 2, one 3, k 4 -/
noncomputable def cp_law_web_1 : DEnv → Sto → Out D :=
    (eComp (iRg1 (eCall (f1 opLen) (aCons (eVar 1) aNil))) (.nm 4) (cTru (eFn 3 G_law_clash (aCons (eVar 0) (aCons (eBin opIx (eVar 3) (eC (.int 3))) (aCons (eBin opIx (eBin opIx (eVar 1) (eVar 4)) (eC (.int 3))) aNil))))) (eVar 4) [4])
noncomputable def lp_law_web_1 : DEnv → Sto → Res :=
    (sExpr (eMeth mAppend (eVar 2) (aCons (eClean (eFn 1 G_law_mask (aCons cp_law_web_1 aNil))) aNil)))
noncomputable def raw_law_web : DEnv → Sto → Res :=
    (sSeq (sSet 2 (eLst aNil))
    (sSeq (sFor (iSeq (eVar 1)) (.nm 3)
    lp_law_web_1)
    (sRet (eVar 2))))
noncomputable def G_law_web : List D → Sto → Out D := fnD 2 3 raw_law_web
/-! _law_calm(near, mask): near 0, mask 1, row 2 -/
noncomputable def cp_law_calm_1 : DEnv → Sto → Out D :=
    (eComp (iSeq (eFn 1 G_law_bits (aCons (eVar 1) aNil))) (.nm 2) cYes (eBin opAnd (eBin opIx (eVar 0) (eVar 2)) (eVar 1)) [2])
noncomputable def raw_law_calm : DEnv → Sto → Res :=
    (sRet (eNot (eClean (eCall (f1 opAnyG) (aCons cp_law_calm_1 aNil)))))
noncomputable def G_law_calm : List D → Sto → Out D := fnD 2 1 raw_law_calm
/-! _law_peaces(near): near 0, found 1, row 2, mask 3 -/
noncomputable def cp_law_peaces_1 : DEnv → Sto → Out D :=
    (eComp (iSeq (eVar 1)) (.nm 3) (cB (eBin opEq (eBin opAnd (eBin opIx (eVar 0) (eVar 2)) (eVar 3)) (eC (.int 0)))) (eBin opOr (eVar 3) (eBin opShl (eC (.int 1)) (eVar 2))) [3])
noncomputable def lp_law_peaces_1 : DEnv → Sto → Res :=
    (sExpr (eClean (eMeth mExtend (eVar 1) (aCons cp_law_peaces_1 aNil))))
noncomputable def raw_law_peaces : DEnv → Sto → Res :=
    (sSeq (sSet 1 (eLst (aCons (eC (.int 0)) aNil)))
    (sSeq (sFor (iRg1 (eCall (f1 opLen) (aCons (eVar 0) aNil))) (.nm 2)
    lp_law_peaces_1)
    (sRet (eVar 1))))
noncomputable def G_law_peaces : List D → Sto → Out D := fnD 1 3 raw_law_peaces
/-! _law_weigh(worths, mask): worths 0, mask 1, row 2 -/
noncomputable def cp_law_weigh_1 : DEnv → Sto → Out D :=
    (eComp (iSeq (eFn 1 G_law_bits (aCons (eVar 1) aNil))) (.nm 2) cYes (eBin opIx (eVar 0) (eVar 2)) [2])
noncomputable def raw_law_weigh : DEnv → Sto → Res :=
    (sRet (eClean (eCall (f1 opSum) (aCons cp_law_weigh_1 aNil))))
noncomputable def G_law_weigh : List D → Sto → Out D := fnD 2 1 raw_law_weigh
/-! _law_best(near, worths): near 0, worths 1, mask 2 -/
noncomputable def cp_law_best_1 : DEnv → Sto → Out D :=
    (eComp (iSeq (eFn 1 G_law_peaces (aCons (eVar 0) aNil))) (.nm 2) cYes (eFn 2 G_law_weigh (aCons (eVar 1) (aCons (eVar 2) aNil))) [2])
noncomputable def raw_law_best : DEnv → Sto → Res :=
    (sRet (eClean (eCall (fMax) (aCons cp_law_best_1 aNil))))
noncomputable def G_law_best : List D → Sto → Out D := fnD 2 1 raw_law_best
/-! _law_rows_of(mask): mask 0 -/
noncomputable def raw_law_rows_of : DEnv → Sto → Res :=
    (sRet (eClean (eCall (f1 opTuple) (aCons (eFn 1 G_law_bits (aCons (eVar 0) aNil)) aNil))))
noncomputable def G_law_rows_of : List D → Sto → Out D := fnD 1 0 raw_law_rows_of
/-! _law_told(thing, due): thing 0, due 1 -/
noncomputable def raw_law_told : DEnv → Sto → Res :=
    (sRet (eAnd (eFn 1 G_law_plain (aCons (eVar 0) aNil)) (eBin opEq (eVar 0) (eVar 1))))
noncomputable def G_law_told : List D → Sto → Out D := fnD 2 0 raw_law_told
/-! ### drawing -/
section
variable {m : List MO} {r : Rng}
@[simp] theorem opIx_rng0 : opIx (.rng false) (.int 0) ⟨m, some r⟩ = .ok (.rng true) ⟨m, some r⟩ := (rfl)
@[simp] theorem opIx_rng1 : opIx (.rng false) (.int 1) ⟨m, some r⟩ = .ok (.int (r.pos : Nat)) ⟨m, some r⟩ := (rfl)
@[simp] theorem opIx_rng2 : opIx (.rng false) (.int 2) ⟨m, some r⟩ = .ok (.int r.carry) ⟨m, some r⟩ := (rfl)
@[simp] theorem opIx_rng3 : opIx (.rng false) (.int 3) ⟨m, some r⟩ = .ok (.int r.seed) ⟨m, some r⟩ := (rfl)
@[simp] theorem opIx_rngT {i : Int} : opIx (.rng true) (.int i) ⟨m, some r⟩ = optO ((atI r.cells i).map .int) ⟨m, some r⟩ := (rfl)
@[simp] theorem opLen_rngT : opLen (.rng true) ⟨m, some r⟩ = .ok (.int r.cells.length) ⟨m, some r⟩ := (rfl)
@[simp] theorem opGet_rng1 : opGet (.rng false) (.int 1) ⟨m, some r⟩ = .ok (.int (r.pos : Nat)) ⟨m, some r⟩ := (rfl)
@[simp] theorem opSet_rng1 {k : Nat} : opSet (.rng false) (.int 1) (.int ((k : Int) + 1)) ⟨m, some r⟩ = .ok () ⟨m, some { r with pos := k + 1 }⟩ := by
  have h : (0 : Int) ≤ (k : Int) + 1 := by omega
  have e : ((k : Int) + 1).toNat = k + 1 := by omega
  unfold opSet
  simp [h, e]
@[simp] theorem opSet_rng2 {v : Int} : opSet (.rng false) (.int 2) (.int v) ⟨m, some r⟩ = .ok () ⟨m, some { r with carry := v }⟩ := by
  unfold opSet; simp
@[simp] theorem opSet_rng3 {v : Int} : opSet (.rng false) (.int 3) (.int v) ⟨m, some r⟩ = .ok () ⟨m, some { r with seed := v }⟩ := by
  unfold opSet; simp
theorem law_draw {k : Int} (h0 : 0 < k) (h1 : k < 1073741824) : G_law_draw [.rng false, .int k] ⟨m, some r⟩ = .ok (.int (r.draw k).1) ⟨m, some (r.draw k).2⟩ := fnD_ok (ex := []) rfl (by
  show endOf (raw_law_draw [some (.rng false), some (.int k), none, none, none] ⟨m, some r⟩) = _
  unfold raw_law_draw
  by_cases hc : 0 < r.carry
  · simp [hc, h0, h1, Rng.draw]
  · have h6 := big_pos
    have hc2 : ¬ (r.size : Int) < 0 := by
      unfold Rng.size
      split <;> (try split) <;> omega
    by_cases hp : r.pos < r.cells.length
    · have hg : r.cells[r.pos]? = some r.cells[r.pos] := by simp [hp]
      have hsz : (2 * (if r.cells[r.pos] < 0 then -r.cells[r.pos] else r.cells[r.pos]) + if r.cells[r.pos] < 0 then 1 else 0) = r.size := by simp [Rng.size, hp]
      by_cases hs : 2000000000000000000 ≤ r.size
      · simp [hc, h0, h1, Rng.draw, hp, hg, hsz, hs, h6, shl_big, -opShl_int]
      · simp [hc, h0, h1, Rng.draw, hp, hg, hsz, hs, Rng.next]
    · have hsz : r.size = 0 := by simp [Rng.size, hp]
      simp [hc, h0, h1, Rng.draw, hp, hsz, Rng.next]) rfl
end
theorem begin_raw (ns : List Int) (d : D) (s : Sto) (hg : s.g = none) (hl : ns.length < lim) (hd : ScrD s d ns) : fnD 1 1 raw_law_begin [d] s = .ok (.obj (s.m.length + 1)) ⟨.lst [.obj s.m.length, .int 0, .int 0, .int 17] :: .lst (ns.map .int) :: s.m, none⟩ := by
  obtain ⟨m, g⟩ := s
  simp only at hg hd
  subst hg
  refine fnD_obj (o := .lst [.obj m.length, .int 0, .int 0, .int 17]) rfl ?_ (Nat.le_succ _) ?_ ?_
  · show endOf (raw_law_begin [some d, none] ⟨m, none⟩) = _
    unfold raw_law_begin
    have e : cp_law_begin_1 [some d, none] ⟨m, none⟩ = .ok (.obj m.length) ⟨.lst (ns.map D.int) :: m, none⟩ := by
      unfold cp_law_begin_1
      rcases hd with rfl | ⟨n, rfl, hn⟩
      · exact eComp_all (src := ⟨ns.map D.int, none⟩) D.int D.int ns (by simp) rfl (fun l => okN) (fun a _ => ⟨_, pm_nm, fun acc => by simp⟩) (by omega)
      · have hlt := nget_lt hn
        refine eComp_all (src := ⟨ns.map D.int, some (n, .fro (ns.map D.int))⟩) D.int D.int ns (by simp [hn]) rfl (fun l => ?_) (fun a _ => ⟨_, pm_nm, fun acc => by simp⟩) (by omega)
        simp [Nat.ne_of_lt hlt, hn]
    simp [e]
  · simp [nget]
  · simp [mlt]
theorem foldl_snoc {α β : Type} (f : α → β) : ∀ (l : List α) (acc : List β), l.foldl (fun acc x => acc ++ [f x]) acc = acc ++ l.map f
  | [], acc => by simp
  | x :: l, acc => by rw [List.foldl_cons, foldl_snoc f l, List.map_cons, List.append_assoc]; rfl
/-! ### words for data -/
def dN (n : Nat) : D := .int (n : Int)
def dNs (l : List Nat) : List D := l.map fun n : Nat => .int (n : Int)
@[simp] theorem dNs_app {l r : List Nat} : dNs (l ++ r) = dNs l ++ dNs r := by simp [dNs]
@[simp] theorem dNs_nil : dNs [] = [] := rfl
@[simp] theorem dNs_cons {a : Nat} {l : List Nat} : dNs (a :: l) = .int (a : Int) :: dNs l := rfl
@[simp] theorem dNs_length {l : List Nat} : (dNs l).length = l.length := by simp [dNs]
@[simp] theorem dNs_get {l : List Nat} {i : Nat} : (dNs l)[i]? = l[i]?.map fun n : Nat => .int (n : Int) := by simp [dNs]
@[simp] theorem dNs_getE {l : List Nat} {i : Nat} {h : i < (dNs l).length} : (dNs l)[i] = .int ((l[i]'(by simpa using h) : Nat) : Int) := by simp [dNs]
@[simp] theorem dlts_dNs {n : Nat} {l : List Nat} : dlts n (dNs l) = true := dlts_map fun _ _ => rfl
@[simp] theorem intsOf_dNs {l : List Nat} : intsOf (dNs l) = some (l.map fun n : Nat => (n : Int)) := intsOf_ints _ l
/-! ### masks -/
theorem bitAnd_nat (a b : Nat) : Builtin.bitAnd (a : Int) (b : Int) = ((a &&& b : Nat) : Int) := by
  unfold Builtin.bitAnd
  simp
theorem bitOr_nat (a b : Nat) : Builtin.bitOr (a : Int) (b : Int) = ((a ||| b : Nat) : Int) := by
  rw [bitOr_nn (by omega) (by omega)]
  simp
def maskOf (l : List Nat) : Nat := l.foldl (fun m i => m ||| 2 ^ i) 0
theorem law_mask {d : D} {l : List Nat} {m : List MO} {g : Option Rng} {src : Src} (hs : srcOf d ⟨m, g⟩ = .ok src ⟨m, g⟩) (hi : src.items = dNs l) (ok : src.ok ⟨m, g⟩) (hl : ∀ i ∈ l, i ≤ 1000000) :
    G_law_mask [d] ⟨m, g⟩ = .ok (.int (maskOf l : Nat)) ⟨m, g⟩ := fnD_ok (ex := []) rfl (by
  show endOf (raw_law_mask [some d, none, none] ⟨m, g⟩) = _
  unfold raw_law_mask
  simp [hs, hi]
  refine forL_end (fun n : Nat => D.int (n : Int)) (fun m i => m ||| 2 ^ i) (fun (k : Nat) δ s => s = ⟨m, g⟩ ∧ ∃ o, δ = [some d, some (.int (k : Int)), o]) rfl ⟨rfl, _, rfl⟩ (fun b δ s h => h.1 ▸ ok) (fun done a rest δ s hl' h => ?_) (fun δ s h => ?_)
  · obtain ⟨rfl, o, rfl⟩ := h
    have ha : (a : Int) ≤ 1000000 := by have := hl a (by rw [hl']; simp); omega
    refine ⟨_, pm_nm, _, _, .inl ?_, rfl, some (.int a), rfl⟩
    have e2 : ((2 : Int) ^ a) = ((2 ^ a : Nat) : Int) := by simp
    simp [lp_law_mask_1, ha, e2, bitOr_nat, -Int.natCast_pow]
  · obtain ⟨rfl, o, rfl⟩ := h
    simp [maskOf]) rfl
def sizeN (k : Nat) : Nat := if k = 0 then 0 else k.log2 + 1
theorem bits_nat (k : Nat) : Builtin.Int.intBits (k : Int) = sizeN k := by
  unfold Builtin.Int.intBits sizeN
  by_cases h : k = 0
  · subst h; rfl
  · have : ¬ ((k : Int) = 0) := by omega
    simp [h]
def bitsOf (k : Nat) : List Nat := (List.range (sizeN k)).filter k.testBit
theorem rgD_nat (n : Nat) : rgD n = (List.range n).map fun k : Nat => .int (k : Int) := rfl
theorem and_one (k i : Nat) : ((((k / 2 ^ i) &&& 1 : Nat) : Int) != 0) = k.testBit i := by
  rw [Nat.testBit_eq_decide_div_mod_eq, Nat.and_one_is_mod]
  have h := Nat.mod_two_eq_zero_or_one (k / 2 ^ i)
  rcases h with h | h <;> rw [h] <;> rfl
theorem cp_bits {k : Nat} {o : Option D} {m : List MO} {g : Option Rng} (hk : sizeN k ≤ 1000000) : cp_law_bits_1 [some (.int (k : Int)), o] ⟨m, g⟩ = .ok (.obj m.length) ⟨.lst (dNs (bitsOf k)) :: m, g⟩ := by
  unfold cp_law_bits_1
  refine eComp_run (src := ⟨rgD (sizeN k), none⟩) (fun i : Nat => .int (i : Int)) (fun i => k.testBit i) (fun i : Nat => .int (i : Int)) (List.range (sizeN k)) ?_ rfl (fun _ => trivial) (fun i _ => ⟨_, pm_nm, fun acc => ⟨?_, fun _ => ?_⟩⟩) (by simp; exact hk)
  · simp [bits_nat]; omega
  · have e2 : ((k : Int) / 2 ^ i) = ((k / 2 ^ i : Nat) : Int) := by simp
    have e3 : (1 : Int) = ((1 : Nat) : Int) := rfl
    simp [e2, -Int.natCast_pow, -Int.natCast_ediv]
    rw [e3, bitAnd_nat, and_one]
  · simp
theorem law_bits {k : Nat} {m : List MO} {g : Option Rng} (hk : sizeN k ≤ 1000000) : G_law_bits [.int (k : Int)] ⟨m, g⟩ = .ok (.obj m.length) ⟨.lst (dNs (bitsOf k)) :: m, g⟩ := by
  refine fnD_one (ex := [.lst (dNs (bitsOf k))]) rfl ?_ (Nat.le_refl _) (by simp) (by simp)
  show endOf (raw_law_bits [some (.int (k : Int)), none] ⟨m, g⟩) = _
  unfold raw_law_bits
  simp [cp_bits hk]
theorem law_within {a b : Nat} {s : Sto} : G_law_within [.int (a : Int), .int (b : Int)] s = .ok (.bl (a &&& b == a)) s := fnD_ok (ex := []) rfl (by
  show endOf (raw_law_within [some (.int (a : Int)), some (.int (b : Int))] s) = _
  unfold raw_law_within
  simp [bitAnd_nat]
  rw [Bool.eq_iff_iff]
  simp
  omega) rfl
theorem law_is_int {i : Int} {s : Sto} : G_law_is_int [.int i] s = .ok (.bl true) s := fnD_ok (ex := []) rfl (by
  show endOf (raw_law_is_int [some (.int i)] s) = _
  unfold raw_law_is_int
  simp) rfl
/-! ### plain data -/
mutual
/-- data of ints, texts, None and tuples -/
def plD : D → Bool
  | .non => true
  | .int _ => true
  | .str _ => true
  | .tup l => plDs l
  | _ => false
def plDs : List D → Bool
  | [] => true
  | d :: l => plD d && plDs l
end
mutual
def ndD : D → Nat
  | .tup l => ndDs l + 1
  | _ => 1
def ndDs : List D → Nat
  | [] => 0
  | d :: l => ndD d + ndDs l
end
theorem plDs_app : ∀ {l r : List D}, plDs (l ++ r) = (plDs l && plDs r)
  | [], r => by simp [plDs]
  | d :: l, r => by simp [plDs, plDs_app, Bool.and_assoc]
theorem ndDs_app : ∀ {l r : List D}, ndDs (l ++ r) = ndDs l + ndDs r
  | [], r => by simp [ndDs]
  | d :: l, r => by simp [ndDs, ndDs_app]; omega
theorem pds_app {n : Nat} : ∀ {l r : List D}, pds n (l ++ r) = (pds n l && pds n r)
  | [], r => by simp [pds]
  | d :: l, r => by simp [pds, pds_app, Bool.and_assoc]
mutual
theorem pd_mono : ∀ {n : Nat} {d : D}, pd n d = true → pd (n + 1) d = true
  | _, .non, _ => by simp [pd]
  | _, .bl _, _ => by simp [pd]
  | _, .int _, _ => by simp [pd]
  | n, .str x, h => by simp [pd] at h ⊢; exact h
  | 0, .tup l, h => by simp [pd] at h
  | n + 1, .tup l, h => by simp [pd] at h ⊢; exact pds_mono h
  | n, .obj _, h => by simp [pd] at h
  | n, .rng _, h => by simp [pd] at h
  | n, .adr _, h => by simp [pd] at h
  | n, .typ _, h => by simp [pd] at h
  | n, .kls _, h => by simp [pd] at h
theorem pds_mono : ∀ {n : Nat} {l : List D}, pds n l = true → pds (n + 1) l = true
  | _, [], _ => by simp [pds]
  | n, d :: l, h => by
    simp [pds] at h ⊢
    exact ⟨pd_mono h.1, pds_mono h.2⟩
end
theorem ndD_pos : ∀ d : D, 0 < ndD d
  | .tup l => by simp [ndD]
  | .non | .bl _ | .int _ | .str _ | .obj _ | .rng _ | .adr _ | .typ _ | .kls _ => by simp [ndD]
theorem ndDs_len : ∀ l : List D, l.length ≤ ndDs l
  | [] => by simp
  | d :: l => by
    have := ndDs_len l
    have := ndD_pos d
    simp [ndDs]; omega
theorem nget_mid {α : Type} {ex : List α} {o : α} {m : List α} : nget (ex ++ o :: m) m.length = some o := by rw [nget_app (by simp)]; simp
theorem nset_mid {α : Type} {o u : α} {m : List α} : ∀ {ex : List α}, nset (ex ++ o :: m) m.length u = ex ++ u :: m
  | [] => by simp
  | x :: ex => by
    show nset (x :: (ex ++ o :: m)) m.length u = _
    rw [nset_ne (by simp; omega), nset_mid]; rfl
@[simp] theorem isi_any_tup {s : Sto} {d : D} (h : tyD s d = some "tuple") : fIsi [d, .typ "tuple"] s = .ok (.bl true) s := isi_of (t := "tuple") h (by decide +kernel)
theorem plain_loop {d : D} {m : List MO} {g : Option Rng} : ∀ (ks : List Nat) (w : List D) (o1 o2 : Option D), ndDs w < ks.length → ndDs w < 20000 → plDs w = true → pds 50 w = true → ∃ w',
    forL ⟨rgD 20000, none⟩ (.nm 2) lp_law_plain_1 (ks.map fun k : Nat => .int (k : Int)) [some d, some (.obj m.length), o1, o2] ⟨.lst w :: m, g⟩ = .rt (.bl true) ⟨.lst w' :: m, g⟩
  | [], w, _, _, h, _, _, _ => by simp at h
  | k :: ks, w, o1, o2, h, h2, hp, hd => by
    rw [List.map_cons]
    rcases List.eq_nil_or_concat w with e | ⟨w0, x, e⟩
    · subst e
      refine ⟨[], forL_rt okN pm_nm ?_⟩
      simp [lp_law_plain_1, nget, pds, deqs]
    · have e : w = w0 ++ [x] := by rw [e]; simp
      subst e
      have dn : deqs (w0 ++ [x]) [] = false := by cases w0 <;> simp [deqs]
      rw [pds_app] at hd
      rw [plDs_app] at hp
      rw [ndDs_app] at h h2
      simp only [Bool.and_eq_true, pds, plDs, ndDs, Bool.and_true, Nat.add_zero] at hd hp h h2
      obtain ⟨hd1, hd2⟩ := hd
      obtain ⟨hp1, hp2⟩ := hp
      have hx := ndD_pos x
      simp only [List.length_cons] at h
      by_cases ht : ∃ l, x = .tup l
      · obtain ⟨l, rfl⟩ := ht
        obtain ⟨w', q⟩ := plain_loop (d := d) (m := m) (g := g) ks (w0 ++ l) (some (.int k)) (some (.tup l)) (by rw [ndDs_app]; simp only [ndD] at h; omega) (by rw [ndDs_app]; simp only [ndD] at h2; omega) (by rw [plDs_app, hp1]; simpa [plD] using hp2) (by rw [pds_app, hd1]; simp only [pd] at hd2; simpa using pds_mono hd2)
        refine ⟨w', (forL_nx okN pm_nm ?_).trans q⟩
        have l1 := ndDs_len w0
        have l2 := ndDs_len l
        simp only [ndD] at h2
        have hl : w0.length + l.length < 1000000 := by omega
        simp [lp_law_plain_1, nget, pds, pds_app, hd1, hd2, dn, hl]
      · obtain ⟨w', q⟩ := plain_loop (d := d) (m := m) (g := g) ks w0 (some (.int k)) (some x) (by omega) (by omega) hp1 hd1
        refine ⟨w', (forL_nx okN pm_nm ?_).trans q⟩
        cases x <;> first
        | exact absurd ⟨_, rfl⟩ ht
        | (exfalso; simp [plD] at hp2; done)
        | simp [lp_law_plain_1, nget, pds, pds_app, hd1, hd2, dn, law_is_int]
theorem law_plain {d : D} {s : Sto} (hp : plD d = true) (hd : pd 50 d = true) (hn : ndD d < 20000) : G_law_plain [d] s = .ok (.bl true) s := by
  obtain ⟨m, g⟩ := s
  obtain ⟨w', q⟩ := plain_loop (d := d) (m := m) (g := g) (List.range 20000) [d] none none (by simp [ndDs]; exact hn) (by simp [ndDs]; exact hn) (by simp [plDs, hp]) (by simp [pds, hd])
  refine fnD_ok (ex := [.lst w']) rfl ?_ rfl
  show endOf (raw_law_plain [some d, none, none, none] ⟨m, g⟩) = _
  unfold raw_law_plain
  simp
  rw [rgD_nat]
  rw [rgD_nat] at q
  rw [q]
  simp
mutual
theorem deq_refl : ∀ {d : D}, plD d = true → deq d d = true
  | .non, _ => by simp [deq]
  | .int _, _ => by simp [deq]
  | .str _, _ => by simp [deq]
  | .tup l, h => by simp [plD] at h; simp [deq, deqs_refl h]
  | .bl _, h => by simp [plD] at h
  | .obj _, h => by simp [plD] at h
  | .rng _, h => by simp [plD] at h
  | .adr _, h => by simp [plD] at h
  | .typ _, h => by simp [plD] at h
  | .kls _, h => by simp [plD] at h
theorem deqs_refl : ∀ {l : List D}, plDs l = true → deqs l l = true
  | [], _ => by simp [deqs]
  | d :: l, h => by
    simp [plDs] at h
    simp [deqs, deq_refl h.1, deqs_refl h.2]
end
theorem law_told {l : List D} {s : Sto} (hp : plDs l = true) (hd : pds 49 l = true) (hn : ndDs l < 19999) : G_law_told [.tup l, .tup l] s = .ok (.bl true) s := fnD_ok (ex := []) rfl (by
  show endOf (raw_law_told [some (.tup l), some (.tup l)] s) = _
  unfold raw_law_told
  have e := law_plain (d := .tup l) (s := s) (by simpa [plD] using hp) (by simpa [pd] using hd) (by simp [ndD]; omega)
  simp [e, pd, hd, deqs_refl hp]) rfl
/-! ### drawing from rows -/
section
variable {m : List MO} {r : Rng}
theorem law_drawE {k : Int} (m : List MO) (r : Rng) (h0 : 0 < k) (h1 : k < 1073741824) : ∃ (i : Nat) (r' : Rng), (i : Int) < k ∧ G_law_draw [.rng false, .int k] ⟨m, some r⟩ = .ok (.int (i : Int)) ⟨m, some r'⟩ := by
  have e := law_draw (m := m) (r := r) h0 h1
  obtain ⟨a, b⟩ := draw_lt r h0
  refine ⟨(r.draw k).1.toNat, (r.draw k).2, by omega, ?_⟩
  rw [e, Int.toNat_of_nonneg a]
/-- one of a row -/
theorem law_pickT (m : List MO) (r : Rng) {l : List D} (h0 : l ≠ []) (h1 : l.length < 1073741824) (hd : dlts m.length l = true) : ∃ (i : Nat) (d : D) (r' : Rng), l[i]? = some d ∧ G_law_pick [.rng false, .tup l] ⟨m, some r⟩ = .ok d ⟨m, some r'⟩ := by
  have hl : 0 < l.length := List.length_pos_iff.mpr h0
  obtain ⟨i, r', hi, e⟩ := law_drawE (k := l.length) m r (by omega) (by omega)
  have hi : i < l.length := by omega
  refine ⟨i, l[i], r', by simp [hi], fnD_ok (ex := []) rfl ?_ ?_⟩
  · show endOf (raw_law_pick [some (.rng false), some (.tup l)] ⟨m, some r⟩) = _
    unfold raw_law_pick
    simp [e, hi]
  · rw [dlts_all, List.all_eq_true] at hd
    exact hd _ (List.getElem_mem hi)
theorem law_pickL (m : List MO) (r : Rng) {l : List D} {n : Nat} (hn : nget m n = some (.lst l)) (h0 : l ≠ []) (h1 : l.length < 1073741824) (hd : dlts m.length l = true) : ∃ (i : Nat) (d : D) (r' : Rng), l[i]? = some d ∧ G_law_pick [.rng false, .obj n] ⟨m, some r⟩ = .ok d ⟨m, some r'⟩ := by
  have hl : 0 < l.length := List.length_pos_iff.mpr h0
  obtain ⟨i, r', hi, e⟩ := law_drawE (k := l.length) m r (by omega) (by omega)
  have hi : i < l.length := by omega
  refine ⟨i, l[i], r', by simp [hi], fnD_ok (ex := []) rfl ?_ ?_⟩
  · show endOf (raw_law_pick [some (.rng false), some (.obj n)] ⟨m, some r⟩) = _
    unfold raw_law_pick
    simp [e, hi, hn]
  · rw [dlts_all, List.all_eq_true] at hd
    exact hd _ (List.getElem_mem hi)
theorem perm_erase {α : Type} : ∀ {l : List α} {i : Nat} (h : i < l.length), (l[i] :: l.eraseIdx i).Perm l
  | a :: l, 0, _ => by simp
  | a :: l, i + 1, h => by
    have h' : i < l.length := by simpa using h
    have q := perm_erase (l := l) h'
    simp only [List.getElem_cons_succ, List.eraseIdx_cons_succ]
    exact (List.Perm.swap _ _ _).trans (q.cons a)
theorem shuf_loop {n : Nat} {d : D} {m : List MO} : ∀ (ks : List Nat) (left found : List D) (o : Option D) (r : Rng), left.length = ks.length → found.length + left.length < 1000000 → ∃ (res : List D) (o' : Option D) (r' : Rng), res.Perm (found ++ left) ∧
    forL ⟨rgD n, none⟩ (.nm 4) lp_law_shuffled_1 (ks.map fun k : Nat => .int (k : Int)) [some (.rng false), some d, some (.obj m.length), some (.obj (m.length + 1)), o] ⟨.lst found :: .lst left :: m, some r⟩ = .nx [some (.rng false), some d, some (.obj m.length), some (.obj (m.length + 1)), o'] ⟨.lst res :: .lst [] :: m, some r'⟩
  | [], left, found, o, r, h, _ => by
    have e : left = [] := List.eq_nil_of_length_eq_zero h
    subst e
    exact ⟨found, o, r, by simp, forL_nil okN⟩
  | k :: ks, left, found, o, r, h, hl => by
    simp only [List.length_cons] at h
    obtain ⟨i, r', hi, e⟩ := law_drawE (k := left.length) (.lst found :: .lst left :: m) r (by omega) (by omega)
    have hi : i < left.length := by omega
    obtain ⟨res, o', r2, p, q⟩ := shuf_loop (n := n) (d := d) (m := m) ks (left.eraseIdx i) (found ++ [left[i]]) (some (.int k)) r' (by rw [List.length_eraseIdx_of_lt hi]; omega) (by rw [List.length_eraseIdx_of_lt hi]; simp; omega)
    refine ⟨res, o', r2, ?_, (forL_nx okN pm_nm ?_).trans q⟩
    · refine p.trans ?_
      rw [List.append_assoc]
      exact (perm_erase hi).append_left found
    · have h1 : left.length < 1000000 := by omega
      have h2 : found.length < 1000000 := by omega
      simp [lp_law_shuffled_1, nget, nset, e, hi, ixN_nat hi, h1, h2]
theorem dlts_perm {n : Nat} {l l' : List D} (p : l.Perm l') (h : dlts n l = true) : dlts n l' = true := by
  rw [dlts_all, List.all_eq_true] at h ⊢
  exact fun x hx => h x (p.mem_iff.mpr hx)
/-- all of a row, in a drawn order -/
theorem law_shuffled (m : List MO) (r : Rng) {d : D} {l : List D} (ho : ∀ g, opList d ⟨m, g⟩ = mkLst l ⟨m, g⟩) (h1 : l.length < 1000000) (hd : dlts m.length l = true) : ∃ (res : List D) (r' : Rng), res.Perm l ∧ G_law_shuffled [.rng false, d] ⟨m, some r⟩ = .ok (.obj m.length) ⟨.lst res :: m, some r'⟩ := by
  obtain ⟨res, o', r', p, q⟩ := shuf_loop (n := l.length) (d := d) (m := m) (List.range l.length) l [] none r (by simp) (by simpa using h1)
  refine ⟨res, r', by simpa using p, fnD_one (ex := [.lst res, .lst []]) (j := m.length + 1) rfl ?_ (by simp) (by simp [nget]) ?_⟩
  · show endOf (raw_law_shuffled [some (.rng false), some d, none, none, none] ⟨m, some r⟩) = _
    unfold raw_law_shuffled
    have h2 : (l.length : Int) < 4611686018427387904 := by omega
    have h3 : -4611686018427387904 ≤ (l.length : Int) := by omega
    simp [ho, h1, h2, h3]
    rw [rgD_nat] at q ⊢
    rw [q]
    simp
  · exact dlts_perm p.symm (by simpa using hd)
theorem opList_T {l : List D} : ∀ g, opList (.tup l) ⟨m, g⟩ = mkLst l ⟨m, g⟩ := fun _ => rfl
theorem opList_O {l : List D} {n : Nat} (h : nget m n = some (.lst l)) : ∀ g, opList (.obj n) ⟨m, g⟩ = mkLst l ⟨m, g⟩ := fun _ => by rw [opList_obj, h]
theorem law_some (m : List MO) (r : Rng) {d : D} {l : List D} {k : Nat} (ho : ∀ g, opList d ⟨m, g⟩ = mkLst l ⟨m, g⟩) (h1 : l.length < 1000000) (hd : dlts m.length l = true) : ∃ (res : List D) (r' : Rng), res.Perm l ∧ G_law_some [.rng false, d, .int (k : Int)] ⟨m, some r⟩ = .ok (.obj m.length) ⟨.lst (res.take k) :: m, some r'⟩ := by
  obtain ⟨res, r', p, q⟩ := law_shuffled m r ho h1 hd
  have hc : dlts m.length (res.take k) = true := by
    have := dlts_perm p.symm hd
    rw [dlts_all, List.all_eq_true]
    rw [dlts_all, List.all_eq_true] at this
    exact fun x hx => this x (List.mem_of_mem_take hx)
  refine ⟨res, r', p, fnD_one (ex := [.lst (res.take k)]) (j := m.length) rfl ?_ (by simp) (by simp) hc⟩
  show endOf (raw_law_some [some (.rng false), some d, some (.int k)] ⟨m, some r⟩) = _
  unfold raw_law_some
  simp [q, cutD_to, hc]
end
theorem nats_of {P : Nat → Prop} : ∀ {ds : List D}, (∀ d ∈ ds, ∃ i : Nat, P i ∧ d = .int (i : Int)) → ∃ l : List Nat, ds = dNs l ∧ ∀ i ∈ l, P i
  | [], _ => ⟨[], rfl, by simp⟩
  | d :: ds, h => by
    obtain ⟨i, hi, rfl⟩ := h d List.mem_cons_self
    obtain ⟨l, rfl, hl⟩ := nats_of fun x hx => h x (List.mem_cons_of_mem _ hx)
    exact ⟨i :: l, rfl, fun j hj => by
      rcases List.mem_cons.mp hj with rfl | hj
      · exact hi
      · exact hl j hj⟩
/-! ### rules, clashes, webs -/
/-- a row: identity, stamp, weight, cells -/
structure Rw where
  a : Int
  b : Int
  w : Int
  c : List Nat
def rwD (x : Rw) : D := .tup [.int x.a, .int x.b, .int x.w, .tup (dNs x.c)]
def agreeOf (x y : List Nat) : Nat := maskOf ((List.range x.length).filter fun i => x[i]? == y[i]?)
def withinB (a b : Nat) : Bool := a &&& b == a
def clashOf (rules : List (Nat × Nat)) (x y : List Nat) : Bool := rules.any fun e => withinB e.1 (agreeOf x y) && !withinB e.2 (agreeOf x y)
def ruleD (e : Nat × Nat) : D := .tup [dN e.1, dN e.2]
def bookD (n : Nat) (rules : List (Nat × Nat)) : D := .tup [dN n, .tup (rules.map ruleD)]
def webOf (rules : List (Nat × Nat)) (rows : List Rw) : List Nat := rows.map fun x => maskOf ((List.range rows.length).filter fun k => clashOf rules x.c ((rows.map Rw.c).getD k []))
section
variable {m : List MO} {g : Option Rng}
theorem law_agree {x y : List Nat} (h : x.length ≤ y.length) (hl : x.length ≤ 1000000) : G_law_agree [.tup (dNs x), .tup (dNs y)] ⟨m, g⟩ = .ok (.int (agreeOf x y : Nat)) ⟨m, g⟩ := fnD_ok (ex := []) rfl (by
  show endOf (raw_law_agree [some (.tup (dNs x)), some (.tup (dNs y)), none, none] ⟨m, g⟩) = _
  unfold raw_law_agree
  have h2 : (x.length : Int) < 4611686018427387904 := by omega
  have h3 : -4611686018427387904 ≤ (x.length : Int) := by omega
  simp [h2, h3]
  refine forL_end (l := List.range x.length) (b := 0) (fun n : Nat => D.int (n : Int)) (fun k i => if x[i]? == y[i]? then k ||| 2 ^ i else k) (fun (k : Nat) δ s => s = ⟨m, g⟩ ∧ ∃ o, δ = [some (.tup (dNs x)), some (.tup (dNs y)), some (.int (k : Int)), o]) rfl ⟨rfl, _, rfl⟩ (fun b δ s h => okN) (fun done a rest δ s hl' h => ?_) (fun δ s h => ?_)
  · obtain ⟨rfl, o, rfl⟩ := h
    have ha : a < x.length := by have : a ∈ List.range x.length := by rw [hl']; simp
                                 simpa using this
    have ha2 : a < y.length := by omega
    have ha3 : (a : Int) ≤ 1000000 := by omega
    have e2 : ((2 : Int) ^ a) = ((2 ^ a : Nat) : Int) := by simp
    refine ⟨_, pm_nm, _, _, .inl ?_, rfl, some (.int a), rfl⟩
    by_cases z : x[a] = y[a]
    · simp [lp_law_agree_1, ha, ha2, z, ha3, e2, bitOr_nat, -Int.natCast_pow]
    · have z' : ¬ ((x[a] : Int) = (y[a] : Int)) := by omega
      simp [lp_law_agree_1, ha, ha2, z, z', ha3, e2, bitOr_nat, -Int.natCast_pow]
  · obtain ⟨rfl, o, rfl⟩ := h
    simp [agreeOf, maskOf, List.foldl_filter]) rfl
theorem law_clash {n : Nat} {rules : List (Nat × Nat)} {x y : List Nat} (h : x.length ≤ y.length) (hl : x.length ≤ 1000000) (hr : rules.length ≤ 1000000) : G_law_clash [bookD n rules, .tup (dNs x), .tup (dNs y)] ⟨m, g⟩ = .ok (.bl (clashOf rules x y)) ⟨m, g⟩ := fnD_ok (ex := []) rfl (by
  show endOf (raw_law_clash [some (bookD n rules), some (.tup (dNs x)), some (.tup (dNs y)), none, none, none] ⟨m, g⟩) = _
  unfold raw_law_clash
  have e1 := law_agree (m := m) (g := g) h hl
  have e2 : cp_law_clash_1 [some (bookD n rules), some (.tup (dNs x)), some (.tup (dNs y)), some (.int (agreeOf x y : Nat)), none, none] ⟨m, g⟩ = .ok (.obj m.length) ⟨.lst (rules.map fun e => D.bl (withinB e.1 (agreeOf x y) && !withinB e.2 (agreeOf x y))) :: m, g⟩ := by
    unfold cp_law_clash_1
    refine eComp_all (src := ⟨rules.map ruleD, none⟩) ruleD _ rules ?_ rfl (fun _ => okN) (fun e he => ⟨[(4, dN e.1), (5, dN e.2)], ?_, fun acc => ?_⟩) (by simp; omega)
    · simp [bookD]
    · simp [ruleD]
    · simp [dN, law_within, withinB]
      split
      · simp [*, law_within]
      · simp [*]
  simp [e1, e2, trsOf_bls, clashOf]) rfl
end
section
variable {m : List MO} {g : Option Rng}
theorem cp_web {n : Nat} {rules : List (Nat × Nat)} {rows : List Rw} {x : Rw} {L i : Nat} (hL : ∀ y ∈ rows, y.c.length = L) (hx : x.c.length = L) (h1 : L ≤ 1000) (hr : rules.length ≤ 1000000) (h2 : rows.length ≤ 1000000) :
    cp_law_web_1 [some (bookD n rules), some (.tup (rows.map rwD)), some (.obj i), some (rwD x), none] ⟨m, g⟩ = .ok (.obj m.length) ⟨.lst (dNs ((List.range rows.length).filter fun k => clashOf rules x.c ((rows.map Rw.c).getD k []))) :: m, g⟩ := by
  unfold cp_law_web_1
  refine eComp_run (src := ⟨rgD rows.length, none⟩) (fun i : Nat => .int (i : Int)) (fun k => clashOf rules x.c ((rows.map Rw.c).getD k [])) (fun i : Nat => .int (i : Int)) (List.range rows.length) ?_ rfl (fun _ => okN) (fun k hk => ⟨_, pm_nm, fun acc => ⟨?_, fun _ => ?_⟩⟩) (by simp; exact h2)
  · have h2' : (rows.length : Int) < 4611686018427387904 := by omega
    have h3 : -4611686018427387904 ≤ (rows.length : Int) := by omega
    simp [h2', h3]
  · have hk : k < rows.length := by simpa using hk
    have hc := law_clash (m := .lst acc :: m) (g := g) (n := n) (rules := rules) (x := x.c) (y := (rows[k]).c) (by rw [hL _ (List.getElem_mem hk), hx]; exact Nat.le_refl _) (by omega) hr
    have e3 : (rows.map rwD)[k]? = some (rwD rows[k]) := by simp [hk]
    simp [hk, rwD, hc]
  · simp
theorem law_web {n : Nat} {rules : List (Nat × Nat)} {rows : List Rw} {L : Nat} (hL : ∀ y ∈ rows, y.c.length = L) (h1 : L ≤ 1000) (hr : rules.length ≤ 1000000) (h2 : rows.length < 1000000) :
    G_law_web [bookD n rules, .tup (rows.map rwD)] ⟨m, g⟩ = .ok (.obj m.length) ⟨.lst (dNs (webOf rules rows)) :: m, g⟩ := by
  refine fnD_one (ex := [.lst (dNs (webOf rules rows))]) rfl ?_ (Nat.le_refl _) (by simp) (by simp)
  show endOf (raw_law_web [some (bookD n rules), some (.tup (rows.map rwD)), none, none, none] ⟨m, g⟩) = _
  unfold raw_law_web
  simp
  refine forL_endI (l := rows) rwD (fun done δ s => s = ⟨.lst (dNs (done.map fun x => maskOf ((List.range rows.length).filter fun k => clashOf rules x.c ((rows.map Rw.c).getD k [])))) :: m, g⟩ ∧ ∃ o, δ = [some (bookD n rules), some (.tup (rows.map rwD)), some (.obj m.length), o, none]) rfl ⟨rfl, _, rfl⟩ (fun b δ s h => okN) (fun done a rest δ s hl' h => ?_) (fun δ s h => ?_)
  · obtain ⟨rfl, o, rfl⟩ := h
    have ha : a ∈ rows := by rw [hl']; simp
    have hd : done.length < 1000000 := by
      have : rows.length = done.length + (rest.length + 1) := by rw [hl']; simp
      omega
    generalize hq : (fun x : Rw => maskOf ((List.range rows.length).filter fun k => clashOf rules x.c ((rows.map Rw.c).getD k []))) = F
    have e := cp_web (m := .lst (dNs (done.map F)) :: m) (g := g) (n := n) (i := m.length) hL (hL a ha) h1 hr (Nat.le_of_lt h2)
    refine ⟨_, pm_nm, _, _, .inl ?_, rfl, some (rwD a), rfl⟩
    generalize hz : ((List.range rows.length).filter fun k => clashOf rules a.c ((rows.map Rw.c).getD k [])) = z at e
    have e2 := law_mask (d := .obj (m.length + 1)) (l := z) (m := .lst (dNs z) :: .lst (dNs (done.map F)) :: m) (g := g) (src := ⟨dNs z, some (m.length + 1, .lst (dNs z))⟩) (by simp) rfl (by simp) (fun i hi => by rw [← hz] at hi; simp at hi; omega)
    have e3 : F a = maskOf z := by rw [← hq, ← hz]
    simp [lp_law_web_1, e, e2, hd, e3]
  · obtain ⟨rfl, o, rfl⟩ := h
    simp [webOf]
def calmOf (near : List Nat) (k : Nat) : Bool := (bitsOf k).all fun r => near.getD r 0 &&& k == 0
theorem law_calm {n k : Nat} {near : List Nat} (hn : nget m n = some (.lst (dNs near))) (hk : ∀ i ∈ bitsOf k, i < near.length) (hs : sizeN k ≤ 1000000) : G_law_calm [.obj n, .int (k : Int)] ⟨m, g⟩ = .ok (.bl (calmOf near k)) ⟨m, g⟩ := fnD_ok (ex := []) rfl (by
  show endOf (raw_law_calm [some (.obj n), some (.int (k : Int)), none] ⟨m, g⟩) = _
  unfold raw_law_calm
  have hlt := nget_lt hn
  have e := law_bits (m := m) (g := g) hs
  have hb : (bitsOf k).length ≤ lim := by
    have : (bitsOf k).length ≤ sizeN k := by unfold bitsOf; exact Nat.le_trans (List.length_filter_le _ _) (by simp)
    simp only [lim_eq]; omega
  have e2 : cp_law_calm_1 [some (.obj n), some (.int (k : Int)), none] ⟨m, g⟩ = .ok (.obj (m.length + 1)) ⟨.lst ((bitsOf k).map fun r => .int ((near.getD r 0 &&& k : Nat) : Int)) :: .lst (dNs (bitsOf k)) :: m, g⟩ := by
    unfold cp_law_calm_1
    refine eComp_all (m := .lst (dNs (bitsOf k)) :: m) (src := ⟨dNs (bitsOf k), some (m.length, .lst (dNs (bitsOf k)))⟩) (fun i : Nat => .int (i : Int)) (fun r => .int ((near.getD r 0 &&& k : Nat) : Int)) (bitsOf k) ?_ rfl (fun _ => by simp) (fun r hr => ⟨_, pm_nm, fun acc => ?_⟩) hb
    · simp [e]
    · have hr := hk r hr
      have h1 : ¬ n = m.length := by omega
      have h2 : ¬ n = m.length + 1 := by omega
      simp [h1, h2, hn, hr, bitAnd_nat]
  simp [e2, trsOf_ints]
  unfold calmOf
  rw [Bool.eq_iff_iff]
  simp) rfl
end
theorem range_mid {n a : Nat} {done rest : List Nat} (h : List.range n = done ++ a :: rest) : a = done.length ∧ a < n := by
  have e : (List.range n)[done.length]? = some a := by rw [h]; simp
  rw [List.getElem?_range] at e
  · simp at e
    have : a ∈ List.range n := by rw [h]; simp
    exact ⟨e.symm, by simpa using this⟩
  · have := congrArg List.length h
    simp at this
    omega
def peacesN (near : List Nat) : Nat → List Nat
  | 0 => [0]
  | r + 1 => peacesN near r ++ ((peacesN near r).filter fun k => near.getD r 0 &&& k == 0).map fun k => k ||| 2 ^ r
def peacesOf (near : List Nat) : List Nat := peacesN near near.length
theorem peacesN_len (near : List Nat) : ∀ r, (peacesN near r).length ≤ 2 ^ r
  | 0 => by simp [peacesN]
  | r + 1 => by
    have h1 := peacesN_len near r
    have h2 := List.length_filter_le (fun k => near.getD r 0 &&& k == 0) (peacesN near r)
    unfold peacesN
    rw [List.length_append, List.length_map, Nat.pow_succ]
    omega
section
variable {m : List MO} {g : Option Rng}
theorem cp_peaces {n r : Nat} {near fs : List Nat} (hn : nget m n = some (.lst (dNs near))) (hr : r < near.length) (h1 : r ≤ 1000000) (h2 : fs.length ≤ 1000000) :
    cp_law_peaces_1 [some (.obj n), some (.obj m.length), some (.int (r : Int)), none] ⟨.lst (dNs fs) :: m, g⟩ = .ok (.obj (m.length + 1)) ⟨.lst (dNs ((fs.filter fun k => near.getD r 0 &&& k == 0).map fun k => k ||| 2 ^ r)) :: .lst (dNs fs) :: m, g⟩ := by
  unfold cp_law_peaces_1
  have hlt := nget_lt hn
  have h3 : ¬ n = m.length := by omega
  have h4 : ¬ n = m.length + 1 := by omega
  refine (eComp_run (m := .lst (dNs fs) :: m) (src := ⟨dNs fs, some (m.length, .lst (dNs fs))⟩) (fun k : Nat => .int (k : Int)) (fun k => near.getD r 0 &&& k == 0) (fun k => .int ((k ||| 2 ^ r : Nat) : Int)) fs (g := g) (by simp) rfl (fun _ => by simp) (fun k hk => ⟨_, pm_nm, fun acc => ⟨?_, fun _ => ?_⟩⟩) h2).trans ?_
  · simp [h3, h4, hn, hr, bitAnd_nat]
    rw [Bool.eq_iff_iff]
    simp
  · have e2 : ((2 : Int) ^ r) = ((2 ^ r : Nat) : Int) := by simp
    have hr' : (r : Int) ≤ 1000000 := by omega
    simp [hr', e2, bitOr_nat, -Int.natCast_pow]
  · simp [dNs]
theorem law_peaces {n : Nat} {near : List Nat} (hn : nget m n = some (.lst (dNs near))) (hr : near.length ≤ 18) : G_law_peaces [.obj n] ⟨m, g⟩ = .ok (.obj m.length) ⟨.lst (dNs (peacesOf near)) :: m, g⟩ := by
  refine fnD_one (ex := [.lst (dNs (peacesOf near))]) rfl ?_ (Nat.le_refl _) (by simp) (by simp)
  show endOf (raw_law_peaces [some (.obj n), none, none, none] ⟨m, g⟩) = _
  unfold raw_law_peaces
  have hlt := nget_lt hn
  have h3 : ¬ n = m.length := by omega
  have h4 : (near.length : Int) < 4611686018427387904 := by omega
  have h5 : -4611686018427387904 ≤ (near.length : Int) := by omega
  simp [h3, hn, h4, h5]
  refine forL_endI (l := List.range near.length) (fun i : Nat => .int (i : Int)) (fun done δ s => s = ⟨.lst (dNs (peacesN near done.length)) :: m, g⟩ ∧ ∃ o, δ = [some (.obj n), some (.obj m.length), o, none]) rfl ⟨rfl, _, rfl⟩ (fun b δ s h => okN) (fun done a rest δ s hl' h => ?_) (fun δ s h => ?_)
  · obtain ⟨rfl, o, rfl⟩ := h
    obtain ⟨rfl, ha⟩ := range_mid hl'
    have hp := peacesN_len near done.length
    have hp2 : 2 ^ done.length ≤ 2 ^ 17 := Nat.pow_le_pow_right (by decide) (by omega)
    have hf := List.length_filter_le (fun k => near.getD done.length 0 &&& k == 0) (peacesN near done.length)
    refine ⟨_, pm_nm, _, _, .inl ?_, rfl, some (.int (done.length : Int)), rfl⟩
    have e := cp_peaces (g := g) (fs := peacesN near done.length) hn ha (by omega) (by omega)
    have en : (done ++ [done.length]).length = done.length + 1 := by simp
    rw [en, peacesN]
    generalize peacesN near done.length = fs at *
    have hz : fs.length + ((fs.filter fun k => near.getD done.length 0 &&& k == 0).map fun k => k ||| 2 ^ done.length).length < 1000000 := by rw [List.length_map]; omega
    generalize ((fs.filter fun k => near.getD done.length 0 &&& k == 0).map fun k => k ||| 2 ^ done.length) = z at *
    simp [lp_law_peaces_1, e, hz]
  · obtain ⟨rfl, o, rfl⟩ := h
    simp [peacesOf]
def weighOf (ws : List Int) (k : Nat) : Int := ((bitsOf k).map fun r => ws.getD r 0).sum
theorem law_weigh {n k : Nat} {ws : List Int} (hn : nget m n = some (.lst (ws.map D.int))) (hk : ∀ i ∈ bitsOf k, i < ws.length) (hs : sizeN k ≤ 1000000) : G_law_weigh [.obj n, .int (k : Int)] ⟨m, g⟩ = .ok (.int (weighOf ws k)) ⟨m, g⟩ := fnD_ok (ex := []) rfl (by
  show endOf (raw_law_weigh [some (.obj n), some (.int (k : Int)), none] ⟨m, g⟩) = _
  unfold raw_law_weigh
  have hlt := nget_lt hn
  have e := law_bits (m := m) (g := g) hs
  have hb : (bitsOf k).length ≤ lim := by
    have : (bitsOf k).length ≤ sizeN k := by unfold bitsOf; exact Nat.le_trans (List.length_filter_le _ _) (by simp)
    simp only [lim_eq]; omega
  have e2 : cp_law_weigh_1 [some (.obj n), some (.int (k : Int)), none] ⟨m, g⟩ = .ok (.obj (m.length + 1)) ⟨.lst ((bitsOf k).map fun r => .int (ws.getD r 0)) :: .lst (dNs (bitsOf k)) :: m, g⟩ := by
    unfold cp_law_weigh_1
    refine eComp_all (m := .lst (dNs (bitsOf k)) :: m) (src := ⟨dNs (bitsOf k), some (m.length, .lst (dNs (bitsOf k)))⟩) (fun i : Nat => .int (i : Int)) (fun r => .int (ws.getD r 0)) (bitsOf k) ?_ rfl (fun _ => by simp) (fun r hr => ⟨_, pm_nm, fun acc => ?_⟩) hb
    · simp [e]
    · have hr := hk r hr
      have h1 : ¬ n = m.length := by omega
      have h2 : ¬ n = m.length + 1 := by omega
      simp [h1, h2, hn, hr]
  simp [e2, intsOf_ints]
  rfl) rfl
theorem sizeN_lt {k n : Nat} (h : k < 2 ^ n) : sizeN k ≤ n := by
  unfold sizeN
  split
  · omega
  · rename_i h0
    exact (Nat.log2_lt h0).mpr h
theorem lt_sizeN (k : Nat) : k < 2 ^ sizeN k := by
  unfold sizeN
  split
  · rename_i h; simp [h]
  · exact Nat.lt_log2_self
theorem mem_bitsOf {k i : Nat} : i ∈ bitsOf k ↔ k.testBit i = true := by
  unfold bitsOf
  rw [List.mem_filter, List.mem_range]
  refine ⟨fun h => h.2, fun h => ⟨?_, h⟩⟩
  have := Nat.ge_two_pow_of_testBit h
  have h2 := lt_sizeN k
  exact (Nat.pow_lt_pow_iff_right (by decide)).mp (Nat.lt_of_le_of_lt this h2)
theorem mem_peacesN_lt (near : List Nat) : ∀ {r k : Nat}, k ∈ peacesN near r → k < 2 ^ r
  | 0, k, h => by simp [peacesN] at h; simp [h]
  | r + 1, k, h => by
    unfold peacesN at h
    rcases List.mem_append.mp h with h | h
    · have := mem_peacesN_lt near h
      rw [Nat.pow_succ]; omega
    · obtain ⟨k', h1, rfl⟩ := List.mem_map.mp h
      have := mem_peacesN_lt near (List.mem_filter.mp h1).1
      exact Nat.or_lt_two_pow (by rw [Nat.pow_succ]; omega) (Nat.pow_lt_pow_right (by decide) (by omega))
theorem testBit_lt {k n i : Nat} (h : k < 2 ^ n) (hi : k.testBit i = true) : i < n := by
  have := Nat.ge_two_pow_of_testBit hi
  exact (Nat.pow_lt_pow_iff_right (by decide)).mp (Nat.lt_of_le_of_lt this h)
theorem law_best {n j : Nat} {near : List Nat} {ws : List Int} (hn : nget m n = some (.lst (dNs near))) (hj : nget m j = some (.lst (ws.map D.int))) (hr : near.length ≤ 18) (hw : near.length ≤ ws.length) :
    G_law_best [.obj n, .obj j] ⟨m, g⟩ = .ok (.int (maxL ((peacesOf near).map (weighOf ws)))) ⟨m, g⟩ := fnD_ok (ex := []) rfl (by
  show endOf (raw_law_best [some (.obj n), some (.obj j), none] ⟨m, g⟩) = _
  unfold raw_law_best
  have e := law_peaces (g := g) hn hr
  have hl := peacesN_len near near.length
  have hl2 : 2 ^ near.length ≤ 2 ^ 18 := Nat.pow_le_pow_right (by decide) hr
  have hlj := nget_lt hj
  have hne : (peacesOf near) ≠ [] := by
    have : ∀ r, peacesN near r ≠ [] := by
      intro r
      induction r with
      | zero => simp [peacesN]
      | succ r ih => unfold peacesN; simp [ih]
    exact this _
  have e2 : cp_law_best_1 [some (.obj n), some (.obj j), none] ⟨m, g⟩ = .ok (.obj (m.length + 1)) ⟨.lst ((peacesOf near).map fun k => .int (weighOf ws k)) :: .lst (dNs (peacesOf near)) :: m, g⟩ := by
    unfold cp_law_best_1
    refine eComp_all (m := .lst (dNs (peacesOf near)) :: m) (src := ⟨dNs (peacesOf near), some (m.length, .lst (dNs (peacesOf near)))⟩) (fun i : Nat => .int (i : Int)) (fun k => .int (weighOf ws k)) (peacesOf near) ?_ rfl (fun _ => by simp) (fun k hk => ⟨_, pm_nm, fun acc => ?_⟩) (by simp only [lim_eq]; unfold peacesOf; omega)
    · simp [e]
    · have hk := mem_peacesN_lt near hk
      have h1 : ¬ j = m.length := by omega
      have h2 : ¬ j = m.length + 1 := by omega
      have e3 := law_weigh (m := .lst acc :: .lst (dNs (peacesOf near)) :: m) (g := g) (n := j) (k := k) (ws := ws) (by simp [h1, h2, hj]) (fun i hi => Nat.lt_of_lt_of_le (testBit_lt hk (mem_bitsOf.mp hi)) hw) (Nat.le_trans (sizeN_lt hk) (by omega))
      simp [e3]
  simp [e2, intsOf_ints, hne]) rfl
theorem law_rows_of {k : Nat} (hs : sizeN k ≤ 900000) : G_law_rows_of [.int (k : Int)] ⟨m, g⟩ = .ok (.tup (dNs (bitsOf k))) ⟨m, g⟩ := fnD_ok (ex := []) rfl (by
  show endOf (raw_law_rows_of [some (.int (k : Int))] ⟨m, g⟩) = _
  unfold raw_law_rows_of
  have e := law_bits (m := m) (g := g) (k := k) (by omega)
  have hb : (bitsOf k).length < 1000000 := by
    have : (bitsOf k).length ≤ sizeN k := by unfold bitsOf; exact Nat.le_trans (List.length_filter_le _ _) (by simp)
    omega
  simp [e, hb]) (by simp)
end
end LA

namespace K66
open PySem PySem.Spec PyProof.Rows L2 DL LA
def topS (i : Nat) : Stmt := PySem.Challenge.pw_rowtruce_k66_sayings_and_rows.main.body.getD i (.Pass ⟨0, 0, 0, 0⟩)
/-! plain_table(cells_list): cells_list 0, cells 1 -/
noncomputable def cp_plain_table_1 : DEnv → Sto → Out D :=
    (eComp (iSeq (eVar 0)) (.nm 1) cYes (eTup (aCons (eC (.int 0)) (aCons (eC (.int 0)) (aCons (eC (.int 1)) (aCons (eCall (f1 opTuple) (aCons (eVar 1) aNil)) aNil))))) [1])
noncomputable def raw_plain_table : DEnv → Sto → Res :=
    (sRet (eClean (eCall (f1 opTuple) (aCons cp_plain_table_1 aNil))))
noncomputable def G_plain_table : List D → Sto → Out D := fnD 1 1 raw_plain_table
theorem sc_plain_table : FnScope ["cells_list", "cells"] ["cells_list"] (defScope (topS 1)) := ⟨rfl, rfl, rfl, by decide +kernel, rfl, by decide +kernel, by decide +kernel⟩
/-! sayings_table(puzzle): puzzle 0, cells_list 1, number 2, sign 3, members 4, name 5 -/
noncomputable def cp_sayings_table_1 : DEnv → Sto → Out D :=
    (eComp (iSeq (eVar 4)) (.nm 5) cYes (eTup (aCons (eVar 2) (aCons (eVar 3) (aCons (eVar 5) aNil)))) [5])
noncomputable def lp_sayings_table_1 : DEnv → Sto → Res :=
    (sExpr (eClean (eMeth mExtend (eVar 1) (aCons cp_sayings_table_1 aNil))))
noncomputable def raw_sayings_table : DEnv → Sto → Res :=
    (sSeq (sSet 1 (eLst aNil))
    (sSeq (sFor (iEnu (eBin opIx (eVar 0) (eC (.int 1)))) (.tp [(.nm 2), (.tp [(.nm 3), (.nm 4)])])
    lp_sayings_table_1)
    (sRet (eFn 1 G_plain_table (aCons (eVar 1) aNil)))))
noncomputable def G_sayings_table : List D → Sto → Out D := fnD 1 5 raw_sayings_table
theorem sc_sayings_table : FnScope ["puzzle", "cells_list", "number", "sign", "members", "name"] ["puzzle"] (defScope (topS 3)) := ⟨rfl, rfl, rfl, by decide +kernel, rfl, by decide +kernel, by decide +kernel⟩
/-! holding(puzzle, answer): puzzle 0, answer 1, found 2, number 3, sign 4, members 5, name 6 -/
noncomputable def cp_holding_1 : DEnv → Sto → Out D :=
    (eComp (iSeq (eVar 5)) (.nm 6) cYes (eBin opEq (eBin opIx (eVar 1) (eVar 6)) (eVar 4)) [6])
noncomputable def lp_holding_1 : DEnv → Sto → Res :=
    (sIf (cTru (eClean (eCall (f1 opAnyG) (aCons cp_holding_1 aNil))))
    (sExpr (eMeth mAppend (eVar 2) (aCons (eVar 3) aNil)))
    sNil)
noncomputable def raw_holding : DEnv → Sto → Res :=
    (sSeq (sSet 2 (eLst aNil))
    (sSeq (sFor (iEnu (eBin opIx (eVar 0) (eC (.int 1)))) (.tp [(.nm 3), (.tp [(.nm 4), (.nm 5)])])
    lp_holding_1)
    (sRet (eCall (f1 opTuple) (aCons (eVar 2) aNil)))))
noncomputable def G_holding : List D → Sto → Out D := fnD 2 5 raw_holding
theorem sc_holding : FnScope ["puzzle", "answer", "found", "number", "sign", "members", "name"] ["puzzle", "answer"] (defScope (topS 4)) := ⟨rfl, rfl, rfl, by decide +kernel, rfl, by decide +kernel, by decide +kernel⟩
/-! rows_of_answer(puzzle, answer): puzzle 0, answer 1, found 2, row 3, sign 4, members 5, fitting 6, place 7, name 8 -/
noncomputable def cp_rows_of_answer_1 : DEnv → Sto → Out D :=
    (eComp (iEnu (eVar 5)) (.tp [(.nm 7), (.nm 8)]) (cB (eBin opEq (eBin opIx (eVar 1) (eVar 8)) (eVar 4))) (eVar 7) [7, 8])
noncomputable def lp_rows_of_answer_1 : DEnv → Sto → Res :=
    (sSeq (sSet 6 cp_rows_of_answer_1)
    (sSeq (sIf (cClean (cB (eBin opNe (eVar 6) (eLst aNil))))
    (sExpr (eMeth mAppend (eVar 2) (aCons (eBin opAdd (eVar 3) (eBin opIx (eVar 6) (eC (.int 0)))) aNil)))
    sNil)
    (sAug 3 opIadd (eCall (f1 opLen) (aCons (eVar 5) aNil)))))
noncomputable def raw_rows_of_answer : DEnv → Sto → Res :=
    (sSeq (sSet 2 (eLst aNil))
    (sSeq (sSet 3 (eC (.int 0)))
    (sSeq (sFor (iSeq (eBin opIx (eVar 0) (eC (.int 1)))) (.tp [(.nm 4), (.nm 5)])
    lp_rows_of_answer_1)
    (sRet (eCall (f1 opTuple) (aCons (eVar 2) aNil))))))
noncomputable def G_rows_of_answer : List D → Sto → Out D := fnD 2 7 raw_rows_of_answer
theorem sc_rows_of_answer : FnScope ["puzzle", "answer", "found", "row", "sign", "members", "fitting", "place", "name"] ["puzzle", "answer"] (defScope (topS 5)) := ⟨rfl, rfl, rfl, by decide +kernel, rfl, by decide +kernel, by decide +kernel⟩
/-! answer_of_rows(puzzle, chosen): puzzle 0, chosen 1, answer 2, number 3, row 4 -/
noncomputable def lp_answer_of_rows_1 : DEnv → Sto → Res :=
    (sIf (cB (eBin opIn (eVar 3) (eVar 1)))
    (sSub (eVar 2) (eBin opIx (eBin opIx (eVar 4) (eC (.int 3))) (eC (.int 2))) (eBin opIx (eBin opIx (eVar 4) (eC (.int 3))) (eC (.int 1))))
    sNil)
noncomputable def raw_answer_of_rows : DEnv → Sto → Res :=
    (sSeq (sSet 2 (eClean (eBin opMul (eLst (aCons (eC (.int 0)) aNil)) (eBin opIx (eVar 0) (eC (.int 0))))))
    (sSeq (sFor (iEnu (eFn 1 G_sayings_table (aCons (eVar 0) aNil))) (.tp [(.nm 3), (.nm 4)])
    lp_answer_of_rows_1)
    (sRet (eCall (f1 opTuple) (aCons (eVar 2) aNil)))))
noncomputable def G_answer_of_rows : List D → Sto → Out D := fnD 2 3 raw_answer_of_rows
theorem sc_answer_of_rows : FnScope ["puzzle", "chosen", "answer", "number", "row"] ["puzzle", "chosen"] (defScope (topS 6)) := ⟨rfl, rfl, rfl, by decide +kernel, rfl, by decide +kernel, by decide +kernel⟩
/-! answers_of(names): names 0, found 1, place 2, answer 3, sign 4 -/
noncomputable def cp_answers_of_1 : DEnv → Sto → Out D :=
    (eComp2 (iSeq (eVar 1)) (.nm 3) cYes (iSeq (eTup (aCons (eC (.int 0)) (aCons (eC (.int 1)) aNil)))) (.nm 4) [4] cYes (eBin opAdd (eVar 3) (eTup (aCons (eVar 4) aNil))) [3, 4])
noncomputable def lp_answers_of_1 : DEnv → Sto → Res :=
    (sSet 1 cp_answers_of_1)
noncomputable def raw_answers_of : DEnv → Sto → Res :=
    (sSeq (sSet 1 (eLst (aCons (eTup aNil) aNil)))
    (sSeq (sFor (iRg1 (eVar 0)) (.nm 2)
    lp_answers_of_1)
    (sRet (eCall (f1 opTuple) (aCons (eVar 1) aNil)))))
noncomputable def G_answers_of : List D → Sto → Out D := fnD 1 4 raw_answers_of
theorem sc_answers_of : FnScope ["names", "found", "place", "answer", "sign"] ["names"] (defScope (topS 7)) := ⟨rfl, rfl, rfl, by decide +kernel, rfl, by decide +kernel, by decide +kernel⟩
/-! best_answer(puzzle): puzzle 0, best 1, most 2, answer 3, many 4 -/
noncomputable def lp_best_answer_1 : DEnv → Sto → Res :=
    (sSeq (sSet 4 (eCall (f1 opLen) (aCons (eFn 2 G_holding (aCons (eVar 0) (aCons (eVar 3) aNil))) aNil)))
    (sIf (cB (eBin opGt (eVar 4) (eVar 2)))
    (sPar 1 2 (eVar 3) (eVar 4))
    sNil))
noncomputable def raw_best_answer : DEnv → Sto → Res :=
    (sSeq (sSet 1 (eC .non))
    (sSeq (sSet 2 (eUn opNeg (eC (.int 1))))
    (sSeq (sFor (iSeq (eFn 1 G_answers_of (aCons (eBin opIx (eVar 0) (eC (.int 0))) aNil))) (.nm 3)
    lp_best_answer_1)
    (sRet (eTup (aCons (eVar 2) (aCons (eVar 1) aNil)))))))
noncomputable def G_best_answer : List D → Sto → Out D := fnD 1 4 raw_best_answer
theorem sc_best_answer : FnScope ["puzzle", "best", "most", "answer", "many"] ["puzzle"] (defScope (topS 8)) := ⟨rfl, rfl, rfl, by decide +kernel, rfl, by decide +kernel, by decide +kernel⟩
theorem sc_law_begin : FnScope ["script", "cell"] ["script"] (defScope (topS 10)) := ⟨rfl, rfl, rfl, by decide +kernel, rfl, by decide +kernel, by decide +kernel⟩
theorem sc_law_draw : FnScope ["d", "many", "size", "value", "cell"] ["d", "many"] (defScope (topS 11)) := ⟨rfl, rfl, rfl, by decide +kernel, rfl, by decide +kernel, by decide +kernel⟩
theorem sc_law_pick : FnScope ["d", "row"] ["d", "row"] (defScope (topS 12)) := ⟨rfl, rfl, rfl, by decide +kernel, rfl, by decide +kernel, by decide +kernel⟩
theorem sc_law_shuffled : FnScope ["d", "row", "left", "found", "k"] ["d", "row"] (defScope (topS 13)) := ⟨rfl, rfl, rfl, by decide +kernel, rfl, by decide +kernel, by decide +kernel⟩
theorem sc_law_some : FnScope ["d", "row", "many"] ["d", "row", "many"] (defScope (topS 14)) := ⟨rfl, rfl, rfl, by decide +kernel, rfl, by decide +kernel, by decide +kernel⟩
theorem sc_law_is_int : FnScope ["thing"] ["thing"] (defScope (topS 15)) := ⟨rfl, rfl, rfl, by decide +kernel, rfl, by decide +kernel, by decide +kernel⟩
theorem sc_law_plain : FnScope ["thing", "waiting", "k", "part"] ["thing"] (defScope (topS 16)) := ⟨rfl, rfl, rfl, by decide +kernel, rfl, by decide +kernel, by decide +kernel⟩
theorem sc_law_bits : FnScope ["mask", "place"] ["mask"] (defScope (topS 17)) := ⟨rfl, rfl, rfl, by decide +kernel, rfl, by decide +kernel, by decide +kernel⟩
theorem sc_law_mask : FnScope ["numbers", "mask", "number"] ["numbers"] (defScope (topS 18)) := ⟨rfl, rfl, rfl, by decide +kernel, rfl, by decide +kernel, by decide +kernel⟩
theorem sc_law_within : FnScope ["inner", "outer"] ["inner", "outer"] (defScope (topS 19)) := ⟨rfl, rfl, rfl, by decide +kernel, rfl, by decide +kernel, by decide +kernel⟩
theorem sc_law_agree : FnScope ["one", "other", "mask", "place"] ["one", "other"] (defScope (topS 20)) := ⟨rfl, rfl, rfl, by decide +kernel, rfl, by decide +kernel, by decide +kernel⟩
theorem sc_law_clash : FnScope ["book", "one", "other", "mask", "left", "right"] ["book", "one", "other"] (defScope (topS 21)) := ⟨rfl, rfl, rfl, by decide +kernel, rfl, by decide +kernel, by decide +kernel⟩
theorem sc_law_web : FnScope ["book", "rows", "found", "one", "k"] ["book", "rows"] (defScope (topS 22)) := ⟨rfl, rfl, rfl, by decide +kernel, rfl, by decide +kernel, by decide +kernel⟩
theorem sc_law_calm : FnScope ["near", "mask", "row"] ["near", "mask"] (defScope (topS 23)) := ⟨rfl, rfl, rfl, by decide +kernel, rfl, by decide +kernel, by decide +kernel⟩
theorem sc_law_peaces : FnScope ["near", "found", "row", "mask"] ["near"] (defScope (topS 24)) := ⟨rfl, rfl, rfl, by decide +kernel, rfl, by decide +kernel, by decide +kernel⟩
theorem sc_law_weigh : FnScope ["worths", "mask", "row"] ["worths", "mask"] (defScope (topS 25)) := ⟨rfl, rfl, rfl, by decide +kernel, rfl, by decide +kernel, by decide +kernel⟩
theorem sc_law_best : FnScope ["near", "worths", "mask"] ["near", "worths"] (defScope (topS 26)) := ⟨rfl, rfl, rfl, by decide +kernel, rfl, by decide +kernel, by decide +kernel⟩
theorem sc_law_rows_of : FnScope ["mask"] ["mask"] (defScope (topS 27)) := ⟨rfl, rfl, rfl, by decide +kernel, rfl, by decide +kernel, by decide +kernel⟩
/-! _law_drawn_puzzle(d): d 0, way 1, names 2, many 3, widest 4, sayings 5, k 6, members 7 -/
noncomputable def lp_law_drawn_puzzle_1 : DEnv → Sto → Res :=
    (sSeq (sSet 7 (eClean (eCall (f1 opTuple) (aCons (eClean (eCall (f1 opSorted) (aCons (eClean (eFn 3 G_law_some (aCons (eVar 0) (aCons (eLrg false (eVar 2)) (aCons (eBin opAdd (eC (.int 1)) (eFn 2 G_law_draw (aCons (eVar 0) (aCons (eCall (fMin) (aCons (eVar 2) (aCons (eVar 4) aNil))) aNil)))) aNil))))) aNil))) aNil))))
    (sSeq (sIf (cAnd (cClean (cB (eBin opNe (eVar 5) (eLst aNil)))) (cB (eBin opEq (eFn 2 G_law_draw (aCons (eVar 0) (aCons (eC (.int 3)) aNil))) (eC (.int 1)))))
    (sSet 7 (eBin opIx (eFn 2 G_law_pick (aCons (eVar 0) (aCons (eVar 5) aNil))) (eC (.int 1))))
    sNil)
    (sExpr (eMeth mAppend (eVar 5) (aCons (eTup (aCons (eFn 2 G_law_draw (aCons (eVar 0) (aCons (eC (.int 2)) aNil))) (aCons (eVar 7) aNil))) aNil)))))
noncomputable def raw_law_drawn_puzzle : DEnv → Sto → Res :=
    (sSeq (sSet 1 (eFn 2 G_law_draw (aCons (eVar 0) (aCons (eC (.int 8)) aNil))))
    (sSeq (sSet 2 (eBin opAdd (eC (.int 1)) (eFn 2 G_law_draw (aCons (eVar 0) (aCons (eC (.int 5)) aNil)))))
    (sSeq (sSet 3 (eFn 2 G_law_draw (aCons (eVar 0) (aCons (eC (.int 7)) aNil))))
    (sSeq (sSet 4 (eC (.int 3)))
    (sSeq (sIf (cB (eBin opEq (eVar 1) (eC (.int 3))))
    (sSeq (sSet 2 (eBin opAdd (eC (.int 1)) (eFn 2 G_law_draw (aCons (eVar 0) (aCons (eC (.int 8)) aNil)))))
    (sSeq (sSet 3 (eBin opAdd (eC (.int 8)) (eFn 2 G_law_draw (aCons (eVar 0) (aCons (eC (.int 5)) aNil)))))
    (sSet 4 (eC (.int 5)))))
    sNil)
    (sSeq (sIf (cB (eBin opEq (eVar 1) (eC (.int 5))))
    (sSeq (sSet 2 (eBin opAdd (eC (.int 7)) (eFn 2 G_law_draw (aCons (eVar 0) (aCons (eC (.int 2)) aNil)))))
    (sSet 4 (eC (.int 2))))
    sNil)
    (sSeq (sSet 5 (eLst aNil))
    (sSeq (sFor (iRg1 (eVar 3)) (.nm 6)
    lp_law_drawn_puzzle_1)
    (sRet (eTup (aCons (eVar 2) (aCons (eCall (f1 opTuple) (aCons (eVar 5) aNil)) aNil))))))))))))
noncomputable def G_law_drawn_puzzle : List D → Sto → Out D := fnD 1 7 raw_law_drawn_puzzle
theorem sc_law_drawn_puzzle : FnScope ["d", "way", "names", "many", "widest", "sayings", "k", "members"] ["d"] (defScope (topS 28)) := ⟨rfl, rfl, rfl, by decide +kernel, rfl, by decide +kernel, by decide +kernel⟩
/-! _law_other(d, puzzle): d 0, puzzle 1, place 2, names 3, sayings 4, sign 5, members 6 -/
noncomputable def raw_law_other : DEnv → Sto → Res :=
    (sSeq (sPat (.tp [(.nm 3), (.nm 4)]) (eVar 1))
    (sSeq (sIf (cOr (cB (eBin opEq (eVar 4) (eTup aNil))) (cAnd (cB (eBin opLt (eVar 3) (eC (.int 8)))) (cB (eBin opEq (eFn 2 G_law_draw (aCons (eVar 0) (aCons (eC (.int 3)) aNil))) (eC (.int 1))))))
    (sRet (eTup (aCons (eIf (cB (eBin opLt (eVar 3) (eC (.int 8)))) (eBin opAdd (eVar 3) (eC (.int 1))) (eC (.int 7))) (aCons (eVar 4) aNil))))
    sNil)
    (sSeq (sSet 2 (eFn 2 G_law_draw (aCons (eVar 0) (aCons (eCall (f1 opLen) (aCons (eVar 4) aNil)) aNil))))
    (sSeq (sPat (.tp [(.nm 5), (.nm 6)]) (eBin opIx (eVar 4) (eVar 2)))
    (sRet (eTup (aCons (eVar 3) (aCons (eBin opAdd (eBin opAdd (eSl (eVar 4) oNone (oSome (eVar 2))) (eTup (aCons (eTup (aCons (eBin opSub (eC (.int 1)) (eVar 5)) (aCons (eVar 6) aNil))) aNil))) (eSl (eVar 4) (oSome (eBin opAdd (eVar 2) (eC (.int 1)))) oNone)) aNil))))))))
noncomputable def G_law_other : List D → Sto → Out D := fnD 2 5 raw_law_other
theorem sc_law_other : FnScope ["d", "puzzle", "place", "names", "sayings", "sign", "members"] ["d", "puzzle"] (defScope (topS 29)) := ⟨rfl, rfl, rfl, by decide +kernel, rfl, by decide +kernel, by decide +kernel⟩
/-! _law_cells_of(puzzle): puzzle 0, found 1, k 2, sign 3, members 4, name 5 -/
noncomputable def cp_law_cells_of_1 : DEnv → Sto → Out D :=
    (eComp (iSeq (eVar 4)) (.nm 5) cYes (eTup (aCons (eVar 2) (aCons (eVar 3) (aCons (eVar 5) aNil)))) [5])
noncomputable def lp_law_cells_of_1 : DEnv → Sto → Res :=
    (sSeq (sPat (.tp [(.nm 3), (.nm 4)]) (eBin opIx (eBin opIx (eVar 0) (eC (.int 1))) (eVar 2)))
    (sExpr (eClean (eMeth mExtend (eVar 1) (aCons cp_law_cells_of_1 aNil)))))
noncomputable def raw_law_cells_of : DEnv → Sto → Res :=
    (sSeq (sSet 1 (eLst aNil))
    (sSeq (sFor (iRg1 (eCall (f1 opLen) (aCons (eBin opIx (eVar 0) (eC (.int 1))) aNil))) (.nm 2)
    lp_law_cells_of_1)
    (sRet (eVar 1))))
noncomputable def G_law_cells_of : List D → Sto → Out D := fnD 1 5 raw_law_cells_of
theorem sc_law_cells_of : FnScope ["puzzle", "found", "k", "sign", "members", "name"] ["puzzle"] (defScope (topS 30)) := ⟨rfl, rfl, rfl, by decide +kernel, rfl, by decide +kernel, by decide +kernel⟩
/-! _law_held(puzzle, guess): puzzle 0, guess 1, found 2, k 3, sign 4, members 5, name 6 -/
noncomputable def cp_law_held_1 : DEnv → Sto → Out D :=
    (eComp (iSeq (eVar 5)) (.nm 6) cYes (eBin opIx (eVar 1) (eVar 6)) [6])
noncomputable def lp_law_held_1 : DEnv → Sto → Res :=
    (sSeq (sPat (.tp [(.nm 4), (.nm 5)]) (eBin opIx (eBin opIx (eVar 0) (eC (.int 1))) (eVar 3)))
    (sIf (cClean (cB (eBin opIn (eVar 4) cp_law_held_1)))
    (sExpr (eMeth mAppend (eVar 2) (aCons (eVar 3) aNil)))
    sNil))
noncomputable def raw_law_held : DEnv → Sto → Res :=
    (sSeq (sSet 2 (eLst aNil))
    (sSeq (sFor (iRg1 (eCall (f1 opLen) (aCons (eBin opIx (eVar 0) (eC (.int 1))) aNil))) (.nm 3)
    lp_law_held_1)
    (sRet (eCall (f1 opTuple) (aCons (eVar 2) aNil)))))
noncomputable def G_law_held : List D → Sto → Out D := fnD 2 5 raw_law_held
theorem sc_law_held : FnScope ["puzzle", "guess", "found", "k", "sign", "members", "name"] ["puzzle", "guess"] (defScope (topS 31)) := ⟨rfl, rfl, rfl, by decide +kernel, rfl, by decide +kernel, by decide +kernel⟩
/-! _law_first_rows(cells, guess): cells 0, guess 1, found 2, last 3, row 4, number 5, sign 6, name 7 -/
noncomputable def lp_law_first_rows_1 : DEnv → Sto → Res :=
    (sSeq (sPat (.tp [(.nm 5), (.nm 6), (.nm 7)]) (eBin opIx (eVar 0) (eVar 4)))
    (sIf (cAnd (cB (eBin opNe (eVar 5) (eVar 3))) (cB (eBin opEq (eBin opIx (eVar 1) (eVar 7)) (eVar 6))))
    (sSeq (sExpr (eMeth mAppend (eVar 2) (aCons (eVar 4) aNil)))
    (sSet 3 (eVar 5)))
    sNil))
noncomputable def raw_law_first_rows : DEnv → Sto → Res :=
    (sSeq (sSet 2 (eLst aNil))
    (sSeq (sSet 3 (eUn opNeg (eC (.int 1))))
    (sSeq (sFor (iRg1 (eCall (f1 opLen) (aCons (eVar 0) aNil))) (.nm 4)
    lp_law_first_rows_1)
    (sRet (eCall (f1 opTuple) (aCons (eVar 2) aNil))))))
noncomputable def G_law_first_rows : List D → Sto → Out D := fnD 2 6 raw_law_first_rows
theorem sc_law_first_rows : FnScope ["cells", "guess", "found", "last", "row", "number", "sign", "name"] ["cells", "guess"] (defScope (topS 32)) := ⟨rfl, rfl, rfl, by decide +kernel, rfl, by decide +kernel, by decide +kernel⟩
/-! _law_told_signs(names, cells, chosen): names 0, cells 1, chosen 2, signs 3, row 4 -/
noncomputable def lp_law_told_signs_1 : DEnv → Sto → Res :=
    (sSub (eVar 3) (eBin opIx (eBin opIx (eVar 1) (eVar 4)) (eC (.int 2))) (eBin opIx (eBin opIx (eVar 1) (eVar 4)) (eC (.int 1))))
noncomputable def raw_law_told_signs : DEnv → Sto → Res :=
    (sSeq (sSet 3 (eClean (eBin opMul (eLst (aCons (eC (.int 0)) aNil)) (eVar 0))))
    (sSeq (sFor (iSeq (eVar 2)) (.nm 4)
    lp_law_told_signs_1)
    (sRet (eCall (f1 opTuple) (aCons (eVar 3) aNil)))))
noncomputable def G_law_told_signs : List D → Sto → Out D := fnD 3 2 raw_law_told_signs
theorem sc_law_told_signs : FnScope ["names", "cells", "chosen", "signs", "row"] ["names", "cells", "chosen"] (defScope (topS 33)) := ⟨rfl, rfl, rfl, by decide +kernel, rfl, by decide +kernel, by decide +kernel⟩
/-! _law_most(puzzle): puzzle 0, names 1, masks 2, number 3, best 4, most 5, many 6, sign 7, members 8, name 9, mask 10 -/
noncomputable def cp_law_most_2 : DEnv → Sto → Out D :=
    (eComp (iSeq (eVar 8)) (.nm 9) cYes (eBin opSub (eBin opSub (eVar 1) (eC (.int 1))) (eVar 9)) [9])
noncomputable def cp_law_most_1 : DEnv → Sto → Out D :=
    (eComp (iSeq (eBin opIx (eVar 0) (eC (.int 1)))) (.tp [(.nm 7), (.nm 8)]) cYes (eTup (aCons (eVar 7) (aCons (eClean (eFn 1 G_law_mask (aCons cp_law_most_2 aNil))) aNil))) [7, 8])
noncomputable def cp_law_most_3 : DEnv → Sto → Out D :=
    (eComp (iSeq (eVar 2)) (.tp [(.nm 7), (.nm 10)]) cYes (eIf (cB (eBin opEq (eVar 7) (eC (.int 1)))) (eCall (f1 opInt) (aCons (eBin opGt (eBin opAnd (eVar 10) (eVar 3)) (eC (.int 0))) aNil)) (eCall (f1 opInt) (aCons (eBin opNe (eBin opAnd (eVar 10) (eVar 3)) (eVar 10)) aNil))) [7, 10])
noncomputable def lp_law_most_1 : DEnv → Sto → Res :=
    (sSeq (sSet 6 (eClean (eCall (f1 opSum) (aCons cp_law_most_3 aNil))))
    (sIf (cB (eBin opGt (eVar 6) (eVar 5)))
    (sPat (.tp [(.nm 4), (.nm 5)]) (eTup (aCons (eVar 3) (aCons (eVar 6) aNil))))
    sNil))
noncomputable def cp_law_most_4 : DEnv → Sto → Out D :=
    (eComp (iRg1 (eVar 1)) (.nm 9) cYes (eBin opAnd (eBin opShr (eVar 4) (eBin opSub (eBin opSub (eVar 1) (eC (.int 1))) (eVar 9))) (eC (.int 1))) [9])
noncomputable def raw_law_most : DEnv → Sto → Res :=
    (sSeq (sSet 1 (eBin opIx (eVar 0) (eC (.int 0))))
    (sSeq (sSet 2 cp_law_most_1)
    (sSeq (sPat (.tp [(.nm 4), (.nm 5)]) (eTup (aCons (eC (.int 0)) (aCons (eUn opNeg (eC (.int 1))) aNil))))
    (sSeq (sFor (iRg1 (eBin opShl (eC (.int 1)) (eVar 1))) (.nm 3)
    lp_law_most_1)
    (sRet (eTup (aCons (eVar 5) (aCons (eClean (eCall (f1 opTuple) (aCons cp_law_most_4 aNil))) aNil))))))))
noncomputable def G_law_most : List D → Sto → Out D := fnD 1 10 raw_law_most
theorem sc_law_most : FnScope ["puzzle", "names", "masks", "number", "best", "most", "many", "sign", "members", "name", "mask"] ["puzzle"] (defScope (topS 34)) := ⟨rfl, rfl, rfl, by decide +kernel, rfl, by decide +kernel, by decide +kernel⟩
theorem sc_law_told : FnScope ["thing", "due"] ["thing", "due"] (defScope (topS 35)) := ⟨rfl, rfl, rfl, by decide +kernel, rfl, by decide +kernel, by decide +kernel⟩
/-! _law_asked(puzzle, guess): puzzle 0, guess 1, cells 2, one 3 -/
noncomputable def cp_law_asked_1 : DEnv → Sto → Out D :=
    (eComp (iSeq (eVar 2)) (.nm 3) cYes (eTup (aCons (eC (.int 0)) (aCons (eC (.int 0)) (aCons (eC (.int 1)) (aCons (eVar 3) aNil))))) [3])
noncomputable def raw_law_asked : DEnv → Sto → Res :=
    (sSeq (sSet 2 (eFn 1 G_law_cells_of (aCons (eVar 0) aNil)))
    (sSeq (sIf (cNot (cTru (eFn 2 G_law_told (aCons (eFn 1 G_sayings_table (aCons (eVar 0) aNil)) (aCons (eClean (eCall (f1 opTuple) (aCons cp_law_asked_1 aNil))) aNil)))))
    (sRet (eC (.bl false)))
    sNil)
    (sSeq (sIf (cNot (cTru (eFn 2 G_law_told (aCons (eFn 2 G_holding (aCons (eVar 0) (aCons (eVar 1) aNil))) (aCons (eFn 2 G_law_held (aCons (eVar 0) (aCons (eVar 1) aNil))) aNil)))))
    (sRet (eC (.bl false)))
    sNil)
    (sSeq (sIf (cNot (cTru (eFn 2 G_law_told (aCons (eFn 2 G_rows_of_answer (aCons (eVar 0) (aCons (eVar 1) aNil))) (aCons (eFn 2 G_law_first_rows (aCons (eVar 2) (aCons (eVar 1) aNil))) aNil)))))
    (sRet (eC (.bl false)))
    sNil)
    (sRet (eFn 2 G_law_told (aCons (eFn 1 G_best_answer (aCons (eVar 0) aNil)) (aCons (eFn 1 G_law_most (aCons (eVar 0) aNil)) aNil))))))))
noncomputable def G_law_asked : List D → Sto → Out D := fnD 2 2 raw_law_asked
theorem sc_law_asked : FnScope ["puzzle", "guess", "cells", "one"] ["puzzle", "guess"] (defScope (topS 36)) := ⟨rfl, rfl, rfl, by decide +kernel, rfl, by decide +kernel, by decide +kernel⟩
/-! _law_some_peace(d, near): d 0, near 1, kept 2, row 3 -/
noncomputable def lp_law_some_peace_1 : DEnv → Sto → Res :=
    (sIf (cB (eBin opEq (eBin opAnd (eBin opIx (eVar 1) (eVar 3)) (eVar 2)) (eC (.int 0))))
    (sSet 2 (eBin opOr (eVar 2) (eBin opShl (eC (.int 1)) (eVar 3))))
    sNil)
noncomputable def raw_law_some_peace : DEnv → Sto → Res :=
    (sSeq (sSet 2 (eC (.int 0)))
    (sSeq (sFor (iSeq (eClean (eFn 3 G_law_some (aCons (eVar 0) (aCons (eLrg false (eCall (f1 opLen) (aCons (eVar 1) aNil))) (aCons (eFn 2 G_law_draw (aCons (eVar 0) (aCons (eBin opAdd (eCall (f1 opLen) (aCons (eVar 1) aNil)) (eC (.int 1))) aNil))) aNil)))))) (.nm 3)
    lp_law_some_peace_1)
    (sRet (eVar 2))))
noncomputable def G_law_some_peace : List D → Sto → Out D := fnD 2 2 raw_law_some_peace
theorem sc_law_some_peace : FnScope ["d", "near", "kept", "row"] ["d", "near"] (defScope (topS 37)) := ⟨rfl, rfl, rfl, by decide +kernel, rfl, by decide +kernel, by decide +kernel⟩
/-! _law_told_by_rows(puzzle, near, kept): puzzle 0, near 1, kept 2, chosen 3, signs 4 -/
noncomputable def raw_law_told_by_rows : DEnv → Sto → Res :=
    (sSeq (sSet 3 (eFn 1 G_law_rows_of (aCons (eVar 2) aNil)))
    (sSeq (sSet 4 (eFn 2 G_answer_of_rows (aCons (eVar 0) (aCons (eVar 3) aNil))))
    (sSeq (sIf (cNot (cTru (eFn 2 G_law_told (aCons (eVar 4) (aCons (eClean (eFn 3 G_law_told_signs (aCons (eBin opIx (eVar 0) (eC (.int 0))) (aCons (eFn 1 G_law_cells_of (aCons (eVar 0) aNil)) (aCons (eVar 3) aNil))))) aNil)))))
    (sRet (eC (.bl false)))
    sNil)
    (sRet (eAnd (eFn 2 G_law_calm (aCons (eVar 1) (aCons (eVar 2) aNil))) (eBin opGe (eCall (f1 opLen) (aCons (eFn 2 G_law_held (aCons (eVar 0) (aCons (eVar 4) aNil))) aNil)) (eCall (f1 opLen) (aCons (eVar 3) aNil))))))))
noncomputable def G_law_told_by_rows : List D → Sto → Out D := fnD 3 2 raw_law_told_by_rows
theorem sc_law_told_by_rows : FnScope ["puzzle", "near", "kept", "chosen", "signs"] ["puzzle", "near", "kept"] (defScope (topS 38)) := ⟨rfl, rfl, rfl, by decide +kernel, rfl, by decide +kernel, by decide +kernel⟩
/-! law(script): script 0, d 1, puzzle 2, guess 3, near 4, one 5, k 6, other 7, most 8, signs 9, chosen 10 -/
noncomputable def cp_law_1 : DEnv → Sto → Out D :=
    (eComp (iRg1 (eBin opIx (eVar 2) (eC (.int 0)))) (.nm 6) cYes (eFn 2 G_law_draw (aCons (eVar 1) (aCons (eC (.int 2)) aNil))) [6])
noncomputable def lp_law_1 : DEnv → Sto → Res :=
    (sSeq (sSet 10 (eFn 2 G_rows_of_answer (aCons (eVar 2) (aCons (eVar 5) aNil))))
    (sSeq (sIf (cNot (cTru (eFn 2 G_law_told (aCons (eVar 10) (aCons (eClean (eFn 2 G_law_first_rows (aCons (eFn 1 G_law_cells_of (aCons (eVar 2) aNil)) (aCons (eVar 5) aNil)))) aNil)))))
    (sRet (eC (.bl false)))
    sNil)
    (sIf (cOr (cB (eBin opNe (eCall (f1 opLen) (aCons (eVar 10) aNil)) (eCall (f1 opLen) (aCons (eFn 2 G_law_held (aCons (eVar 2) (aCons (eVar 5) aNil))) aNil)))) (cNot (cTru (eFn 3 G_law_told_by_rows (aCons (eVar 2) (aCons (eVar 4) (aCons (eFn 1 G_law_mask (aCons (eVar 10) aNil)) aNil)))))))
    (sRet (eC (.bl false)))
    sNil)))
noncomputable def lp_law_2 : DEnv → Sto → Res :=
    (sIf (cNot (cTru (eFn 3 G_law_told_by_rows (aCons (eVar 2) (aCons (eVar 4) (aCons (eFn 2 G_law_some_peace (aCons (eVar 1) (aCons (eVar 4) aNil))) aNil))))))
    (sRet (eC (.bl false)))
    sNil)
noncomputable def cp_law_2 : DEnv → Sto → Out D :=
    (eComp (iRg1 (eBin opIx (eVar 7) (eC (.int 0)))) (.nm 6) cYes (eFn 2 G_law_draw (aCons (eVar 1) (aCons (eC (.int 2)) aNil))) [6])
noncomputable def raw_law : DEnv → Sto → Res :=
    (sSeq (sSet 1 (eFn 1 G_law_begin (aCons (eVar 0) aNil)))
    (sSeq (sSet 2 (eFn 1 G_law_drawn_puzzle (aCons (eVar 1) aNil)))
    (sSeq (sSet 3 (eClean (eCall (f1 opTuple) (aCons cp_law_1 aNil))))
    (sSeq (sIf (cNot (cTru (eFn 2 G_law_asked (aCons (eVar 2) (aCons (eVar 3) aNil)))))
    (sRet (eC (.bl false)))
    sNil)
    (sSeq (sSet 4 (eFn 2 G_law_web (aCons (eTup (aCons (eC (.int 3)) (aCons (eTup (aCons (eTup (aCons (eC (.int 3)) (aCons (eC (.int 4)) aNil))) (aCons (eTup (aCons (eC (.int 4)) (aCons (eC (.int 2)) aNil))) aNil))) aNil))) (aCons (eFn 1 G_sayings_table (aCons (eVar 2) aNil)) aNil))))
    (sSeq (sPat (.tp [(.nm 8), (.nm 9)]) (eFn 1 G_law_most (aCons (eVar 2) aNil)))
    (sSeq (sFor (iSeq (eLst (aCons (eVar 3) (aCons (eVar 9) aNil)))) (.nm 5)
    lp_law_1)
    (sSeq (sFor (iRg1 (eC (.int 2))) (.nm 6)
    lp_law_2)
    (sSeq (sIf (cAnd (cB (eBin opLt (eCall (f1 opLen) (aCons (eVar 4) aNil)) (eC (.int 10)))) (cB (eBin opNe (eClean (eFn 2 G_law_best (aCons (eVar 4) (aCons (eClean (eBin opMul (eLst (aCons (eC (.int 1)) aNil)) (eCall (f1 opLen) (aCons (eVar 4) aNil)))) aNil)))) (eVar 8))))
    (sRet (eC (.bl false)))
    sNil)
    (sSeq (sSet 7 (eFn 2 G_law_other (aCons (eVar 1) (aCons (eVar 2) aNil))))
    (sSeq (sIf (cNot (cTru (eFn 2 G_law_asked (aCons (eVar 7) (aCons (eClean (eCall (f1 opTuple) (aCons cp_law_2 aNil))) aNil)))))
    (sRet (eC (.bl false)))
    sNil)
    (sRet (eAnd (eFn 3 G_law_told_by_rows (aCons (eVar 2) (aCons (eVar 4) (aCons (eC (.int 0)) aNil)))) (eFn 2 G_law_asked (aCons (eVar 2) (aCons (eVar 3) aNil))))))))))))))))
noncomputable def G_law : List D → Sto → Out D := fnD 1 10 raw_law
theorem sc_law : FnScope ["script", "d", "puzzle", "guess", "near", "one", "k", "other", "most", "signs", "chosen"] ["script"] (defScope (topS 39)) := ⟨rfl, rfl, rfl, by decide +kernel, rfl, by decide +kernel, by decide +kernel⟩
structure Txt (K : PySem.W.Frag) (mg : Str → Option Value) : Prop where
  d_plain_table : IsDef K mg "plain_table" (topS 1) ["cells_list"]
  d_sayings_table : IsDef K mg "sayings_table" (topS 3) ["puzzle"]
  d_holding : IsDef K mg "holding" (topS 4) ["puzzle", "answer"]
  d_rows_of_answer : IsDef K mg "rows_of_answer" (topS 5) ["puzzle", "answer"]
  d_answer_of_rows : IsDef K mg "answer_of_rows" (topS 6) ["puzzle", "chosen"]
  d_answers_of : IsDef K mg "answers_of" (topS 7) ["names"]
  d_best_answer : IsDef K mg "best_answer" (topS 8) ["puzzle"]
  d_law_begin : IsDef K mg "_law_begin" (topS 10) ["script"]
  d_law_draw : IsDef K mg "_law_draw" (topS 11) ["d", "many"]
  d_law_pick : IsDef K mg "_law_pick" (topS 12) ["d", "row"]
  d_law_shuffled : IsDef K mg "_law_shuffled" (topS 13) ["d", "row"]
  d_law_some : IsDef K mg "_law_some" (topS 14) ["d", "row", "many"]
  d_law_is_int : IsDef K mg "_law_is_int" (topS 15) ["thing"]
  d_law_plain : IsDef K mg "_law_plain" (topS 16) ["thing"]
  d_law_bits : IsDef K mg "_law_bits" (topS 17) ["mask"]
  d_law_mask : IsDef K mg "_law_mask" (topS 18) ["numbers"]
  d_law_within : IsDef K mg "_law_within" (topS 19) ["inner", "outer"]
  d_law_agree : IsDef K mg "_law_agree" (topS 20) ["one", "other"]
  d_law_clash : IsDef K mg "_law_clash" (topS 21) ["book", "one", "other"]
  d_law_web : IsDef K mg "_law_web" (topS 22) ["book", "rows"]
  d_law_calm : IsDef K mg "_law_calm" (topS 23) ["near", "mask"]
  d_law_peaces : IsDef K mg "_law_peaces" (topS 24) ["near"]
  d_law_weigh : IsDef K mg "_law_weigh" (topS 25) ["worths", "mask"]
  d_law_best : IsDef K mg "_law_best" (topS 26) ["near", "worths"]
  d_law_rows_of : IsDef K mg "_law_rows_of" (topS 27) ["mask"]
  d_law_drawn_puzzle : IsDef K mg "_law_drawn_puzzle" (topS 28) ["d"]
  d_law_other : IsDef K mg "_law_other" (topS 29) ["d", "puzzle"]
  d_law_cells_of : IsDef K mg "_law_cells_of" (topS 30) ["puzzle"]
  d_law_held : IsDef K mg "_law_held" (topS 31) ["puzzle", "guess"]
  d_law_first_rows : IsDef K mg "_law_first_rows" (topS 32) ["cells", "guess"]
  d_law_told_signs : IsDef K mg "_law_told_signs" (topS 33) ["names", "cells", "chosen"]
  d_law_most : IsDef K mg "_law_most" (topS 34) ["puzzle"]
  d_law_told : IsDef K mg "_law_told" (topS 35) ["thing", "due"]
  d_law_asked : IsDef K mg "_law_asked" (topS 36) ["puzzle", "guess"]
  d_law_some_peace : IsDef K mg "_law_some_peace" (topS 37) ["d", "near"]
  d_law_told_by_rows : IsDef K mg "_law_told_by_rows" (topS 38) ["puzzle", "near", "kept"]
  d_law : IsDef K mg "law" (topS 39) ["script"]
  b_abs : mg "abs" = none
  b_any : mg "any" = none
  b_bool : mg "bool" = none
  b_enumerate : mg "enumerate" = none
  b_int : mg "int" = none
  b_isinstance : mg "isinstance" = none
  b_len : mg "len" = none
  b_list : mg "list" = none
  b_max : mg "max" = none
  b_min : mg "min" = none
  b_range : mg "range" = none
  b_sorted : mg "sorted" = none
  b_str : mg "str" = none
  b_sum : mg "sum" = none
  b_tuple : mg "tuple" = none
end K66

/-! k66: what the program's and the law's defs tell. -/
namespace K66
open PySem PySem.Spec PyProof.Rows L2 DL LA
/-- sign, members -/
abbrev Say := Nat × List Nat
/-- number, sign, name -/
abbrev Cell := Nat × Nat × Nat
def sayD (x : Say) : D := .tup [.int (x.1 : Int), .tup (dNs x.2)]
def pzD (n : Nat) (ss : List Say) : D := .tup [.int (n : Int), .tup (ss.map sayD)]
def cellD (c : Cell) : D := .tup [.int (c.1 : Int), .int (c.2.1 : Int), .int (c.2.2 : Int)]
def rowD (c : Cell) : D := .tup [.int 0, .int 0, .int 1, cellD c]
structure PzOk (n : Nat) (ss : List Say) : Prop where
  n1 : 1 ≤ n
  n8 : n ≤ 8
  len : ss.length ≤ 12
  sg : ∀ x ∈ ss, x.1 < 2
  ne : ∀ x ∈ ss, x.2 ≠ []
  nd : ∀ x ∈ ss, x.2.Nodup
  lt : ∀ x ∈ ss, ∀ i ∈ x.2, i < n
  w5 : ∀ x ∈ ss, x.2.length ≤ 5
def cellsP (x : Say × Nat) : List Cell := x.1.2.map fun nm => (x.2, x.1.1, nm)
def cellsOf (ss : List Say) : List Cell := ss.zipIdx.flatMap cellsP
theorem flat_len {l : List (Say × Nat)} (h : ∀ x ∈ l, x.1.2.length ≤ 5) : (l.flatMap cellsP).length ≤ 5 * l.length := by
  induction l with
  | nil => simp
  | cons x l ih =>
    rw [List.flatMap_cons, List.length_append, List.length_cons]
    have h1 := h x List.mem_cons_self
    have h2 := ih fun y hy => h y (List.mem_cons_of_mem _ hy)
    have h3 : (cellsP x).length = x.1.2.length := by simp [cellsP]
    omega
theorem zip_mem {α : Type} {l : List α} {x : α × Nat} {k : Nat} (h : x ∈ l.zipIdx k) : x.1 ∈ l := by
  obtain ⟨a, i⟩ := x
  exact (List.mem_zipIdx h).2.2 ▸ List.getElem_mem _
theorem zip_get {α : Type} {l : List α} {x : α × Nat} (h : x ∈ l.zipIdx) : l[x.2]? = some x.1 := by
  obtain ⟨a, i⟩ := x
  obtain ⟨h1, h2, h3⟩ := List.mem_zipIdx h
  simp at h2 h3
  simp [h2, h3]
theorem zip_done {α : Type} {l : List α} {done rest : List (α × Nat)} {a : α × Nat} (h : l.zipIdx = done ++ a :: rest) : done.length < l.length ∧ a ∈ l.zipIdx ∧ a.2 = done.length := by
  have e := congrArg List.length h
  simp at e
  refine ⟨by omega, by rw [h]; simp, ?_⟩
  have e2 : l.zipIdx[done.length]? = some a := by rw [h]; simp
  rw [List.getElem?_zipIdx] at e2
  simp at e2
  obtain ⟨x, _, rfl⟩ := e2
  rfl
section
variable {m : List MO} {g : Option Rng} {n : Nat} {ss : List Say}
@[simp] theorem tryCell {c : Cell} : cellD c = .tup [.int (c.1 : Int), .int (c.2.1 : Int), .int (c.2.2 : Int)] := rfl
theorem plain_table_eq {j : Nat} {cs : List Cell} (hj : nget m j = some (.lst (cs.map cellD))) (hl : cs.length < 1000000) : G_plain_table [.obj j] ⟨m, g⟩ = .ok (.tup (cs.map rowD)) ⟨m, g⟩ := fnD_ok (ex := []) rfl (by
  show endOf (raw_plain_table [some (.obj j), none] ⟨m, g⟩) = _
  unfold raw_plain_table
  have hlt := nget_lt hj
  have e : cp_plain_table_1 [some (.obj j), none] ⟨m, g⟩ = .ok (.obj m.length) ⟨.lst (cs.map rowD) :: m, g⟩ := by
    unfold cp_plain_table_1
    refine eComp_all (src := ⟨cs.map cellD, some (j, .lst (cs.map cellD))⟩) cellD rowD cs (by simp [hj]) rfl (fun _ => by simp [Nat.ne_of_lt hlt, hj]) (fun c _ => ⟨_, pm_nm, fun acc => by simp [rowD]⟩) (by simp; omega)
  simp [e, hl]
  rw [clean_1 (by simpa using dlts_map fun c _ => by simp [rowD])]
  simp) (by simpa using dlts_map fun c _ => by simp [rowD])
theorem done_mem {done rest : List (Say × Nat)} {a : Say × Nat} (h : ss.zipIdx = done ++ a :: rest) : ∀ x ∈ done, x.1 ∈ ss := fun x hx => zip_mem (k := 0) (by rw [h]; simp [hx])
theorem cells_small (ok : PzOk n ss) : (cellsOf ss).length ≤ 60 := by
  have h := flat_len (l := ss.zipIdx) fun x hx => ok.w5 _ (zip_mem hx)
  have := ok.len
  rw [List.length_zipIdx] at h
  unfold cellsOf; omega
theorem done_small (ok : PzOk n ss) {done rest : List (Say × Nat)} {a : Say × Nat} (h : ss.zipIdx = done ++ a :: rest) : (done.flatMap cellsP).length ≤ 55 := by
  have h1 := flat_len (l := done) fun x hx => ok.w5 _ (done_mem h x hx)
  have h2 := zip_done h
  have := ok.len
  omega
theorem cp_sayings {o0 : Option D} {j : Nat} {x : Say × Nat} (hx : x.1.2.length ≤ 1000) : cp_sayings_table_1 [o0, some (.obj j), some (.int (x.2 : Int)), some (.int (x.1.1 : Int)), some (.tup (dNs x.1.2)), none] ⟨m, g⟩ = .ok (.obj m.length) ⟨.lst ((cellsP x).map cellD) :: m, g⟩ := by
  unfold cp_sayings_table_1
  refine (eComp_all (src := ⟨dNs x.1.2, none⟩) (fun i : Nat => .int (i : Int)) (fun nm => cellD (x.2, x.1.1, nm)) x.1.2 (m := m) (g := g) (by simp) rfl (fun _ => okN) (fun c _ => ⟨_, pm_nm, fun acc => by simp⟩) (by simp; omega)).trans ?_
  simp [cellsP]
theorem dlts_cells {k : Nat} {l : List Cell} : dlts k (l.map cellD) = true := dlts_map fun _ _ => by simp
theorem sayings_table_eq (ok : PzOk n ss) : G_sayings_table [pzD n ss] ⟨m, g⟩ = .ok (.tup ((cellsOf ss).map rowD)) ⟨m, g⟩ := fnD_ok (ex := [.lst ((cellsOf ss).map cellD)]) rfl (by
  show endOf (raw_sayings_table [some (pzD n ss), none, none, none, none, none] ⟨m, g⟩) = _
  unfold raw_sayings_table
  simp [pzD, enumD_map]
  refine forL_endI (l := ss.zipIdx) (fun x => .tup [.int (x.2 : Nat), sayD x.1]) (fun done δ s => s = ⟨.lst ((done.flatMap cellsP).map cellD) :: m, g⟩ ∧ ∃ o1 o2 o3, δ = [some (pzD n ss), some (.obj m.length), o1, o2, o3, none]) rfl ⟨rfl, _, _, _, rfl⟩ (fun b δ s h => okN) (fun done a rest δ s hl' h => ?_) (fun δ s h => ?_)
  · obtain ⟨rfl, o1, o2, o3, rfl⟩ := h
    have h1 := done_small ok hl'
    have h2 := zip_done hl'
    have hw := ok.w5 a.1 (zip_mem h2.2.1)
    have hc : (cellsP a).length = a.1.2.length := by simp [cellsP]
    refine ⟨[(2, .int (a.2 : Int)), (3, .int (a.1.1 : Int)), (4, .tup (dNs a.1.2))], by simp [sayD], [some (pzD n ss), some (.obj m.length), some (.int (a.2 : Int)), some (.int (a.1.1 : Int)), some (.tup (dNs a.1.2)), none], _, .inl ?_, rfl, _, _, _, rfl⟩
    rw [List.flatMap_append]
    generalize done.flatMap cellsP = z at *
    have e := cp_sayings (m := .lst (z.map cellD) :: m) (g := g) (o0 := some (pzD n ss)) (j := m.length) (x := a) (by omega)
    have h3 : z.length + (cellsP a).length < 1000000 := by omega
    have h4 := dlts_cells (k := m.length + 1) (l := z)
    have h5 := dlts_cells (k := m.length + 1) (l := cellsP a)
    simp [lp_sayings_table_1, e, h3, h4, h5, -tryCell]
  · obtain ⟨rfl, o1, o2, o3, rfl⟩ := h
    have e := plain_table_eq (m := .lst ((cellsOf ss).map cellD) :: m) (g := g) (j := m.length) (cs := cellsOf ss) (by simp) (by have := cells_small ok; omega)
    rw [show ss.zipIdx.flatMap cellsP = cellsOf ss from rfl]
    simp [e, -tryCell]) (by simpa using dlts_map fun c _ => by simp [rowD])
theorem law_cells_eq (ok : PzOk n ss) : G_law_cells_of [pzD n ss] ⟨m, g⟩ = .ok (.obj m.length) ⟨.lst ((cellsOf ss).map cellD) :: m, g⟩ := by
  refine fnD_one (ex := [.lst ((cellsOf ss).map cellD)]) rfl ?_ (Nat.le_refl _) (by simp) dlts_cells
  show endOf (raw_law_cells_of [some (pzD n ss), none, none, none, none, none] ⟨m, g⟩) = _
  unfold raw_law_cells_of
  have hl := ok.len
  have h4 : (ss.length : Int) < 4611686018427387904 := by omega
  have h5 : -4611686018427387904 ≤ (ss.length : Int) := by omega
  simp [pzD, h4, h5]
  have er : rgD ss.length = ss.zipIdx.map fun x => .int (x.2 : Int) := by
    rw [rgD_nat, show List.range ss.length = ss.zipIdx.map (·.2) by simp [List.range_eq_range'], List.map_map]; rfl
  rw [er]
  refine forL_endI (l := ss.zipIdx) (fun x => .int (x.2 : Int)) (fun done δ s => s = ⟨.lst ((done.flatMap cellsP).map cellD) :: m, g⟩ ∧ ∃ o1 o2 o3, δ = [some (pzD n ss), some (.obj m.length), o1, o2, o3, none]) rfl ⟨rfl, _, _, _, rfl⟩ (fun b δ s h => okN) (fun done a rest δ s hl' h => ?_) (fun δ s h => ?_)
  · obtain ⟨rfl, o1, o2, o3, rfl⟩ := h
    have h1 := done_small ok hl'
    have h2 := zip_done hl'
    have hw := ok.w5 a.1 (zip_mem h2.2.1)
    have hc : (cellsP a).length = a.1.2.length := by simp [cellsP]
    have hg := zip_get h2.2.1
    refine ⟨_, pm_nm, [some (pzD n ss), some (.obj m.length), some (.int (a.2 : Int)), some (.int (a.1.1 : Int)), some (.tup (dNs a.1.2)), none], _, .inl ?_, rfl, _, _, _, rfl⟩
    rw [List.flatMap_append]
    generalize done.flatMap cellsP = z at *
    have e := cp_sayings (m := .lst (z.map cellD) :: m) (g := g) (o0 := some (pzD n ss)) (j := m.length) (x := a) (by omega)
    have e : cp_law_cells_of_1 _ _ = _ := e
    have h3 : z.length + (cellsP a).length < 1000000 := by omega
    have h4 := dlts_cells (k := m.length + 1) (l := z)
    have h5 := dlts_cells (k := m.length + 1) (l := cellsP a)
    simp only [pzD] at e
    simp [lp_law_cells_of_1, pzD, hg, sayD, e, h3, h4, h5, -tryCell]
  · obtain ⟨rfl, o1, o2, o3, rfl⟩ := h
    rw [show ss.zipIdx.flatMap cellsP = cellsOf ss from rfl]
    simp
/-! ### the sayings that hold -/
def holds (x : Say) (a : List Nat) : Bool := x.2.any fun nm => a.getD nm 0 == x.1
def heldP (a : List Nat) (l : List (Say × Nat)) : List Nat := (l.filter fun x => holds x.1 a).map (·.2)
def heldOf (ss : List Say) (a : List Nat) : List Nat := heldP a ss.zipIdx
theorem heldP_app {a : List Nat} {l r : List (Say × Nat)} : heldP a (l ++ r) = heldP a l ++ heldP a r := by simp [heldP]
theorem heldP_len {a : List Nat} {l : List (Say × Nat)} : (heldP a l).length ≤ l.length := by
  unfold heldP
  rw [List.length_map]
  exact List.length_filter_le _ _
theorem done_len {done rest : List (Say × Nat)} {a : Say × Nat} (ok : PzOk n ss) (h : ss.zipIdx = done ++ a :: rest) : done.length ≤ 11 := by
  have := zip_done h
  have := ok.len
  omega
theorem cp_hold {a : List Nat} {o0 o2 o3 : Option D} {x : Say} (ha : ∀ i ∈ x.2, i < a.length) (hx : x.2.length ≤ 1000) : cp_holding_1 [o0, some (.tup (dNs a)), o2, o3, some (.int (x.1 : Int)), some (.tup (dNs x.2)), none] ⟨m, g⟩ = .ok (.obj m.length) ⟨.lst (x.2.map fun nm => .bl (a.getD nm 0 == x.1)) :: m, g⟩ := by
  unfold cp_holding_1
  refine eComp_all (src := ⟨dNs x.2, none⟩) (fun i : Nat => .int (i : Int)) (fun nm => .bl (a.getD nm 0 == x.1)) x.2 (m := m) (g := g) (by simp) rfl (fun _ => okN) (fun c hc => ⟨_, pm_nm, fun acc => ?_⟩) (by simp; omega)
  have := ha c hc
  simp [this]
  rw [Bool.eq_iff_iff]
  simp
  omega
theorem holding_eq (ok : PzOk n ss) {a : List Nat} (ha : a.length = n) : G_holding [pzD n ss, .tup (dNs a)] ⟨m, g⟩ = .ok (.tup (dNs (heldOf ss a))) ⟨m, g⟩ := fnD_ok (ex := [.lst (dNs (heldOf ss a))]) rfl (by
  show endOf (raw_holding [some (pzD n ss), some (.tup (dNs a)), none, none, none, none, none] ⟨m, g⟩) = _
  unfold raw_holding
  simp [pzD, enumD_map]
  refine forL_endI (l := ss.zipIdx) (fun x => .tup [.int (x.2 : Nat), sayD x.1]) (fun done δ s => s = ⟨.lst (dNs (heldP a done)) :: m, g⟩ ∧ ∃ o1 o2 o3, δ = [some (pzD n ss), some (.tup (dNs a)), some (.obj m.length), o1, o2, o3, none]) rfl ⟨rfl, _, _, _, rfl⟩ (fun b δ s h => okN) (fun done x rest δ s hl' h => ?_) (fun δ s h => ?_)
  · obtain ⟨rfl, o1, o2, o3, rfl⟩ := h
    have h1 := done_len ok hl'
    have h2 := zip_done hl'
    have hx := zip_mem h2.2.1
    have hw := ok.w5 x.1 hx
    have hh := heldP_len (a := a) (l := done)
    refine ⟨[(3, .int (x.2 : Int)), (4, .int (x.1.1 : Int)), (5, .tup (dNs x.1.2))], by simp [sayD], [some (pzD n ss), some (.tup (dNs a)), some (.obj m.length), some (.int (x.2 : Int)), some (.int (x.1.1 : Int)), some (.tup (dNs x.1.2)), none], _, .inl ?_, rfl, _, _, _, rfl⟩
    rw [heldP_app]
    have e0 : heldP a [x] = if holds x.1 a then [x.2] else [] := by
      unfold heldP; by_cases z : holds x.1 a = true <;> simp [z]
    have e := cp_hold (m := .lst (dNs (heldP a done)) :: m) (g := g) (o0 := some (pzD n ss)) (o2 := some (.obj m.length)) (o3 := some (.int (x.2 : Int))) (a := a) (x := x.1) (fun i hi => by rw [ha]; exact ok.lt x.1 hx i hi) (by omega)
    have e2 : (x.1.2.any fun nm => a.getD nm 0 == x.1.1) = holds x.1 a := rfl
    rw [e0]
    generalize heldP a done = z at *
    have h3 : z.length < 1000000 := by omega
    by_cases z : holds x.1 a = true
    · simp [lp_holding_1, e, trsOf_bls, -List.getD_eq_getElem?_getD, e2, z, h3]
    · simp [lp_holding_1, e, trsOf_bls, -List.getD_eq_getElem?_getD, e2, z, h3]
  · obtain ⟨rfl, o1, o2, o3, rfl⟩ := h
    have h3 : (heldOf ss a).length < 1000000 := by
      have h3 := heldP_len (a := a) (l := ss.zipIdx)
      have := ok.len
      rw [List.length_zipIdx] at h3
      unfold heldOf; omega
    rw [show heldP a ss.zipIdx = heldOf ss a from rfl]
    simp [h3]) (by simp)
theorem range_zip {α : Type} (l : List α) : rgD l.length = l.zipIdx.map fun x => .int (x.2 : Int) := by
  rw [rgD_nat, show List.range l.length = l.zipIdx.map (·.2) by simp [List.range_eq_range'], List.map_map]; rfl
theorem cp_held {a : List Nat} {o0 o2 o3 o4 : Option D} {x : Say} (ha : ∀ i ∈ x.2, i < a.length) (hx : x.2.length ≤ 1000) : cp_law_held_1 [o0, some (.tup (dNs a)), o2, o3, o4, some (.tup (dNs x.2)), none] ⟨m, g⟩ = .ok (.obj m.length) ⟨.lst (x.2.map fun nm => .int (a.getD nm 0 : Nat)) :: m, g⟩ := by
  unfold cp_law_held_1
  refine eComp_all (src := ⟨dNs x.2, none⟩) (fun i : Nat => .int (i : Int)) (fun nm => .int (a.getD nm 0 : Nat)) x.2 (m := m) (g := g) (by simp) rfl (fun _ => okN) (fun c hc => ⟨_, pm_nm, fun acc => ?_⟩) (by simp; omega)
  have := ha c hc
  simp [this]
theorem any_deq {l : List Nat} {f : Nat → Nat} {k : Nat} : ((l.map fun nm => D.int (f nm : Nat)).any fun y => deq y (.int (k : Int))) = l.any fun nm => f nm == k := by
  rw [List.any_map]
  congr 1
  funext nm
  simp [deq]
  rw [Bool.eq_iff_iff]
  simp
  omega
theorem held_eq (ok : PzOk n ss) {a : List Nat} (ha : a.length = n) : G_law_held [pzD n ss, .tup (dNs a)] ⟨m, g⟩ = .ok (.tup (dNs (heldOf ss a))) ⟨m, g⟩ := fnD_ok (ex := [.lst (dNs (heldOf ss a))]) rfl (by
  show endOf (raw_law_held [some (pzD n ss), some (.tup (dNs a)), none, none, none, none, none] ⟨m, g⟩) = _
  unfold raw_law_held
  have hl := ok.len
  have h4 : (ss.length : Int) < 4611686018427387904 := by omega
  have h5 : -4611686018427387904 ≤ (ss.length : Int) := by omega
  simp [pzD, h4, h5]
  rw [range_zip]
  refine forL_endI (l := ss.zipIdx) (fun x => .int (x.2 : Int)) (fun done δ s => s = ⟨.lst (dNs (heldP a done)) :: m, g⟩ ∧ ∃ o1 o2 o3, δ = [some (pzD n ss), some (.tup (dNs a)), some (.obj m.length), o1, o2, o3, none]) rfl ⟨rfl, _, _, _, rfl⟩ (fun b δ s h => okN) (fun done x rest δ s hl' h => ?_) (fun δ s h => ?_)
  · obtain ⟨rfl, o1, o2, o3, rfl⟩ := h
    have h1 := done_len ok hl'
    have h2 := zip_done hl'
    have hx := zip_mem h2.2.1
    have hg := zip_get h2.2.1
    have hw := ok.w5 x.1 hx
    have hh := heldP_len (a := a) (l := done)
    refine ⟨_, pm_nm, [some (pzD n ss), some (.tup (dNs a)), some (.obj m.length), some (.int (x.2 : Int)), some (.int (x.1.1 : Int)), some (.tup (dNs x.1.2)), none], _, .inl ?_, rfl, _, _, _, rfl⟩
    rw [heldP_app]
    have e0 : heldP a [x] = if holds x.1 a then [x.2] else [] := by
      unfold heldP; by_cases z : holds x.1 a = true <;> simp [z]
    have e := cp_held (m := .lst (dNs (heldP a done)) :: m) (g := g) (o0 := some (pzD n ss)) (o2 := some (.obj m.length)) (o3 := some (.int (x.2 : Int))) (o4 := some (.int (x.1.1 : Int))) (a := a) (x := x.1) (fun i hi => by rw [ha]; exact ok.lt x.1 hx i hi) (by omega)
    have e2 : ((x.1.2.map fun nm => D.int (a.getD nm 0 : Nat)).any fun y => deq y (.int (x.1.1 : Int))) = holds x.1 a := any_deq
    have e3 : ((x.1.2.map fun nm => D.int (a.getD nm 0 : Nat)).all flD) = true := by simp [flD]
    rw [e0]
    simp only [pzD] at e ⊢
    generalize heldP a done = z at *
    generalize (x.1.2.map fun nm => D.int (a.getD nm 0 : Nat)) = w at *
    have h3 : z.length < 1000000 := by omega
    by_cases z : holds x.1 a = true
    · simp [lp_law_held_1, e, e2, e3, z, h3, hg, sayD, flD, -List.all_eq_true, -List.any_eq_true]
    · simp [lp_law_held_1, e, e2, e3, z, h3, hg, sayD, flD, -List.all_eq_true, -List.any_eq_true]
  · obtain ⟨rfl, o1, o2, o3, rfl⟩ := h
    have h3 : (heldOf ss a).length < 1000000 := by
      have h3 := heldP_len (a := a) (l := ss.zipIdx)
      have := ok.len
      rw [List.length_zipIdx] at h3
      unfold heldOf; omega
    rw [show heldP a ss.zipIdx = heldOf ss a from rfl]
    simp [h3]) (by simp)
/-! ### the rows of an answer -/
def fitsOf (a : List Nat) (x : Say) (r : Nat) : List Nat := ((x.2.zipIdx r).filter fun y => a.getD y.1 0 == x.1).map (·.2)
def rowsFrom (a : List Nat) : Nat → List Say → List Nat
  | _, [] => []
  | r, x :: t => (fitsOf a x r).head?.toList ++ rowsFrom a (r + x.2.length) t
def rowsOf (ss : List Say) (a : List Nat) : List Nat := rowsFrom a 0 ss
def wid (l : List Say) : Nat := (l.map fun x => x.2.length).sum
theorem wid_app {l r : List Say} : wid (l ++ r) = wid l + wid r := by simp [wid]
theorem rowsFrom_app {a : List Nat} : ∀ {r : Nat} {l k : List Say}, rowsFrom a r (l ++ k) = rowsFrom a r l ++ rowsFrom a (r + wid l) k
  | r, [], k => by simp [rowsFrom, wid]
  | r, x :: l, k => by
    have e : r + x.2.length + wid l = r + wid (x :: l) := by simp [wid]; omega
    rw [List.cons_append, rowsFrom, rowsFrom, rowsFrom_app, List.append_assoc, e]
theorem rowsFrom_len {a : List Nat} : ∀ {r : Nat} {l : List Say}, (rowsFrom a r l).length ≤ l.length
  | r, [] => by simp [rowsFrom]
  | r, x :: l => by
    have := rowsFrom_len (a := a) (r := r + x.2.length) (l := l)
    have h : (fitsOf a x r).head?.toList.length ≤ 1 := by cases (fitsOf a x r).head? <;> simp
    rw [rowsFrom, List.length_append, List.length_cons]
    omega
theorem fits_add {a : List Nat} {x : Say} {r : Nat} : fitsOf a x r = (fitsOf a x 0).map (r + ·) := by
  unfold fitsOf
  rw [List.zipIdx_eq_map_add, List.filter_map, List.map_map, List.map_map]
  congr 1
theorem cp_fits {a : List Nat} {o0 o2 o3 o6 : Option D} {x : Say} (ha : ∀ i ∈ x.2, i < a.length) (hx : x.2.length ≤ 1000) : cp_rows_of_answer_1 [o0, some (.tup (dNs a)), o2, o3, some (.int (x.1 : Int)), some (.tup (dNs x.2)), o6, none, none] ⟨m, g⟩ = .ok (.obj m.length) ⟨.lst (dNs (fitsOf a x 0)) :: m, g⟩ := by
  unfold cp_rows_of_answer_1
  refine (eComp_run (src := ⟨enumD 0 (dNs x.2), none⟩) (fun y : Nat × Nat => .tup [.int (y.2 : Nat), .int (y.1 : Int)]) (fun y => a.getD y.1 0 == x.1) (fun y => .int (y.2 : Int)) x.2.zipIdx (m := m) (g := g) (by simp) (by unfold dNs; exact enumD_map _ 0 _) (fun _ => okN) (fun c hc => ⟨[(7, .int (c.2 : Nat)), (8, .int (c.1 : Int))], by simp, fun acc => ⟨?_, fun _ => ?_⟩⟩) (by simp; omega)).trans ?_
  · have := ha c.1 (zip_mem hc)
    simp [this]
    rw [Bool.eq_iff_iff]
    simp
    omega
  · simp
  · simp [fitsOf, dNs, -List.getD_eq_getElem?_getD]
theorem rows_of_answer_eq (ok : PzOk n ss) {a : List Nat} (ha : a.length = n) : G_rows_of_answer [pzD n ss, .tup (dNs a)] ⟨m, g⟩ = .ok (.tup (dNs (rowsOf ss a))) ⟨m, g⟩ := by
  have fin : ∃ ex, endOf (raw_rows_of_answer [some (pzD n ss), some (.tup (dNs a)), none, none, none, none, none, none, none] ⟨m, g⟩) = .ok (.tup (dNs (rowsOf ss a))) ⟨ex ++ m, g⟩ := by
    unfold raw_rows_of_answer
    simp [pzD]
    obtain ⟨δ', s', e1, ex, rfl, o1, o2, o3, rfl⟩ := forL_I (src := ⟨ss.map sayD, none⟩) (p := .tp [.nm 4, .nm 5]) (body := lp_rows_of_answer_1) (l := ss) (δ := [some (pzD n ss), some (.tup (dNs a)), some (.obj m.length), some (.int 0), none, none, none, none, none]) (s := ⟨.lst [] :: m, g⟩) sayD
      (fun done δ s => ∃ ex, s = ⟨ex ++ .lst (dNs (rowsFrom a 0 done)) :: m, g⟩ ∧ ∃ o1 o2 o3, δ = [some (pzD n ss), some (.tup (dNs a)), some (.obj m.length), some (.int (wid done : Int)), o1, o2, o3, none, none]) ⟨[], rfl, _, _, _, rfl⟩ (fun b δ s h => okN) (fun done x rest δ s hl' h => by
        obtain ⟨ex, rfl, o1, o2, o3, rfl⟩ := h
        have hx : x ∈ ss := by rw [hl']; simp
        have hw := ok.w5 x hx
        have hh := rowsFrom_len (a := a) (r := 0) (l := done)
        have hd : done.length ≤ 12 := by have := ok.len; rw [hl'] at this; simp at this; omega
        have e0 : rowsFrom a 0 (done ++ [x]) = rowsFrom a 0 done ++ (fitsOf a x (wid done)).head?.toList := by rw [rowsFrom_app]; simp [rowsFrom]
        have e1 : wid (done ++ [x]) = wid done + x.2.length := by rw [wid_app]; simp [wid]
        have e := cp_fits (m := ex ++ .lst (dNs (rowsFrom a 0 done)) :: m) (g := g) (o0 := some (pzD n ss)) (o2 := some (.obj m.length)) (o3 := some (.int (wid done : Int))) (o6 := o3) (a := a) (x := x) (fun i hi => by rw [ha]; exact ok.lt x hx i hi) (by omega)
        rw [e0, e1, fits_add]
        generalize rowsFrom a 0 done = z at *
        have h3 : z.length < 1000000 := by omega
        refine ⟨[(4, .int (x.1 : Int)), (5, .tup (dNs x.2))], by simp [sayD], [some (pzD n ss), some (.tup (dNs a)), some (.obj m.length), some (.int (wid done + x.2.length : Nat)), some (.int (x.1 : Int)), some (.tup (dNs x.2)), some (.obj (ex ++ .lst (dNs z) :: m).length), none, none], ⟨.lst (dNs (fitsOf a x 0)) :: (ex ++ .lst (dNs (z ++ ((fitsOf a x 0).map (wid done + ·)).head?.toList)) :: m), g⟩, .inl ?_, ⟨.lst (dNs (fitsOf a x 0)) :: ex, rfl, _, _, _, rfl⟩⟩
        have hn : ∀ k : Nat, ¬ m.length = k + (m.length + 1) := by intro k; omega
        cases hf : fitsOf a x 0 with
        | nil =>
          rw [hf] at e
          simp [lp_rows_of_answer_1, e, pds, deqs, Nat.add_assoc]
        | cons p q =>
          rw [hf] at e
          have h6 : pds 50 (dNs q) = true := by
            have : ∀ l : List Nat, pds 50 (dNs l) = true := by
              intro l
              induction l with
              | nil => simp [pds]
              | cons y l ih => simp [pds, pd, ih]
            exact this q
          simp [lp_rows_of_answer_1, e, pds, pd, deqs, h6, hn, nget_mid, nset_mid, h3])
    simp only [pzD, List.set_cons_zero, List.set_cons_succ] at e1
    rw [e1]
    have h3 : (rowsOf ss a).length < 1000000 := by
      have h3 := rowsFrom_len (a := a) (r := 0) (l := ss)
      have := ok.len
      unfold rowsOf; omega
    refine ⟨ex ++ [.lst (dNs (rowsOf ss a))], ?_⟩
    rw [show rowsFrom a 0 ss = rowsOf ss a from rfl]
    simp [h3, nget_mid]
  obtain ⟨ex, e⟩ := fin
  exact fnD_ok (ex := ex) rfl e (by simp)
/-! ### the law's first rows -/
def fstep (a : List Nat) (st : List Nat × Int) (x : Cell × Nat) : List Nat × Int := if (x.1.1 : Int) != st.2 && a.getD x.1.2.2 0 == x.1.2.1 then (st.1 ++ [x.2], (x.1.1 : Int)) else st
def firstOf (cs : List Cell) (a : List Nat) : List Nat := (cs.zipIdx.foldl (fstep a) ([], -1)).1
theorem fstep_len {a : List Nat} : ∀ {l : List (Cell × Nat)} {st : List Nat × Int}, (l.foldl (fstep a) st).1.length ≤ st.1.length + l.length
  | [], st => by simp
  | x :: l, st => by
    have h := fstep_len (a := a) (l := l) (st := fstep a st x)
    have h2 : (fstep a st x).1.length ≤ st.1.length + 1 := by unfold fstep; split <;> simp
    rw [List.foldl_cons, List.length_cons]
    omega
theorem first_rows_eq {j : Nat} {cs : List Cell} {a : List Nat} (hj : nget m j = some (.lst (cs.map cellD))) (hl : cs.length ≤ 1000) (ha : ∀ c ∈ cs, c.2.2 < a.length) : G_law_first_rows [.obj j, .tup (dNs a)] ⟨m, g⟩ = .ok (.tup (dNs (firstOf cs a))) ⟨m, g⟩ := fnD_ok (ex := [.lst (dNs (firstOf cs a))]) rfl (by
  show endOf (raw_law_first_rows [some (.obj j), some (.tup (dNs a)), none, none, none, none, none, none] ⟨m, g⟩) = _
  unfold raw_law_first_rows
  have hlt := nget_lt hj
  have hne := Nat.ne_of_lt hlt
  have h4 : (cs.length : Int) < 4611686018427387904 := by omega
  have h5 : -4611686018427387904 ≤ (cs.length : Int) := by omega
  simp [hne, hj, h4, h5]
  rw [range_zip]
  refine forL_end (l := cs.zipIdx) (b := ([], -1)) (fun x => .int (x.2 : Int)) (fstep a) (fun st δ s => s = ⟨.lst (dNs st.1) :: m, g⟩ ∧ ∃ o1 o2 o3 o4, δ = [some (.obj j), some (.tup (dNs a)), some (.obj m.length), some (.int st.2), o1, o2, o3, o4]) rfl ⟨rfl, _, _, _, _, rfl⟩ (fun b δ s h => okN) (fun done x rest δ s hl' h => ?_) (fun δ s h => ?_)
  · obtain ⟨rfl, o1, o2, o3, o4, rfl⟩ := h
    have h2 := zip_done hl'
    have hx := zip_mem h2.2.1
    have hg := zip_get h2.2.1
    have hh := fstep_len (a := a) (l := done) (st := ([], -1))
    have hax := ha _ hx
    generalize hst : done.foldl (fstep a) ([], -1) = st at *
    have h3 : st.1.length < 1000000 := by simp at hh; omega
    refine ⟨_, pm_nm, [some (.obj j), some (.tup (dNs a)), some (.obj m.length), some (.int (fstep a st x).2), some (.int (x.2 : Int)), some (.int (x.1.1 : Int)), some (.int (x.1.2.1 : Int)), some (.int (x.1.2.2 : Int))], ⟨.lst (dNs (fstep a st x).1) :: m, g⟩, .inl ?_, rfl, _, _, _, _, rfl⟩
    have hn : ¬ j = m.length := hne
    by_cases z1 : (x.1.1 : Int) = st.2
    · simp [lp_law_first_rows_1, fstep, hn, hj, hg, z1]
    · by_cases z2 : a[x.1.2.2] = x.1.2.1
      · have z3 : ((a[x.1.2.2] : Nat) : Int) = (x.1.2.1 : Int) := by omega
        simp [lp_law_first_rows_1, fstep, hn, hj, hg, z1, z2, hax, h3]
      · have z3 : ¬ ((a[x.1.2.2] : Nat) : Int) = (x.1.2.1 : Int) := by omega
        simp [lp_law_first_rows_1, fstep, hn, hj, hg, z1, z2, z3, hax, h3]
  · obtain ⟨rfl, o1, o2, o3, o4, rfl⟩ := h
    have h3 : (firstOf cs a).length < 1000000 := by
      have hh := fstep_len (a := a) (l := cs.zipIdx) (st := ([], -1))
      rw [List.length_zipIdx] at hh
      simp only [List.length_nil] at hh
      unfold firstOf; omega
    rw [show (cs.zipIdx.foldl (fstep a) ([], -1)).1 = firstOf cs a from rfl]
    simp [h3]) (by simp)
/-- within one saying -/
theorem first_say {a : List Nat} {k : Nat} {s : Nat} : ∀ (ms : List Nat) (r : Nat) (f : List Nat) (last : Int),
    (((ms.map fun nm => ((k, s, nm) : Cell)).zipIdx r).foldl (fstep a) (f, last)) = if last = k then (f, last) else match (fitsOf a (s, ms) r).head? with
      | some p => (f ++ [p], (k : Int))
      | none => (f, last)
  | [], r, f, last => by simp [fitsOf]
  | nm :: ms, r, f, last => by
    have ih := first_say (a := a) (k := k) (s := s) ms (r + 1)
    rw [List.map_cons, List.zipIdx_cons, List.foldl_cons]
    by_cases hl : last = k
    · have e : fstep a (f, last) ((k, s, nm), r) = (f, last) := by simp [fstep, hl]
      rw [e, ih, if_pos hl, if_pos hl]
    · rw [if_neg hl]
      have hl' : ¬ ((k : Int) = last) := fun z => hl z.symm
      by_cases hf : a.getD nm 0 = s
      · have e : fstep a (f, last) ((k, s, nm), r) = (f ++ [r], (k : Int)) := by
          have hf' : (a.getD nm 0 == s) = true := by simpa using hf
          unfold fstep
          rw [if_pos (by simp only [hf', Bool.and_true, bne_iff_ne]; exact hl')]
        rw [e, ih, if_pos rfl]
        have hf' : (a.getD nm 0 == s) = true := by simpa using hf
        have e2 : fitsOf a (s, nm :: ms) r = r :: fitsOf a (s, ms) (r + 1) := by
          unfold fitsOf
          rw [List.zipIdx_cons, List.filter_cons_of_pos (p := fun y : Nat × Nat => a.getD y.1 0 == s) (a := (nm, r)) hf', List.map_cons]
        rw [e2]; rfl
      · have hf' : (a.getD nm 0 == s) = false := by simpa using hf
        have e : fstep a (f, last) ((k, s, nm), r) = (f, last) := by
          unfold fstep
          rw [if_neg (by simp only [hf', Bool.and_false]; exact Bool.false_ne_true)]
        rw [e, ih, if_neg hl]
        have e2 : fitsOf a (s, nm :: ms) r = fitsOf a (s, ms) (r + 1) := by
          unfold fitsOf
          rw [List.zipIdx_cons, List.filter_cons_of_neg (p := fun y : Nat × Nat => a.getD y.1 0 == s) (a := (nm, r)) (by simp only [hf']; exact Bool.false_ne_true)]
        rw [e2]
theorem first_all {a : List Nat} : ∀ (ss : List Say) (k r : Nat) (f : List Nat) (last : Int), last < k →
    ((((ss.zipIdx k).flatMap cellsP).zipIdx r).foldl (fstep a) (f, last)).1 = f ++ rowsFrom a r ss
  | [], k, r, f, last, _ => by simp [rowsFrom]
  | x :: ss, k, r, f, last, h => by
    rw [List.zipIdx_cons, List.flatMap_cons, List.zipIdx_append, List.foldl_append]
    have e : cellsP (x, k) = x.2.map fun nm => ((k, x.1, nm) : Cell) := rfl
    rw [e, first_say, if_neg (by omega), rowsFrom]
    have el : (x.2.map fun nm => ((k, x.1, nm) : Cell)).length = x.2.length := by simp
    rw [el]
    cases (fitsOf a (x.1, x.2) r).head? with
    | none => exact first_all ss (k + 1) _ f last (by omega)
    | some p => exact (first_all ss (k + 1) _ (f ++ [p]) k (by omega)).trans (by rw [List.append_assoc]; rfl)
theorem first_rows_is {a : List Nat} : firstOf (cellsOf ss) a = rowsOf ss a := by
  have := first_all (a := a) ss 0 0 [] (-1) (by omega)
  rw [List.nil_append] at this
  exact this
/-! ### the answer of rows -/
def astep (chosen : List Nat) (ans : List Nat) (x : Cell × Nat) : List Nat := if x.2 ∈ chosen then ans.set x.1.2.2 x.1.2.1 else ans
def ansOf (n : Nat) (cs : List Cell) (chosen : List Nat) : List Nat := cs.zipIdx.foldl (astep chosen) (List.replicate n 0)
def sstep (cs : List Cell) (ans : List Nat) (r : Nat) : List Nat := match cs[r]? with
  | some c => ans.set c.2.2 c.2.1
  | none => ans
def signsOf (n : Nat) (cs : List Cell) (chosen : List Nat) : List Nat := chosen.foldl (sstep cs) (List.replicate n 0)
theorem astep_len {ch : List Nat} : ∀ {l : List (Cell × Nat)} {a : List Nat}, (l.foldl (astep ch) a).length = a.length
  | [], a => rfl
  | x :: l, a => by rw [List.foldl_cons, astep_len]; unfold astep; split <;> simp
theorem sstep_len {cs : List Cell} : ∀ {l : List Nat} {a : List Nat}, (l.foldl (sstep cs) a).length = a.length
  | [], a => rfl
  | x :: l, a => by rw [List.foldl_cons, sstep_len]; unfold sstep; split <;> simp
@[simp] theorem dNs_set {l : List Nat} {i v : Nat} : (dNs l).set i (.int (v : Int)) = dNs (l.set i v) := by simp [dNs]
theorem rep_dNs {n : Nat} : List.replicate n (D.int 0) = dNs (List.replicate n 0) := by simp [dNs]
theorem in_dNs {k : Nat} {l : List Nat} : ((dNs l).any fun y => deq y (.int (k : Int))) = decide (k ∈ l) := by
  have := any_deq (l := l) (f := fun x => x) (k := k)
  rw [show dNs l = l.map fun nm => D.int (nm : Nat) from rfl, this, Bool.eq_iff_iff]
  simp
theorem fl_dNs {l : List Nat} : (dNs l).all flD = true := by simp [dNs, flD]
theorem answer_of_rows_eq (ok : PzOk n ss) {ch : List Nat} : G_answer_of_rows [pzD n ss, .tup (dNs ch)] ⟨m, g⟩ = .ok (.tup (dNs (ansOf n (cellsOf ss) ch))) ⟨m, g⟩ := fnD_ok (ex := [.lst (dNs (ansOf n (cellsOf ss) ch))]) rfl (by
  show endOf (raw_answer_of_rows [some (pzD n ss), some (.tup (dNs ch)), none, none, none] ⟨m, g⟩) = _
  unfold raw_answer_of_rows
  have hn := ok.n8
  have e := sayings_table_eq (m := .lst (dNs (List.replicate n 0)) :: m) (g := g) ok
  have h1 : (n : Int) < 9223372036854775808 := by omega
  have h2 : -9223372036854775808 ≤ (n : Int) := by omega
  have h3 : n < 1000000 := by omega
  simp only [pzD] at e ⊢
  simp [h1, h2, h3, rep_dNs, e, enumD_map]
  refine forL_end (l := (cellsOf ss).zipIdx) (b := List.replicate n 0) (fun x => .tup [.int (x.2 : Nat), rowD x.1]) (astep ch) (fun a δ s => s = ⟨.lst (dNs a) :: m, g⟩ ∧ ∃ o1 o2, δ = [some (pzD n ss), some (.tup (dNs ch)), some (.obj m.length), o1, o2]) rfl ⟨rfl, _, _, rfl⟩ (fun b δ s h => okN) (fun done x rest δ s hl' h => ?_) (fun δ s h => ?_)
  · obtain ⟨rfl, o1, o2, rfl⟩ := h
    have hz := zip_done hl'
    have hx := zip_mem hz.2.1
    have hlen := astep_len (ch := ch) (l := done) (a := List.replicate n 0)
    have hnm : x.1.2.2 < n := by
      unfold cellsOf at hx
      obtain ⟨y, hy, hc⟩ := List.mem_flatMap.mp hx
      obtain ⟨nm, hnm, e⟩ := List.mem_map.mp hc
      rw [← e]
      exact ok.lt _ (zip_mem hy) _ hnm
    generalize done.foldl (astep ch) (List.replicate n 0) = a at *
    have hi : ixN a.length (x.1.2.2 : Int) = some x.1.2.2 := ixN_nat (by rw [hlen]; simpa using hnm)
    refine ⟨[(3, .int (x.2 : Int)), (4, rowD x.1)], by simp, [some (pzD n ss), some (.tup (dNs ch)), some (.obj m.length), some (.int (x.2 : Int)), some (rowD x.1)], ⟨.lst (dNs (astep ch a x)) :: m, g⟩, .inl ?_, rfl, _, _, rfl⟩
    by_cases z : x.2 ∈ ch
    · simp [lp_answer_of_rows_1, fl_dNs, in_dNs, flD, z, astep, rowD, hi, -List.any_eq_true, -List.all_eq_true]
    · simp [lp_answer_of_rows_1, fl_dNs, in_dNs, flD, z, astep, rowD, hi, -List.any_eq_true, -List.all_eq_true]
  · obtain ⟨rfl, o1, o2, rfl⟩ := h
    have h4 : (ansOf n (cellsOf ss) ch).length < 1000000 := by unfold ansOf; rw [astep_len, List.length_replicate]; omega
    rw [show (cellsOf ss).zipIdx.foldl (astep ch) (List.replicate n 0) = ansOf n (cellsOf ss) ch from rfl]
    simp [h4]) (by simp)
theorem told_signs_eq {j : Nat} {cs : List Cell} {ch : List Nat} (hj : nget m j = some (.lst (cs.map cellD))) (hn : n ≤ 8) (hc : ∀ r ∈ ch, r < cs.length) (ha : ∀ c ∈ cs, c.2.2 < n) : G_law_told_signs [.int (n : Int), .obj j, .tup (dNs ch)] ⟨m, g⟩ = .ok (.tup (dNs (signsOf n cs ch))) ⟨m, g⟩ := fnD_ok (ex := [.lst (dNs (signsOf n cs ch))]) rfl (by
  show endOf (raw_law_told_signs [some (.int (n : Int)), some (.obj j), some (.tup (dNs ch)), none, none] ⟨m, g⟩) = _
  unfold raw_law_told_signs
  have hlt := nget_lt hj
  have hne := Nat.ne_of_lt hlt
  have h1 : (n : Int) < 9223372036854775808 := by omega
  have h2 : -9223372036854775808 ≤ (n : Int) := by omega
  have h3 : n < 1000000 := by omega
  simp [h1, h2, h3, rep_dNs]
  refine forL_end (l := ch) (b := List.replicate n 0) (fun x : Nat => .int (x : Int)) (sstep cs) (fun a δ s => s = ⟨.lst (dNs a) :: m, g⟩ ∧ ∃ o1, δ = [some (.int (n : Int)), some (.obj j), some (.tup (dNs ch)), some (.obj m.length), o1]) rfl ⟨rfl, _, rfl⟩ (fun b δ s h => okN) (fun done x rest δ s hl' h => ?_) (fun δ s h => ?_)
  · obtain ⟨rfl, o1, rfl⟩ := h
    have hx : x < cs.length := hc x (by rw [hl']; simp)
    have hlen := sstep_len (cs := cs) (l := done) (a := List.replicate n 0)
    have hnm := ha cs[x] (List.getElem_mem hx)
    generalize done.foldl (sstep cs) (List.replicate n 0) = a at *
    have hi : ixN a.length (cs[x].2.2 : Int) = some cs[x].2.2 := ixN_nat (by rw [hlen]; simpa using hnm)
    have hg : cs[x]? = some cs[x] := by simp [hx]
    refine ⟨_, pm_nm, [some (.int (n : Int)), some (.obj j), some (.tup (dNs ch)), some (.obj m.length), some (.int (x : Int))], ⟨.lst (dNs (sstep cs a x)) :: m, g⟩, .inl ?_, rfl, _, rfl⟩
    simp [lp_law_told_signs_1, hne, hj, hx, sstep, hi]
  · obtain ⟨rfl, o1, rfl⟩ := h
    have h4 : (signsOf n cs ch).length < 1000000 := by unfold signsOf; rw [sstep_len, List.length_replicate]; omega
    rw [show ch.foldl (sstep cs) (List.replicate n 0) = signsOf n cs ch from rfl]
    simp [h4]) (by simp)
theorem signs_is {cs : List Cell} {p : Nat → Bool} {ch : List Nat} (hc : ch = (List.range cs.length).filter p) : signsOf n cs ch = ansOf n cs ch := by
  unfold signsOf ansOf
  have h1 : ∀ (l : List (Cell × Nat)) (a : List Nat), (∀ x ∈ l, cs[x.2]? = some x.1) → (∀ x ∈ l, x.2 ∈ ch ↔ p x.2 = true) → l.foldl (astep ch) a = ((l.map (·.2)).filter p).foldl (sstep cs) a := by
    intro l
    induction l with
    | nil => intro a _ _; rfl
    | cons x l ih =>
      intro a h h'
      rw [List.foldl_cons, List.map_cons, ih _ (fun y hy => h y (List.mem_cons_of_mem _ hy)) fun y hy => h' y (List.mem_cons_of_mem _ hy)]
      have hx := h x List.mem_cons_self
      have hx' := h' x List.mem_cons_self
      by_cases z : p x.2 = true
      · rw [List.filter_cons_of_pos z, List.foldl_cons]
        congr 1
        unfold astep sstep
        rw [if_pos (hx'.mpr z), hx]
      · rw [List.filter_cons_of_neg z]
        congr 1
        unfold astep
        rw [if_neg fun y => z (hx'.mp y)]
  rw [h1 _ _ (fun x hx => zip_get hx) fun x hx => ?_]
  · rw [show cs.zipIdx.map (·.2) = List.range cs.length by simp [List.range_eq_range'], ← hc]
  · have : x.2 < cs.length := by
      have := zip_get hx
      exact (List.getElem?_eq_some_iff.mp this).1
    rw [hc, List.mem_filter, List.mem_range]
    exact ⟨fun h => h.2, fun h => ⟨this, h⟩⟩
end
end K66

/-! k66: all answers, the best one. -/
namespace K66
open PySem PySem.Spec PyProof.Rows L2 DL LA
section
variable {m : List MO} {g : Option Rng} {n : Nat} {ss : List Say}
def answersN : Nat → List (List Nat)
  | 0 => [[]]
  | k + 1 => (answersN k).flatMap fun a => [0, 1].map fun b => a ++ [b]
theorem answersN_len : ∀ k, (answersN k).length = 2 ^ k
  | 0 => rfl
  | k + 1 => by
    have h : ∀ l : List (List Nat), (l.flatMap fun a => [0, 1].map fun b => a ++ [b]).length = 2 * l.length := by
      intro l
      induction l with
      | nil => rfl
      | cons x l ih => rw [List.flatMap_cons, List.length_append, ih, List.length_map, List.length_cons]; simp; omega
    rw [answersN, h, answersN_len k, Nat.pow_succ]; omega
theorem answersN_mem_len : ∀ {k : Nat} {a : List Nat}, a ∈ answersN k → a.length = k
  | 0, a, h => by simp [answersN] at h; simp [h]
  | k + 1, a, h => by
    obtain ⟨b, h1, h2⟩ := List.mem_flatMap.mp h
    obtain ⟨c, h3, rfl⟩ := List.mem_map.mp h2
    simp [answersN_mem_len h1]
def ansD (a : List Nat) : D := .tup (dNs a)
theorem cp_answers {o0 o2 : Option D} {j : Nat} {l : List (List Nat)} (hj : nget m j = some (.lst (l.map ansD))) (hl : l.length ≤ 1000) (ha : ∀ a ∈ l, a.length ≤ 1000) :
    cp_answers_of_1 [o0, some (.obj j), o2, none, none] ⟨m, g⟩ = .ok (.obj m.length) ⟨.lst ((l.flatMap fun a => [0, 1].map fun b => a ++ [b]).map ansD) :: m, g⟩ := by
  unfold cp_answers_of_1
  have hne := Nat.ne_of_lt (nget_lt hj)
  have e : (l.flatMap fun a => [0, 1].map fun b => a ++ [b]).map ansD = l.flatMap fun a => [0, 1].map fun b : Nat => D.tup (dNs a ++ [.int (b : Int)]) := by
    rw [List.map_flatMap]
    congr 1
    funext a
    simp [ansD]
  rw [e]
  refine eComp2_all (m := m) (g := g) (src := ⟨l.map ansD, some (j, .lst (l.map ansD))⟩) ansD (fun b : Nat => .int (b : Int)) (fun _ => [0, 1]) (fun a b => .tup (dNs a ++ [.int (b : Int)])) l ?_ rfl (fun _ => ?_)
    (fun a hal => ⟨_, pm_nm, fun acc => ⟨⟨[.int 0, .int 1], none⟩, ?_, rfl, fun _ => okN, fun c hc => ⟨_, pm_nm, fun acc => ?_⟩⟩⟩) ?_
  · simp [hj]
  · simp [hne, hj]
  · simp
  · have := ha a hal
    have h3 : a.length + 1 < 1000000 := by omega
    simp [ansD, h3]
  · have h : ∀ l : List (List Nat), (l.flatMap fun a => [0, 1].map fun b : Nat => D.tup (dNs a ++ [.int (b : Int)])).length = 2 * l.length := by
      intro l
      induction l with
      | nil => rfl
      | cons x l ih => rw [List.flatMap_cons, List.length_append, ih, List.length_map, List.length_cons]; simp; omega
    rw [h]; simp; omega
theorem answers_of_eq (hn : n ≤ 8) : G_answers_of [.int (n : Int)] ⟨m, g⟩ = .ok (.tup ((answersN n).map ansD)) ⟨m, g⟩ := by
  have fin : ∃ ex, endOf (raw_answers_of [some (.int (n : Int)), none, none, none, none] ⟨m, g⟩) = .ok (.tup ((answersN n).map ansD)) ⟨ex ++ m, g⟩ := by
    unfold raw_answers_of
    have h1 : (n : Int) < 4611686018427387904 := by omega
    have h2 : -4611686018427387904 ≤ (n : Int) := by omega
    simp [h1, h2]
    obtain ⟨δ', s', e1, ex, rfl, o1, rfl⟩ := forL_I (src := ⟨rgD n, none⟩) (p := .nm 2) (body := lp_answers_of_1) (l := List.range n) (δ := [some (.int (n : Int)), some (.obj m.length), none, none, none]) (s := ⟨.lst [.tup []] :: m, g⟩) (fun i : Nat => .int (i : Int))
      (fun done δ s => ∃ ex, s = ⟨.lst ((answersN done.length).map ansD) :: (ex ++ m), g⟩ ∧ ∃ o1, δ = [some (.int (n : Int)), some (.obj (ex ++ m).length), o1, none, none]) ⟨[], rfl, _, rfl⟩ (fun b δ s h => okN) (fun done x rest δ s hl' h => by
        obtain ⟨ex, rfl, o1, rfl⟩ := h
        obtain ⟨rfl, hx⟩ := range_mid hl'
        have hp : 2 ^ done.length ≤ 2 ^ 8 := Nat.pow_le_pow_right (by decide) (by omega)
        have e := cp_answers (m := .lst ((answersN done.length).map ansD) :: (ex ++ m)) (g := g) (o0 := some (.int (n : Int))) (o2 := some (.int (done.length : Int))) (j := (ex ++ m).length) (l := answersN done.length) (by simp) (by rw [answersN_len]; omega) (fun a ha => by rw [answersN_mem_len ha]; omega)
        refine ⟨_, pm_nm, [some (.int (n : Int)), some (.obj (.lst ((answersN done.length).map ansD) :: (ex ++ m)).length), some (.int (done.length : Int)), none, none], _, .inl ?_, ⟨.lst ((answersN done.length).map ansD) :: ex, rfl, _, rfl⟩⟩
        rw [show (done ++ [done.length]).length = done.length + 1 by simp, answersN]
        simp only [setAll_cons, setAll_nil, List.set_cons_zero, List.set_cons_succ, lp_answers_of_1, sSet_run, e, kSet_ok]
        rfl)
    rw [rgD_nat] at e1 ⊢
    rw [e1]
    refine ⟨.lst ((answersN n).map ansD) :: ex, ?_⟩
    have hp : 2 ^ n ≤ 2 ^ 8 := Nat.pow_le_pow_right (by decide) hn
    have h3 : (answersN n).length < 1000000 := by rw [answersN_len]; omega
    simp [h3]
  obtain ⟨ex, e⟩ := fin
  exact fnD_ok (ex := ex) rfl e (by simpa using dlts_map fun c _ => by simp [ansD])
/-- the first of the best -/
def bstep {α : Type} (f : α → Nat) (st : Option (α × Nat)) (x : α) : Option (α × Nat) := match st with
  | none => some (x, f x)
  | some (b, k) => if k < f x then some (x, f x) else some (b, k)
def bestOf {α : Type} (f : α → Nat) (l : List α) : Option (α × Nat) := l.foldl (bstep f) none
def bestD : Option (List Nat × Nat) → D × D
  | none => (.non, .int (-1))
  | some (b, k) => (ansD b, .int (k : Int))
theorem heldOf_len (ok : PzOk n ss) (a : List Nat) : (heldOf ss a).length ≤ 12 := by
  have h3 := heldP_len (a := a) (l := ss.zipIdx)
  have := ok.len
  rw [List.length_zipIdx] at h3
  unfold heldOf; omega
theorem best_some {α : Type} (f : α → Nat) (l : List α) (h : l ≠ []) : ∃ b k, bestOf f l = some (b, k) := by
  have : ∀ (l : List α) (b : α) (k : Nat), ∃ b' k', l.foldl (bstep f) (some (b, k)) = some (b', k') := by
    intro l
    induction l with
    | nil => intro b k; exact ⟨b, k, rfl⟩
    | cons x l ih =>
      intro b k
      rw [List.foldl_cons]
      unfold bstep
      simp only []
      split
      · exact ih _ _
      · exact ih _ _
  cases l with
  | nil => exact absurd rfl h
  | cons x l => exact this l x (f x)
theorem best_answer_eq (ok : PzOk n ss) {b : List Nat} {k : Nat} (hb : bestOf (fun a => (heldOf ss a).length) (answersN n) = some (b, k)) : G_best_answer [pzD n ss] ⟨m, g⟩ = .ok (.tup [.int (k : Int), ansD b]) ⟨m, g⟩ := fnD_ok (ex := []) rfl (by
  show endOf (raw_best_answer [some (pzD n ss), none, none, none, none] ⟨m, g⟩) = _
  unfold raw_best_answer
  have e := answers_of_eq (m := m) (g := g) ok.n8
  simp [pzD, e]
  refine forL_end (l := answersN n) (b := none) ansD (bstep fun a => (heldOf ss a).length) (fun st δ s => s = ⟨m, g⟩ ∧ ∃ o1 o2, δ = [some (pzD n ss), some (bestD st).1, some (bestD st).2, o1, o2]) rfl ⟨rfl, _, _, rfl⟩ (fun b δ s h => okN) (fun done x rest δ s hl' h => ?_) (fun δ s h => ?_)
  · obtain ⟨rfl, o1, o2, rfl⟩ := h
    have hx : x ∈ answersN n := by rw [hl']; simp
    have e := holding_eq (m := m) (g := g) ok (answersN_mem_len hx)
    generalize done.foldl (bstep fun a => (heldOf ss a).length) none = st at *
    refine ⟨_, pm_nm, [some (pzD n ss), some (bestD (bstep (fun a => (heldOf ss a).length) st x)).1, some (bestD (bstep (fun a => (heldOf ss a).length) st x)).2, some (ansD x), some (.int ((heldOf ss x).length : Int))], _, .inl ?_, rfl, _, _, rfl⟩
    cases st with
    | none =>
      have h1 : (-1 : Int) < ((heldOf ss x).length : Int) := by omega
      simp [lp_best_answer_1, bestD, bstep, ansD, e, h1]
    | some bk =>
      obtain ⟨b', k'⟩ := bk
      by_cases z : k' < (heldOf ss x).length
      · have z' : (k' : Int) < ((heldOf ss x).length : Int) := by omega
        simp [lp_best_answer_1, bestD, bstep, ansD, e, z]
      · simp [lp_best_answer_1, bestD, bstep, ansD, e, z]
  · obtain ⟨rfl, o1, o2, rfl⟩ := h
    rw [show (answersN n).foldl (bstep fun a => (heldOf ss a).length) none = some (b, k) from hb]
    simp [bestD]) (by simp [ansD])
end
end K66

/-! k66: the law's own best answer. -/
namespace K66
open PySem PySem.Spec PyProof.Rows L2 DL LA
/-! ### masks -/
theorem testBit_maskOf {l : List Nat} {i : Nat} : (maskOf l).testBit i = decide (i ∈ l) := by
  have h : ∀ (l : List Nat) (a : Nat), (l.foldl (fun m i => m ||| 2 ^ i) a).testBit i = (a.testBit i || decide (i ∈ l)) := by
    intro l
    induction l with
    | nil => intro a; simp
    | cons x l ih =>
      intro a
      rw [List.foldl_cons, ih, Nat.testBit_or, Nat.testBit_two_pow]
      rw [Bool.eq_iff_iff]
      simp
      constructor
      · rintro ((h | h) | h)
        · exact .inl h
        · exact .inr (.inl h.symm)
        · exact .inr (.inr h)
      · rintro (h | h | h)
        · exact .inl (.inl h)
        · exact .inl (.inr h.symm)
        · exact .inr h
  rw [maskOf, h]; simp
theorem maskOf_lt {l : List Nat} {n : Nat} (h : ∀ i ∈ l, i < n) : maskOf l < 2 ^ n := by
  apply Nat.lt_pow_two_of_testBit
  intro i hi
  rw [testBit_maskOf]
  simp
  intro z
  have := h i z
  omega
theorem bits_maskOf {l : List Nat} (h : l.Pairwise (· < ·)) : bitsOf (maskOf l) = l := by
  have s1 : (bitsOf (maskOf l)).Pairwise (· < ·) := by
    unfold bitsOf
    exact List.Pairwise.filter _ List.pairwise_lt_range
  have p : (bitsOf (maskOf l)).Perm l := by
    apply (List.perm_ext_iff_of_nodup (s1.imp fun h => Nat.ne_of_lt h) (h.imp fun h => Nat.ne_of_lt h)).mpr
    intro i
    rw [mem_bitsOf, testBit_maskOf]
    simp
  exact List.Perm.eq_of_pairwise (fun x y _ _ h1 h2 => by omega) s1 h p
def bitsT (n N : Nat) : List Nat := (List.range n).map fun i => N / 2 ^ (n - 1 - i) % 2
theorem bitsT_len {n N : Nat} : (bitsT n N).length = n := by simp [bitsT]
theorem bitsT_succ {n N b : Nat} (hb : b < 2) : bitsT (n + 1) (2 * N + b) = bitsT n N ++ [b] := by
  unfold bitsT
  rw [List.range_succ, List.map_append]
  congr 1
  · apply List.map_congr_left
    intro i hi
    have hi : i < n := by simpa using hi
    have e : n + 1 - 1 - i = (n - 1 - i) + 1 := by omega
    have e2 : (2 * N + b) / 2 = N := by omega
    rw [e, Nat.pow_succ', ← Nat.div_div_eq_div_mul, e2]
  · simp; omega
theorem range_two (k : Nat) : List.range (2 * k) = (List.range k).flatMap fun i => [0, 1].map fun b => 2 * i + b := by
  induction k with
  | zero => rfl
  | succ k ih =>
    rw [show 2 * (k + 1) = 2 * k + 1 + 1 by omega, List.range_succ, List.range_succ, ih, List.range_succ, List.flatMap_append]
    simp
theorem answers_bits : ∀ n : Nat, answersN n = (List.range (2 ^ n)).map (bitsT n)
  | 0 => rfl
  | n + 1 => by
    rw [answersN, answers_bits n, Nat.pow_succ, Nat.mul_comm, range_two, List.map_flatMap, List.flatMap_map]
    congr 1
    funext i
    simp only [List.map_cons, List.map_nil]
    rw [bitsT_succ (by omega), show 2 * i + 1 = 2 * i + 1 from rfl, bitsT_succ (b := 1) (by omega)]
theorem best_map {α β : Type} (f : β → Nat) (h : α → β) (l : List α) : bestOf f (l.map h) = (bestOf (fun x => f (h x)) l).map fun x => (h x.1, x.2) := by
  have q : ∀ (l : List α) (st : Option (α × Nat)), (l.map h).foldl (bstep f) (st.map fun x => (h x.1, x.2)) = (l.foldl (bstep fun x => f (h x)) st).map fun x => (h x.1, x.2) := by
    intro l
    induction l with
    | nil => intro st; rfl
    | cons x l ih =>
      intro st
      rw [List.map_cons, List.foldl_cons, List.foldl_cons, ← ih]
      congr 1
      cases st with
      | none => rfl
      | some bk =>
        show (if bk.2 < f (h x) then _ else _) = Option.map _ (if bk.2 < f (h x) then _ else _)
        split <;> rfl
  exact q l none
section
variable {m : List MO} {g : Option Rng} {n : Nat} {ss : List Say}
def maskR (n : Nat) (x : Say) : Nat := maskOf (x.2.map fun nm => n - 1 - nm)
def hit (n N : Nat) (x : Say) : Bool := if x.1 = 1 then decide (0 < maskR n x &&& N) else decide (maskR n x &&& N ≠ maskR n x)
theorem bitsT_getD {n N i : Nat} (h : i < n) : (bitsT n N).getD i 0 = N / 2 ^ (n - 1 - i) % 2 := by
  rw [List.getD_eq_getElem?_getD]
  simp [bitsT, h]
theorem bit_mod {N i : Nat} : (N / 2 ^ i % 2 == 1) = N.testBit i := by
  rw [Nat.testBit_eq_decide_div_mod_eq, Bool.eq_iff_iff]
  simp
theorem hit_holds {N : Nat} {x : Say} (h2 : x.1 < 2) (hn : ∀ i ∈ x.2, i < n) : hit n N x = holds x (bitsT n N) := by
  unfold hit holds
  rw [Bool.eq_iff_iff, List.any_eq_true]
  by_cases h1 : x.1 = 1
  · rw [if_pos h1, decide_eq_true_iff]
    constructor
    · intro h
      obtain ⟨i, hi⟩ := Nat.exists_testBit_of_ne_zero (Nat.ne_of_gt h)
      rw [Nat.testBit_and, Bool.and_eq_true, maskR, testBit_maskOf, decide_eq_true_iff] at hi
      obtain ⟨hi1, hi2⟩ := hi
      obtain ⟨nm, hnm, rfl⟩ := List.mem_map.mp hi1
      refine ⟨nm, hnm, ?_⟩
      rw [bitsT_getD (hn nm hnm), h1, bit_mod]
      exact hi2
    · rintro ⟨nm, hnm, h⟩
      rw [bitsT_getD (hn nm hnm), h1, bit_mod] at h
      apply Nat.pos_of_ne_zero
      intro z
      have : (maskR n x &&& N).testBit (n - 1 - nm) = true := by
        rw [Nat.testBit_and, maskR, testBit_maskOf, h, Bool.and_true, decide_eq_true_iff]
        exact List.mem_map.mpr ⟨nm, hnm, rfl⟩
      rw [z] at this
      simp at this
  · have h0 : x.1 = 0 := by omega
    rw [if_neg h1, decide_eq_true_iff]
    constructor
    · intro h
      apply Classical.byContradiction
      intro z
      apply h
      apply Nat.eq_of_testBit_eq
      intro i
      rw [Nat.testBit_and, maskR, testBit_maskOf]
      by_cases hi : i ∈ x.2.map fun nm => n - 1 - nm
      · obtain ⟨nm, hnm, rfl⟩ := List.mem_map.mp hi
        have : ¬ ((bitsT n N).getD nm 0 == x.1) = true := fun y => z ⟨nm, hnm, y⟩
        rw [bitsT_getD (hn nm hnm), h0] at this
        have h3 : N.testBit (n - 1 - nm) = true := by
          rw [← bit_mod]
          have := Nat.mod_two_eq_zero_or_one (N / 2 ^ (n - 1 - nm))
          simp at *
          omega
        rw [h3, Bool.and_true]
      · simp [hi]
    · rintro ⟨nm, hnm, h⟩ z
      rw [bitsT_getD (hn nm hnm), h0] at h
      have h3 : (maskR n x &&& N).testBit (n - 1 - nm) = (maskR n x).testBit (n - 1 - nm) := by rw [z]
      rw [Nat.testBit_and, maskR, testBit_maskOf, decide_eq_true (List.mem_map.mpr ⟨nm, hnm, rfl⟩), Bool.true_and, ← bit_mod] at h3
      simp at h h3
      omega
theorem held_count {a : List Nat} : (heldOf ss a).length = (ss.filter fun x => holds x a).length := by
  unfold heldOf heldP
  rw [List.length_map]
  have h : ∀ (l : List Say) (k : Nat), ((l.zipIdx k).filter fun x => holds x.1 a).length = (l.filter fun x => holds x a).length := by
    intro l
    induction l with
    | nil => intro k; rfl
    | cons x l ih =>
      intro k
      rw [List.zipIdx_cons]
      by_cases z : holds x a = true
      · rw [List.filter_cons_of_pos (p := fun x => holds x a) z, List.filter_cons_of_pos (p := fun x : Say × Nat => holds x.1 a) (a := (x, k)) z, List.length_cons, List.length_cons, ih]
      · rw [List.filter_cons_of_neg (p := fun x => holds x a) z, List.filter_cons_of_neg (p := fun x : Say × Nat => holds x.1 a) (a := (x, k)) z, ih]
  exact h ss 0
def manyOf (n : Nat) (ss : List Say) (N : Nat) : Nat := (ss.filter (hit n N)).length
theorem many_is (ok : PzOk n ss) {N : Nat} : manyOf n ss N = (heldOf ss (bitsT n N)).length := by
  rw [held_count, manyOf]
  congr 1
  apply List.filter_congr
  intro x hx
  exact hit_holds (ok.sg x hx) (ok.lt x hx)
def mkD (n : Nat) (x : Say) : D := .tup [.int (x.1 : Int), .int (maskR n x : Nat)]
theorem cp_most2 {o0 o2 o3 o4 o5 o6 o7 o10 : Option D} {x : Say} (hn : ∀ i ∈ x.2, i < n) (hx : x.2.length ≤ 1000) :
    cp_law_most_2 [o0, some (.int (n : Int)), o2, o3, o4, o5, o6, o7, some (.tup (dNs x.2)), none, o10] ⟨m, g⟩ = .ok (.obj m.length) ⟨.lst (dNs (x.2.map fun nm => n - 1 - nm)) :: m, g⟩ := by
  unfold cp_law_most_2
  refine (eComp_all (m := m) (g := g) (src := ⟨dNs x.2, none⟩) (fun i : Nat => .int (i : Int)) (fun nm => .int ((n - 1 - nm : Nat) : Int)) x.2 ?_ rfl (fun _ => okN) (fun c hc => ⟨_, pm_nm, fun acc => ?_⟩) ?_).trans ?_
  · simp
  · have := hn c hc
    simp
    omega
  · simp; omega
  · simp [dNs]
theorem cp_most1 (ok : PzOk n ss) : cp_law_most_1 [some (pzD n ss), some (.int (n : Int)), none, none, none, none, none, none, none, none, none] ⟨m, g⟩ = .ok (.obj m.length) ⟨.lst (ss.map (mkD n)) :: m, g⟩ := by
  unfold cp_law_most_1
  refine eComp_all (m := m) (g := g) (src := ⟨ss.map sayD, none⟩) sayD (mkD n) ss ?_ rfl (fun _ => okN) (fun x hx => ⟨[(7, .int (x.1 : Int)), (8, .tup (dNs x.2))], ?_, fun acc => ?_⟩) ?_
  · simp [pzD]
  · simp [sayD]
  · have hw := ok.w5 x hx
    have e := cp_most2 (m := .lst acc :: m) (g := g) (o0 := some (pzD n ss)) (o2 := none) (o3 := none) (o4 := none) (o5 := none) (o6 := none) (o7 := some (.int (x.1 : Int))) (o10 := none) (n := n) (x := x) (ok.lt x hx) (by omega)
    have e2 := law_mask (d := .obj (m.length + 1)) (l := x.2.map fun nm => n - 1 - nm) (m := .lst (dNs (x.2.map fun nm => n - 1 - nm)) :: .lst acc :: m) (g := g) (src := ⟨dNs (x.2.map fun nm => n - 1 - nm), some (m.length + 1, .lst (dNs (x.2.map fun nm => n - 1 - nm)))⟩) (by simp) rfl (by simp) (fun i hi => by
      obtain ⟨nm, _, rfl⟩ := List.mem_map.mp hi
      have := ok.n8
      omega)
    simp only [pzD] at e ⊢
    simp [e, e2, mkD, maskR]
  · have := ok.len
    simp; omega
theorem cp_most3 {o0 o1 o4 o5 o6 : Option D} {j N : Nat} (hj : nget m j = some (.lst (ss.map (mkD n)))) (hl : ss.length ≤ 1000) : cp_law_most_3 [o0, o1, some (.obj j), some (.int (N : Int)), o4, o5, o6, none, none, none, none] ⟨m, g⟩ = .ok (.obj m.length) ⟨.lst (ss.map fun x => .int (if hit n N x = true then 1 else 0)) :: m, g⟩ := by
  unfold cp_law_most_3
  have hne := Nat.ne_of_lt (nget_lt hj)
  refine eComp_all (m := m) (g := g) (src := ⟨ss.map (mkD n), some (j, .lst (ss.map (mkD n)))⟩) (mkD n) (fun x => .int (if hit n N x = true then 1 else 0)) ss ?_ rfl (fun _ => ?_) (fun x hx => ⟨[(7, .int (x.1 : Int)), (10, .int (maskR n x : Nat))], ?_, fun acc => ?_⟩) ?_
  · simp [hj]
  · simp [hne, hj]
  · simp [mkD]
  · by_cases z : x.1 = 1
    · have z' : (x.1 : Int) = 1 := by omega
      simp [z, bitAnd_nat, hit]
    · have z' : ¬ (x.1 : Int) = 1 := by omega
      simp [z, z', bitAnd_nat, hit]
      by_cases y : maskR n x &&& N = maskR n x
      · simp [y]
      · have y' : ¬ ((maskR n x &&& N : Nat) : Int) = (maskR n x : Int) := by omega
        simp [y, y']
  · simp; omega
theorem count_sum {l : List Say} {p : Say → Bool} : (l.map fun x => if p x = true then (1 : Int) else 0).sum = ((l.filter p).length : Nat) := by
  induction l with
  | nil => rfl
  | cons x l ih =>
    rw [List.map_cons, List.sum_cons, ih]
    by_cases z : p x = true
    · rw [if_pos z, List.filter_cons_of_pos z, List.length_cons]; omega
    · rw [if_neg z, List.filter_cons_of_neg z]; omega
theorem cp_most4 {o0 o2 o3 o5 o6 o7 o8 o10 : Option D} {b : Nat} (hn : n ≤ 8) : cp_law_most_4 [o0, some (.int (n : Int)), o2, o3, some (.int (b : Int)), o5, o6, o7, o8, none, o10] ⟨m, g⟩ = .ok (.obj m.length) ⟨.lst (dNs (bitsT n b)) :: m, g⟩ := by
  unfold cp_law_most_4
  refine (eComp_all (m := m) (g := g) (src := ⟨rgD n, none⟩) (fun i : Nat => .int (i : Int)) (fun i => .int ((b / 2 ^ (n - 1 - i) % 2 : Nat) : Int)) (List.range n) ?_ rfl (fun _ => okN) (fun i hi => ⟨_, pm_nm, fun acc => ?_⟩) ?_).trans ?_
  · have h1 : (n : Int) < 4611686018427387904 := by omega
    have h2 : -4611686018427387904 ≤ (n : Int) := by omega
    simp [h1, h2]
  · have hi : i < n := by simpa using hi
    have e1 : ((n : Int) - 1 - (i : Int)) = ((n - 1 - i : Nat) : Int) := by omega
    have e2 : ((b : Int) / 2 ^ (n - 1 - i)) = ((b / 2 ^ (n - 1 - i) : Nat) : Int) := by simp
    have e3 : (1 : Int) = ((1 : Nat) : Int) := rfl
    have e4 : Builtin.bitAnd ((b / 2 ^ (n - 1 - i) : Nat) : Int) 1 = ((b / 2 ^ (n - 1 - i) % 2 : Nat) : Int) := by rw [e3, bitAnd_nat, Nat.and_one_is_mod]
    simp only [setAll_cons, setAll_nil, wipeD_cons, wipeD_nil, List.set_cons_zero, List.set_cons_succ, eBin_run, eVar_zero, eVar_succ, kOp1_ok, kOp2_ok, eC_run, opSub_int, e1, opShr_int, opAnd_int]
    rw [if_pos (by omega), Int.toNat_natCast, e2, kOp1_ok, eC_run, kOp2_ok, opAnd_int, e4]
  · simp; omega
  · simp [dNs, bitsT]
theorem law_most_eq (ok : PzOk n ss) {b k : Nat} (hb : bestOf (manyOf n ss) (List.range (2 ^ n)) = some (b, k)) : G_law_most [pzD n ss] ⟨m, g⟩ = .ok (.tup [.int (k : Int), ansD (bitsT n b)]) ⟨m, g⟩ := fnD_ok (ex := [.lst (ss.map (mkD n))]) rfl (by
  show endOf (raw_law_most [some (pzD n ss), none, none, none, none, none, none, none, none, none, none] ⟨m, g⟩) = _
  unfold raw_law_most
  have e := cp_most1 (m := m) (g := g) ok
  have hn := ok.n8
  have hp : 2 ^ n ≤ 2 ^ 8 := Nat.pow_le_pow_right (by decide) hn
  have h1 : (n : Int) ≤ 1000000 := by omega
  have e2 : ((2 : Int) ^ n) = ((2 ^ n : Nat) : Int) := by simp
  have h3 : ((2 ^ n : Nat) : Int) < 4611686018427387904 := by omega
  have h4 : -4611686018427387904 ≤ ((2 ^ n : Nat) : Int) := Int.le_trans (by decide) (Int.natCast_nonneg _)
  have hl := ok.len
  simp only [pzD] at e ⊢
  simp [e, h1, e2, h3, h4, -Int.natCast_pow]
  rw [rgD_nat]
  refine forL_end (l := List.range (2 ^ n)) (b := none) (fun i : Nat => .int (i : Int)) (bstep (manyOf n ss)) (fun st δ s => s = ⟨.lst (ss.map (mkD n)) :: m, g⟩ ∧ ∃ o1 o2, δ = [some (pzD n ss), some (.int (n : Int)), some (.obj m.length), o1, some (.int ((st.map (·.1)).getD 0 : Nat)), some (match st with | none => .int (-1) | some x => .int (x.2 : Int)), o2, none, none, none, none]) rfl ⟨rfl, _, _, rfl⟩ (fun b δ s h => okN) (fun done x rest δ s hl' h => ?_) (fun δ s h => ?_)
  · obtain ⟨rfl, o1, o2, rfl⟩ := h
    generalize done.foldl (bstep (manyOf n ss)) none = st at *
    refine ⟨_, pm_nm, [some (pzD n ss), some (.int (n : Int)), some (.obj m.length), some (.int (x : Int)), some (.int (((bstep (manyOf n ss) st x).map (·.1)).getD 0 : Nat)), some (match bstep (manyOf n ss) st x with | none => .int (-1) | some x => .int (x.2 : Int)), some (.int (manyOf n ss x : Nat)), none, none, none, none], _, .inl ?_, rfl, _, _, rfl⟩
    have e3 := cp_most3 (m := .lst (ss.map (mkD n)) :: m) (g := g) (o0 := some (pzD n ss)) (o1 := some (.int (n : Int))) (o4 := some (.int ((st.map (·.1)).getD 0 : Nat))) (o5 := some (match st with | none => .int (-1) | some x => .int (x.2 : Int))) (o6 := o2) (j := m.length) (N := x) (n := n) (ss := ss) (by simp) (by omega)
    have e4 : ((manyOf n ss x : Nat) : Int) = (ss.map fun y => if hit n x y = true then (1 : Int) else 0).sum := count_sum.symm
    cases st with
    | none =>
      have h1 : (-1 : Int) < ((manyOf n ss x : Nat) : Int) := by omega
      simp at e3
      rw [e4] at h1
      simp [lp_law_most_1, bstep, e3, intsOf_ints, e4, h1]
    | some bk =>
      obtain ⟨b', k'⟩ := bk
      simp at e3
      by_cases z : k' < manyOf n ss x
      · have z' : (k' : Int) < ((manyOf n ss x : Nat) : Int) := by omega
        have z2 : (k' : Int) < (ss.map fun y => if hit n x y = true then (1 : Int) else 0).sum := by rw [← e4]; exact z'
        simp [lp_law_most_1, bstep, e3, intsOf_ints, z, z2]
        rw [← e4]
      · have z' : ¬ (k' : Int) < ((manyOf n ss x : Nat) : Int) := by omega
        have z2 : ¬ (k' : Int) < (ss.map fun y => if hit n x y = true then (1 : Int) else 0).sum := by rw [← e4]; exact z'
        simp [lp_law_most_1, bstep, e3, intsOf_ints, z, z2]
        rw [← e4]
  · obtain ⟨rfl, o1, o2, rfl⟩ := h
    rw [show (List.range (2 ^ n)).foldl (bstep (manyOf n ss)) none = some (b, k) from hb]
    have e4 := cp_most4 (m := .lst (ss.map (mkD n)) :: m) (g := g) (o0 := some (pzD n ss)) (o2 := some (.obj m.length)) (o3 := o1) (o5 := some (.int (k : Int))) (o6 := o2) (o7 := none) (o8 := none) (o10 := none) (b := b) hn
    have h5 : (bitsT n b).length < 1000000 := by rw [bitsT_len]; omega
    simp [e4, h5, ansD]) (by simp [ansD])
/-- the program's best answer and the law's are one -/
theorem best_both (ok : PzOk n ss) : ∃ (b k : Nat), b < 2 ^ n ∧ bestOf (manyOf n ss) (List.range (2 ^ n)) = some (b, k) ∧ bestOf (fun a => (heldOf ss a).length) (answersN n) = some (bitsT n b, k) ∧ k = (heldOf ss (bitsT n b)).length ∧ ∀ N, N < 2 ^ n → (heldOf ss (bitsT n N)).length ≤ k := by
  have spec : ∀ (l : List Nat) (st : Option (Nat × Nat)) (r : Nat × Nat), l.foldl (bstep (manyOf n ss)) st = some r → (∀ x, st = some x → x.2 = manyOf n ss x.1 ∧ x.1 < 2 ^ n) → (∀ x ∈ l, x < 2 ^ n) → (r.2 = manyOf n ss r.1 ∧ r.1 < 2 ^ n) ∧ (∀ x ∈ l, manyOf n ss x ≤ r.2) ∧ ∀ x, st = some x → x.2 ≤ r.2 := by
    intro l
    induction l with
    | nil =>
      intro st r e h _
      exact ⟨h r e, by simp, fun x hx => by rw [hx] at e; cases e; exact Nat.le_refl _⟩
    | cons y l ih =>
      intro st r e h hy
      rw [List.foldl_cons] at e
      have hy0 := hy y List.mem_cons_self
      obtain ⟨q1, q2, q3⟩ := ih _ r e (fun x hx => by
        unfold bstep at hx
        split at hx
        · cases hx; exact ⟨rfl, hy0⟩
        · rename_i b k
          split at hx
          · cases hx; exact ⟨rfl, hy0⟩
          · cases hx; exact h _ rfl) fun x hx => hy x (List.mem_cons_of_mem _ hx)
      have h2 : manyOf n ss y ≤ r.2 ∧ ∀ x, st = some x → x.2 ≤ r.2 := by
        cases st with
        | none => exact ⟨q3 (y, manyOf n ss y) rfl, fun x hx => by cases hx⟩
        | some bk =>
          by_cases z : bk.2 < manyOf n ss y
          · have := q3 (y, manyOf n ss y) (by show (if bk.2 < manyOf n ss y then _ else _) = _; rw [if_pos z])
            refine ⟨this, fun x hx => ?_⟩
            cases hx
            simp only at this
            omega
          · have := q3 bk (by show (if bk.2 < manyOf n ss y then _ else _) = _; rw [if_neg z])
            refine ⟨by omega, fun x hx => ?_⟩
            cases hx
            exact this
      exact ⟨q1, fun x hx => by
        rcases List.mem_cons.mp hx with rfl | hx
        · exact h2.1
        · exact q2 x hx, h2.2⟩
  have hpos : 0 < 2 ^ n := Nat.pow_pos (by decide)
  obtain ⟨b, k, e⟩ := best_some (manyOf n ss) (List.range (2 ^ n)) (by intro z; have := congrArg List.length z; simp at this)
  obtain ⟨⟨q1, q2⟩, q3, _⟩ := spec _ none (b, k) e (fun x hx => by cases hx) (fun x hx => by simpa using hx)
  have e2 : manyOf n ss = fun N => (heldOf ss (bitsT n N)).length := funext fun N => many_is ok
  refine ⟨b, k, q2, e, ?_, by rw [← many_is ok]; exact q1, fun N hN => by rw [← many_is ok]; exact q3 N (by simpa using hN)⟩
  rw [answers_bits, best_map, ← e2, e]
  rfl
end
end K66

/-! k66: what is asked; the drawn puzzle. -/
namespace K66
open PySem PySem.Spec PyProof.Rows L2 DL LA
theorem plDs_map {α : Type} {f : α → D} (h : ∀ a, plD (f a) = true) : ∀ l : List α, plDs (l.map f) = true
  | [] => by simp [plDs]
  | a :: l => by simp [plDs, h, plDs_map h l]
theorem pds_map {α : Type} {f : α → D} {k : Nat} (h : ∀ a, pd k (f a) = true) : ∀ l : List α, pds k (l.map f) = true
  | [] => by simp [pds]
  | a :: l => by simp [pds, h, pds_map h l]
theorem ndDs_map {α : Type} {f : α → D} {k : Nat} (h : ∀ a, ndD (f a) ≤ k) : ∀ l : List α, ndDs (l.map f) ≤ k * l.length
  | [] => by simp [ndDs]
  | a :: l => by
    have h1 := h a
    have h2 := ndDs_map h l
    simp only [List.map_cons, ndDs, List.length_cons, Nat.mul_succ]
    omega
theorem plDs_dNs {l : List Nat} : plDs (dNs l) = true := plDs_map (fun _ => by simp [plD]) l
theorem pds_dNs {k : Nat} {l : List Nat} : pds k (dNs l) = true := pds_map (fun _ => by simp [pd]) l
theorem ndDs_dNs {l : List Nat} : ndDs (dNs l) ≤ l.length := by
  have := ndDs_map (f := fun n : Nat => D.int (n : Int)) (k := 1) (fun _ => by simp [ndD]) l
  simpa [dNs] using this
theorem toldN {l : List Nat} {s : Sto} (h : l.length < 19999) : G_law_told [.tup (dNs l), .tup (dNs l)] s = .ok (.bl true) s := law_told plDs_dNs pds_dNs (Nat.lt_of_le_of_lt ndDs_dNs h)
section
variable {m : List MO} {g : Option Rng} {n : Nat} {ss : List Say}
theorem cp_asked {o0 o1 : Option D} {j : Nat} {cs : List Cell} (hj : nget m j = some (.lst (cs.map cellD))) (hl : cs.length ≤ 1000) : cp_law_asked_1 [o0, o1, some (.obj j), none] ⟨m, g⟩ = .ok (.obj m.length) ⟨.lst (cs.map rowD) :: m, g⟩ := by
  unfold cp_law_asked_1
  have hne := Nat.ne_of_lt (nget_lt hj)
  refine eComp_all (m := m) (g := g) (src := ⟨cs.map cellD, some (j, .lst (cs.map cellD))⟩) cellD rowD cs ?_ rfl (fun _ => ?_) (fun c _ => ⟨_, pm_nm, fun acc => ?_⟩) ?_
  · simp [hj]
  · simp [hne, hj]
  · simp [rowD]
  · simp; omega
theorem cells_names (ok : PzOk n ss) : ∀ c ∈ cellsOf ss, c.2.2 < n := by
  intro c hx
  unfold cellsOf at hx
  obtain ⟨y, hy, hc⟩ := List.mem_flatMap.mp hx
  obtain ⟨nm, hnm, e⟩ := List.mem_map.mp hc
  rw [← e]
  exact ok.lt _ (zip_mem hy) _ hnm
theorem asked_eq (ok : PzOk n ss) {a : List Nat} (ha : a.length = n) : G_law_asked [pzD n ss, .tup (dNs a)] ⟨m, g⟩ = .ok (.bl true) ⟨m, g⟩ := fnD_ok (ex := [.lst ((cellsOf ss).map cellD)]) rfl (by
  show endOf (raw_law_asked [some (pzD n ss), some (.tup (dNs a)), none, none] ⟨m, g⟩) = _
  unfold raw_law_asked
  have hc := cells_small ok
  have e1 := law_cells_eq (m := m) (g := g) ok
  have e2 := sayings_table_eq (m := .lst ((cellsOf ss).map cellD) :: m) (g := g) ok
  have e3 := cp_asked (m := .lst ((cellsOf ss).map cellD) :: m) (g := g) (o0 := some (pzD n ss)) (o1 := some (.tup (dNs a))) (j := m.length) (cs := cellsOf ss) (by simp) (by omega)
  have hd : dlts (m.length + 1) ((cellsOf ss).map rowD) = true := dlts_map fun _ _ => by simp [rowD]
  have e4 : ∀ s, G_law_told [.tup ((cellsOf ss).map rowD), .tup ((cellsOf ss).map rowD)] s = .ok (.bl true) s := fun s => law_told (plDs_map (fun _ => by simp [rowD, plD, plDs]) _) (pds_map (fun _ => by simp [rowD, pd, pds]) _) (Nat.lt_of_le_of_lt (ndDs_map (k := 8) (fun _ => by simp [rowD, ndD, ndDs]) _) (by omega))
  have e5 := holding_eq (m := .lst ((cellsOf ss).map cellD) :: m) (g := g) ok ha
  have e6 := held_eq (m := .lst ((cellsOf ss).map cellD) :: m) (g := g) ok ha
  have hh := heldOf_len ok a
  have e7 : ∀ s, G_law_told [.tup (dNs (heldOf ss a)), .tup (dNs (heldOf ss a))] s = .ok (.bl true) s := fun s => toldN (by omega)
  have e8 := rows_of_answer_eq (m := .lst ((cellsOf ss).map cellD) :: m) (g := g) ok ha
  have e9 := first_rows_eq (m := .lst ((cellsOf ss).map cellD) :: m) (g := g) (j := m.length) (cs := cellsOf ss) (a := a) (by simp) (by omega) (fun c h => by rw [ha]; exact cells_names ok c h)
  rw [first_rows_is] at e9
  have hr : (rowsOf ss a).length ≤ 12 := Nat.le_trans rowsFrom_len ok.len
  have e10 : ∀ s, G_law_told [.tup (dNs (rowsOf ss a)), .tup (dNs (rowsOf ss a))] s = .ok (.bl true) s := fun s => toldN (by omega)
  obtain ⟨b, k, _, hb1, hb2, _, _⟩ := best_both ok
  have e11 := best_answer_eq (m := .lst ((cellsOf ss).map cellD) :: m) (g := g) ok hb2
  have e12 := law_most_eq (m := .lst ((cellsOf ss).map cellD) :: m) (g := g) ok hb1
  have hn := ok.n8
  have e13 : ∀ s, G_law_told [.tup [.int (k : Int), ansD (bitsT n b)], .tup [.int (k : Int), ansD (bitsT n b)]] s = .ok (.bl true) s := fun s => law_told (by simp [plDs, plD, ansD, plDs_dNs]) (by simp [pds, pd, ansD, pds_dNs]) (by
    have := ndDs_dNs (l := bitsT n b)
    rw [bitsT_len] at this
    simp [ndDs, ndD, ansD]
    omega)
  have hc2 : (cellsOf ss).length < 1000000 := by omega
  simp [e1, e2, e3, hc2, hd, e4, e5, e6, e7, e8, e9, e10, e11, e12, e13]) rfl
end
end K66

/-! k66: the drawn puzzle, the other puzzle. -/
namespace K66
open PySem PySem.Spec PyProof.Rows L2 DL LA
theorem perm_of_map {α β : Type} {f : α → β} {h : β → α} (hf : ∀ a, h (f a) = a) {res : List β} {l : List α} (p : res.Perm (l.map f)) : ∃ q : List α, res = q.map f ∧ q.Perm l := by
  refine ⟨res.map h, ?_, ?_⟩
  · rw [List.map_map]
    refine ((List.map_congr_left fun x hx => ?_).trans (List.map_id _)).symm
    obtain ⟨a, _, rfl⟩ := List.mem_map.mp (p.mem_iff.mp hx)
    simp [hf]
  · have := p.map h
    rw [List.map_map] at this
    have e : (h ∘ f) = id := funext fun a => hf a
    rw [e, List.map_id] at this
    exact this
def natD : D → Nat
  | .int i => i.toNat
  | _ => 0
theorem perm_dNs {res : List D} {l : List Nat} (p : res.Perm (dNs l)) : ∃ q : List Nat, res = dNs q ∧ q.Perm l := perm_of_map (f := fun n : Nat => D.int (n : Int)) (h := natD) (fun a => by simp [natD]) p
theorem isort_nat (l : List Nat) : ∃ q : List Nat, (isort (l.map fun n : Nat => (n : Int))).map D.int = dNs q ∧ q.Perm l := by
  obtain ⟨q, e, p⟩ := perm_of_map (f := fun n : Nat => (n : Int)) (h := Int.toNat) (fun a => by simp) (isort_perm (l.map fun n : Nat => (n : Int)))
  exact ⟨q, by rw [e, List.map_map]; rfl, p⟩
@[simp] theorem isort_length {l : List Int} : (isort l).length = l.length := (isort_perm l).length_eq
theorem dNs_take {l : List Nat} {k : Nat} : (dNs l).take k = dNs (l.take k) := by simp [dNs, List.map_take]
/-- members of a saying among n names -/
structure MemOk (n : Nat) (x : List Nat) : Prop where
  ne : x ≠ []
  nd : x.Nodup
  lt : ∀ i ∈ x, i < n
  w5 : x.length ≤ 5
structure SayOk (n : Nat) (ss : List Say) : Prop where
  sg : ∀ x ∈ ss, x.1 < 2
  me : ∀ x ∈ ss, MemOk n x.2
section
variable {m : List MO} {n : Nat}
theorem pds_say (ss : List Say) : pds 50 (ss.map sayD) = true := pds_map (fun x => by simp [sayD, pd, pds, pds_dNs]) ss
theorem deqs_nil {α : Type} (f : α → D) (l : List α) : deqs (l.map f) [] = l.isEmpty := by cases l <;> simp [deqs]
theorem drawn_step {o1 o3 o6 o7 : Option D} {ss : List Say} {w : Nat} {r : Rng} (hn : 1 ≤ n) (hn8 : n ≤ 8) (hw : 1 ≤ w) (hw5 : w ≤ 5) (hl : ss.length ≤ 11) (ok : SayOk n ss) : ∃ (x : Say) (r' : Rng) (o7' : Option D), x.1 < 2 ∧ MemOk n x.2 ∧
    lp_law_drawn_puzzle_1 [some (.rng false), o1, some (.int (n : Int)), o3, some (.int (w : Int)), some (.obj m.length), o6, o7] ⟨.lst (ss.map sayD) :: m, some r⟩ = .nx [some (.rng false), o1, some (.int (n : Int)), o3, some (.int (w : Int)), some (.obj m.length), o6, o7'] ⟨.lst ((ss ++ [x]).map sayD) :: m, some r'⟩ := by
  obtain ⟨i, r1, hi, e1⟩ := law_drawE (k := min (n : Int) (w : Int)) (.lst (dNs (List.range n)) :: .lst (ss.map sayD) :: m) r (by omega) (by omega)
  obtain ⟨res, r2, p, e2⟩ := law_some (.lst (dNs (List.range n)) :: .lst (ss.map sayD) :: m) r1 (d := .obj (m.length + 1)) (l := dNs (List.range n)) (k := 1 + i) (opList_O (by simp)) (by simp; omega) (by simp)
  obtain ⟨q, rfl, pq⟩ := perm_dNs p
  obtain ⟨u, eu, pu⟩ := isort_nat (q.take (1 + i))
  rw [dNs_take] at e2
  have ei : ((1 + i : Nat) : Int) = 1 + (i : Int) := by omega
  rw [ei] at e2
  have hq : q.length = n := by have := pq.length_eq; simpa using this
  have hu : u.length = 1 + i := by rw [pu.length_eq, List.length_take, hq]; omega
  have mu : MemOk n u := by
    refine ⟨fun z => by rw [z] at hu; simp at hu; omega, ?_, fun j hj => ?_, by omega⟩
    · exact (pu.nodup_iff).mpr (List.Nodup.sublist (List.take_sublist _ _) (pq.nodup_iff.mpr List.nodup_range))
    · have := pq.mem_iff.mp (List.mem_of_mem_take (pu.mem_iff.mp hj))
      simpa using this
  obtain ⟨k, r3, hk, e3⟩ := law_drawE (k := 3) (.lst (ss.map sayD) :: m) r2 (by decide) (by decide)
  have h1 : -4611686018427387904 ≤ (n : Int) := by omega
  have h2 : (n : Int) < 1000000 := by omega
  have h3 : ss.length < 1000000 := by omega
  have hq2 : (q.take (1 + i)).length < 1000000 := by rw [List.length_take]; omega
  have hu2 : u.length < 1000000 := by omega
  generalize q.take (1 + i) = v at *
  have hd1 : ∀ k, dlts k (ss.map sayD) = true := fun k => dlts_map fun _ _ => by simp [sayD]
  by_cases hs : ss = []
  · subst hs
    obtain ⟨b, r4, hb, e4⟩ := law_drawE (k := 2) (.lst [] :: m) r2 (by decide) (by decide)
    have hb : b < 2 := by omega
    refine ⟨(b, u), r4, some (.tup (dNs u)), hb, mu, ?_⟩
    simp at e1 e2 e3 e4
    have eR : rgD n = dNs (List.range n) := rfl
    simp [lp_law_drawn_puzzle_1, h1, h2, eR, e1, e2, eu, hq2, hu2, deqs, pds, e4, sayD]
  · have hse : ss.isEmpty = false := by simpa using hs
    have eR : rgD n = dNs (List.range n) := rfl
    by_cases hk1 : k = 1
    · obtain ⟨j, d, r4, hj, e4⟩ := law_pickL (.lst (ss.map sayD) :: m) r3 (n := m.length) (l := ss.map sayD) (by simp) (by simpa using hs) (by simp; omega) (hd1 _)
      rw [List.getElem?_map] at hj
      obtain ⟨x, hx, rfl⟩ := Option.map_eq_some_iff.mp hj
      obtain ⟨b, r5, hb, e5⟩ := law_drawE (k := 2) (.lst (ss.map sayD) :: m) r4 (by decide) (by decide)
      have hb : b < 2 := by omega
      refine ⟨(b, x.2), r5, some (.tup (dNs x.2)), hb, ok.me x (List.mem_of_getElem? hx), ?_⟩
      subst hk1
      simp at e1 e2 e3 e4 e5
      simp [lp_law_drawn_puzzle_1, h1, h2, h3, eR, e1, e2, e3, e4, e5, eu, hq2, hu2, hd1, pds_say, pds, deqs_nil, hse, sayD]
    · obtain ⟨b, r5, hb, e5⟩ := law_drawE (k := 2) (.lst (ss.map sayD) :: m) r3 (by decide) (by decide)
      have hb : b < 2 := by omega
      have hk2 : ¬ (k : Int) = 1 := by omega
      refine ⟨(b, u), r5, some (.tup (dNs u)), hb, mu, ?_⟩
      simp at e1 e2 e3 e5
      simp [lp_law_drawn_puzzle_1, h1, h2, h3, eR, e1, e2, e3, e5, eu, hq2, hu2, hd1, pds_say, pds, deqs_nil, hse, sayD, hk2]
theorem drawn_loop {o1 o3 : Option D} {w : Nat} {src : Src} (hsrc : ∀ s, src.ok s) (hn : 1 ≤ n) (hn8 : n ≤ 8) (hw : 1 ≤ w) (hw5 : w ≤ 5) : ∀ (ks : List Nat) (ss : List Say) (o6 o7 : Option D) (r : Rng), ss.length + ks.length ≤ 12 → SayOk n ss →
    ∃ (ss' : List Say) (r' : Rng) (o6' o7' : Option D), ss'.length ≤ 12 ∧ SayOk n ss' ∧ forL src (.nm 6) lp_law_drawn_puzzle_1 (ks.map fun k : Nat => .int (k : Int)) [some (.rng false), o1, some (.int (n : Int)), o3, some (.int (w : Int)), some (.obj m.length), o6, o7] ⟨.lst (ss.map sayD) :: m, some r⟩ =
      .nx [some (.rng false), o1, some (.int (n : Int)), o3, some (.int (w : Int)), some (.obj m.length), o6', o7'] ⟨.lst (ss'.map sayD) :: m, some r'⟩
  | [], ss, o6, o7, r, hl, ok => ⟨ss, r, o6, o7, by simpa using hl, ok, forL_nil (hsrc _)⟩
  | k :: ks, ss, o6, o7, r, hl, ok => by
    simp only [List.length_cons] at hl
    obtain ⟨x, r1, o7', hx1, hx2, e⟩ := drawn_step (m := m) (o1 := o1) (o3 := o3) (o6 := some (.int (k : Int))) (o7 := o7) (r := r) hn hn8 hw hw5 (by omega) ok
    obtain ⟨ss', r', o6', o7'', h1, h2, e2⟩ := drawn_loop hsrc hn hn8 hw hw5 ks (ss ++ [x]) (some (.int (k : Int))) o7' r1 (by simp; omega) ⟨fun y hy => by
      rcases List.mem_append.mp hy with h | h
      · exact ok.sg y h
      · simp at h; subst h; exact hx1, fun y hy => by
      rcases List.mem_append.mp hy with h | h
      · exact ok.me y h
      · simp at h; subst h; exact hx2⟩
    refine ⟨ss', r', o6', o7'', h1, h2, ?_⟩
    have e3 : lp_law_drawn_puzzle_1 (setAll [some (.rng false), o1, some (.int (n : Int)), o3, some (.int (w : Int)), some (.obj m.length), o6, o7] [(6, .int (k : Int))]) ⟨.lst (ss.map sayD) :: m, some r⟩ = _ := e
    rw [List.map_cons, forL_nx (hsrc _) pm_nm e3, e2]
theorem SayOk.pz {ss : List Say} (h : SayOk n ss) (h1 : 1 ≤ n) (h8 : n ≤ 8) (hl : ss.length ≤ 12) : PzOk n ss := ⟨h1, h8, hl, h.sg, fun x hx => (h.me x hx).ne, fun x hx => (h.me x hx).nd, fun x hx => (h.me x hx).lt, fun x hx => (h.me x hx).w5⟩
theorem pz_dlt {k n : Nat} {ss : List Say} : dlt k (pzD n ss) = true := by
  simp only [pzD, dlt_tup, dlts_cons, dlt_int, dlts_nil, Bool.and_true, Bool.true_and]
  exact dlts_map fun _ _ => by simp [sayD]
theorem drawn_eq (m : List MO) (r : Rng) : ∃ (n : Nat) (ss : List Say) (r' : Rng), PzOk n ss ∧ G_law_drawn_puzzle [.rng false] ⟨m, some r⟩ = .ok (pzD n ss) ⟨m, some r'⟩ := by
  suffices h : ∃ (n : Nat) (ss : List Say) (r' : Rng), PzOk n ss ∧ endOf (raw_law_drawn_puzzle [some (.rng false), none, none, none, none, none, none, none] ⟨m, some r⟩) = .ok (pzD n ss) ⟨.lst (ss.map sayD) :: m, some r'⟩ by
    obtain ⟨n, ss, r', ok, e⟩ := h
    exact ⟨n, ss, r', ok, fnD_ok (ex := [.lst (ss.map sayD)]) rfl e pz_dlt⟩
  unfold raw_law_drawn_puzzle
  obtain ⟨way, r1, hw, e1⟩ := law_drawE (k := 8) m r (by decide) (by decide)
  obtain ⟨a2, r2, h2, e2⟩ := law_drawE (k := 5) m r1 (by decide) (by decide)
  obtain ⟨a3, r3, h3, e3⟩ := law_drawE (k := 7) m r2 (by decide) (by decide)
  have fin : ∀ (n many w : Nat) (r : Rng), 1 ≤ n → n ≤ 8 → many ≤ 12 → 1 ≤ w → w ≤ 5 → ∃ (ss : List Say) (r' : Rng) (o6 o7 : Option D), ss.length < 1000000 ∧ PzOk n ss ∧
      forL ⟨rgD many, none⟩ (.nm 6) lp_law_drawn_puzzle_1 (rgD many) [some (.rng false), some (.int (way : Int)), some (.int (n : Int)), some (.int (many : Int)), some (.int (w : Int)), some (.obj m.length), none, none] ⟨.lst [] :: m, some r⟩ =
        .nx [some (.rng false), some (.int (way : Int)), some (.int (n : Int)), some (.int (many : Int)), some (.int (w : Int)), some (.obj m.length), o6, o7] ⟨.lst (ss.map sayD) :: m, some r'⟩ := by
    intro n many w r h1 h8 hm hw hw5
    obtain ⟨ss, r', o6, o7, hl, ok, e⟩ := drawn_loop (m := m) (o1 := some (.int (way : Int))) (o3 := some (.int (many : Int))) (src := ⟨rgD many, none⟩) (fun _ => okN) h1 h8 hw hw5 (List.range many) [] none none r (by simpa using hm) ⟨by simp, by simp⟩
    exact ⟨ss, r', o6, o7, by omega, ok.pz h1 h8 hl, e⟩
  by_cases w3 : way = 3
  · obtain ⟨a4, r4, h4, e4⟩ := law_drawE (k := 8) m r3 (by decide) (by decide)
    obtain ⟨a5, r5, h5, e5⟩ := law_drawE (k := 5) m r4 (by decide) (by decide)
    subst w3
    obtain ⟨ss, r', o6, o7, hl, ok, e⟩ := fin (1 + a4) (8 + a5) 5 r5 (by omega) (by omega) (by omega) (by decide) (by decide)
    refine ⟨1 + a4, ss, r', ok, ?_⟩
    have q1 : (8 + (a5 : Int)).toNat = 8 + a5 := by omega
    have q2 : -4611686018427387904 ≤ 8 + (a5 : Int) := by omega
    have q3 : 8 + (a5 : Int) < 4611686018427387904 := by omega
    simp at e1 e
    simp [e1, e2, e3, e4, e5, q1, q2, q3, e, hl, pzD]
  · have w3' : ¬ (way : Int) = 3 := by omega
    by_cases w5 : way = 5
    · obtain ⟨a4, r4, h4, e4⟩ := law_drawE (k := 2) m r3 (by decide) (by decide)
      subst w5
      obtain ⟨ss, r', o6, o7, hl, ok, e⟩ := fin (7 + a4) a3 2 r4 (by omega) (by omega) (by omega) (by decide) (by decide)
      refine ⟨7 + a4, ss, r', ok, ?_⟩
      have q2 : -4611686018427387904 ≤ (a3 : Int) := by omega
      have q3 : (a3 : Int) < 4611686018427387904 := by omega
      simp at e1 e
      simp [e1, e2, e3, e4, q2, q3, e, hl, pzD]
    · have w5' : ¬ (way : Int) = 5 := by omega
      obtain ⟨ss, r', o6, o7, hl, ok, e⟩ := fin (1 + a2) a3 3 r3 (by omega) (by omega) (by omega) (by decide) (by decide)
      refine ⟨1 + a2, ss, r', ok, ?_⟩
      have q2 : -4611686018427387904 ≤ (a3 : Int) := by omega
      have q3 : (a3 : Int) < 4611686018427387904 := by omega
      simp at e
      simp [e1, e2, e3, w3', w5', q2, q3, e, hl, pzD]
theorem other_eq (m : List MO) (r : Rng) {n : Nat} {ss : List Say} (ok : PzOk n ss) : ∃ (n' : Nat) (ss' : List Say) (r' : Rng), PzOk n' ss' ∧ G_law_other [.rng false, pzD n ss] ⟨m, some r⟩ = .ok (pzD n' ss') ⟨m, some r'⟩ := by
  suffices h : ∃ (n' : Nat) (ss' : List Say) (r' : Rng), PzOk n' ss' ∧ endOf (raw_law_other [some (.rng false), some (pzD n ss), none, none, none, none, none] ⟨m, some r⟩) = .ok (pzD n' ss') ⟨m, some r'⟩ by
    obtain ⟨n', ss', r', ok', e⟩ := h
    exact ⟨n', ss', r', ok', fnD_ok (ex := []) rfl e pz_dlt⟩
  unfold raw_law_other
  have hn1 := ok.n1
  have hn8 := ok.n8
  have hp := pds_map (f := sayD) (k := 49) (fun x => by simp [sayD, pd, pds, pds_dNs]) ss
  have up : ∀ n', n ≤ n' → n' ≤ 8 → PzOk n' ss := fun n' h1 h2 => ⟨by omega, h2, ok.len, ok.sg, ok.ne, ok.nd, fun x hx i hi => by have := ok.lt x hx i hi; omega, ok.w5⟩
  by_cases hs : ss = []
  · subst hs
    by_cases h8 : n < 8
    · refine ⟨n + 1, [], r, up _ (by omega) (by omega), ?_⟩
      have h8' : (n : Int) < 8 := by omega
      simp [pzD, pd, pds, deqs, h8']
    · refine ⟨7, [], r, ⟨by decide, by decide, by simp, by simp, by simp, by simp, by simp, by simp⟩, ?_⟩
      have h8' : ¬ (n : Int) < 8 := by omega
      simp [pzD, pd, pds, deqs, h8']
  · have hse : ss.isEmpty = false := by simpa using hs
    have hlen : 0 < ss.length := List.length_pos_iff.mpr hs
    have hl := ok.len
    have rest : ∀ r1 : Rng, ∃ (p : Nat) (r2 : Rng) (hp : p < ss.length), G_law_draw [.rng false, .int (ss.length : Nat)] ⟨m, some r1⟩ = .ok (.int (p : Int)) ⟨m, some r2⟩ ∧ PzOk n (ss.take p ++ [(1 - ss[p].1, ss[p].2)] ++ ss.drop (p + 1)) ∧ ((1 - ss[p].1 : Nat) : Int) = 1 - (ss[p].1 : Int) := by
      intro r1
      obtain ⟨p, r2, hp, e⟩ := law_drawE (k := ss.length) m r1 (by omega) (by omega)
      have hp : p < ss.length := by omega
      have hx : ss[p] ∈ ss := List.getElem_mem hp
      have hsg := ok.sg _ hx
      have hin : ∀ y ∈ ss.take p ++ [((1 - ss[p].1, ss[p].2) : Say)] ++ ss.drop (p + 1), y ∈ ss ∨ y = (1 - ss[p].1, ss[p].2) := by
        intro y hy
        rw [List.mem_append, List.mem_append] at hy
        rcases hy with (h | h) | h
        · exact .inl (List.mem_of_mem_take h)
        · simp at h; exact .inr h
        · exact .inl (List.mem_of_mem_drop h)
      have hsg2 := ok.sg ss[p] hx
      refine ⟨p, r2, hp, e, ⟨hn1, hn8, by simp; omega, fun y hy => ?_, fun y hy => ?_, fun y hy => ?_, fun y hy => ?_, fun y hy => ?_⟩, by omega⟩
      · rcases hin y hy with h | rfl
        · exact ok.sg y h
        · show 1 - ss[p].1 < 2; omega
      · rcases hin y hy with h | rfl
        · exact ok.ne y h
        · exact ok.ne ss[p] hx
      · rcases hin y hy with h | rfl
        · exact ok.nd y h
        · exact ok.nd ss[p] hx
      · rcases hin y hy with h | rfl
        · exact ok.lt y h
        · exact ok.lt ss[p] hx
      · rcases hin y hy with h | rfl
        · exact ok.w5 y h
        · exact ok.w5 ss[p] hx
    have hq : pds 49 ([] : List D) = true := by simp [pds]
    by_cases h8 : n < 8
    · have h8' : (n : Int) < 8 := by omega
      obtain ⟨k, r1, hk, e⟩ := law_drawE (k := 3) m r (by decide) (by decide)
      by_cases hk1 : k = 1
      · subst hk1
        refine ⟨n + 1, ss, r1, up _ (by omega) (by omega), ?_⟩
        simp at e
        simp [pzD, pd, hp, hq, deqs_nil, hse, h8', e]
      · obtain ⟨p, r2, hp', e2, ok', q1⟩ := rest r1
        have hk2 : ¬ (k : Int) = 1 := by omega
        have q2 : ((p : Int) + 1) = ((p + 1 : Nat) : Int) := by omega
        have q3 : min p ss.length + 1 < 1000000 := by omega
        have q5 : min p ss.length + (ss.length - (p + 1) + 1) < 1000000 := by omega
        refine ⟨n, _, r2, ok', ?_⟩
        simp [pzD, pd, hp, hq, deqs_nil, hse, h8', e, hk2, e2, hp', sayD, cutD_to, q1, q2, cutD_from, q3, q5, -Int.natCast_add, List.map_take, List.map_drop]
    · have h8' : ¬ (n : Int) < 8 := by omega
      obtain ⟨p, r2, hp', e2, ok', q1⟩ := rest r
      have q2 : ((p : Int) + 1) = ((p + 1 : Nat) : Int) := by omega
      have q3 : min p ss.length + 1 < 1000000 := by omega
      have q5 : min p ss.length + (ss.length - (p + 1) + 1) < 1000000 := by omega
      refine ⟨n, _, r2, ok', ?_⟩
      simp [pzD, pd, hp, hq, deqs_nil, hse, h8', e2, hp', sayD, cutD_to, q1, q2, cutD_from, q3, q5, -Int.natCast_add, List.map_take, List.map_drop]
end
end K66

/-! k66: the plain law: peaceful rows and sayings that hold. -/
namespace K66
open DL LA
theorem nodup_sub {α : Type} [BEq α] [LawfulBEq α] : ∀ {l k : List α}, l.Nodup → (∀ x ∈ l, x ∈ k) → l.length ≤ k.length
  | [], k, _, _ => by simp
  | x :: l, k, nd, h => by
    obtain ⟨n1, n2⟩ := List.nodup_cons.mp nd
    have hx := h x List.mem_cons_self
    have := nodup_sub (k := k.erase x) n2 fun y hy => by
      have : y ≠ x := fun z => n1 (z ▸ hy)
      exact (List.mem_erase_of_ne this).mpr (h y (List.mem_cons_of_mem _ hy))
    rw [List.length_erase_of_mem hx] at this
    have h3 : 0 < k.length := List.length_pos_of_mem hx
    simp; omega
def rules : List (Nat × Nat) := [(3, 4), (4, 2)]
def rwOf (c : Cell) : Rw := ⟨0, 0, 1, [c.1, c.2.1, c.2.2]⟩
def nearOf (ss : List Say) : List Nat := webOf rules ((cellsOf ss).map rwOf)
def ClashC (c d : Cell) : Prop := (c.1 = d.1 ∧ c.2.1 = d.2.1 ∧ c.2.2 ≠ d.2.2) ∨ (c.2.2 = d.2.2 ∧ c.2.1 ≠ d.2.1)
theorem clash_is (c d : Cell) : clashOf rules [c.1, c.2.1, c.2.2] [d.1, d.2.1, d.2.2] = true ↔ ClashC c d := by
  obtain ⟨a, b, e⟩ := c
  obtain ⟨x, y, z⟩ := d
  have hr : List.range 3 = [0, 1, 2] := rfl
  unfold ClashC
  by_cases h1 : a = x <;> by_cases h2 : b = y <;> by_cases h3 : e = z <;> simp [clashOf, rules, agreeOf, withinB, maskOf, hr, h1, h2, h3]
theorem ClashC.symm {c d : Cell} (h : ClashC c d) : ClashC d c := by
  rcases h with ⟨h1, h2, h3⟩ | ⟨h1, h2⟩
  · exact .inl ⟨h1.symm, h2.symm, fun z => h3 z.symm⟩
  · exact .inr ⟨h1.symm, fun z => h2 z.symm⟩
theorem ClashC.irr {c : Cell} : ¬ ClashC c c := by
  rintro (⟨h1, h2, h3⟩ | ⟨h1, h2⟩)
  · exact h3 rfl
  · exact h2 rfl
section
variable {n : Nat} {ss : List Say}
theorem near_len : (nearOf ss).length = (cellsOf ss).length := by simp [nearOf, webOf]
theorem near_bit {r j : Nat} {c : Cell} (hc : (cellsOf ss)[r]? = some c) : ((nearOf ss).getD r 0).testBit j = true ↔ ∃ d, (cellsOf ss)[j]? = some d ∧ ClashC c d := by
  have hr : r < (cellsOf ss).length := (List.getElem?_eq_some_iff.mp hc).1
  have e : (nearOf ss)[r]? = some (maskOf ((List.range (cellsOf ss).length).filter fun k => clashOf rules [c.1, c.2.1, c.2.2] ((((cellsOf ss).map rwOf).map Rw.c).getD k []))) := by
    unfold nearOf webOf
    rw [List.getElem?_map, List.getElem?_map, hc]
    simp [rwOf]
  rw [List.getD_eq_getElem?_getD, e, Option.getD_some, testBit_maskOf, decide_eq_true_iff, List.mem_filter, List.mem_range]
  constructor
  · rintro ⟨h1, h2⟩
    refine ⟨(cellsOf ss)[j], by simp [h1], ?_⟩
    rw [List.getD_eq_getElem?_getD, List.getElem?_map, List.getElem?_map, List.getElem?_eq_getElem h1] at h2
    exact (clash_is _ _).mp h2
  · rintro ⟨d, h1, h2⟩
    have hj := (List.getElem?_eq_some_iff.mp h1).1
    refine ⟨hj, ?_⟩
    rw [List.getD_eq_getElem?_getD, List.getElem?_map, List.getElem?_map, h1]
    exact (clash_is _ _).mpr h2
/-- a peaceful set of rows, as a mask -/
structure Calm (ss : List Say) (k : Nat) : Prop where
  lt : k < 2 ^ (cellsOf ss).length
  no : ∀ r j c d, k.testBit r = true → k.testBit j = true → (cellsOf ss)[r]? = some c → (cellsOf ss)[j]? = some d → ¬ ClashC c d
theorem Calm.at {k : Nat} (h : Calm ss k) {r : Nat} (hr : k.testBit r = true) : ∃ c, (cellsOf ss)[r]? = some c := by
  have := testBit_lt h.lt hr
  exact ⟨(cellsOf ss)[r], by simp [this]⟩
theorem Calm.row {k r : Nat} (h : Calm ss k) (hr : k.testBit r = true) : (nearOf ss).getD r 0 &&& k = 0 := by
  obtain ⟨c, hc⟩ := h.at hr
  apply Nat.eq_of_testBit_eq
  intro j
  rw [Nat.testBit_and, Nat.zero_testBit]
  cases z : k.testBit j with
  | false => simp
  | true =>
    rw [Bool.and_true]
    apply Bool.eq_false_iff.mpr
    intro y
    obtain ⟨d, h1, h2⟩ := (near_bit hc).mp y
    exact h.no r j c d hr z hc h1 h2
theorem Calm.calm {k : Nat} (h : Calm ss k) : calmOf (nearOf ss) k = true := by
  unfold calmOf
  rw [List.all_eq_true]
  intro r hr
  simp only [beq_iff_eq]
  exact h.row (mem_bitsOf.mp hr)
theorem Calm.zero : Calm ss 0 := ⟨Nat.pow_pos (by decide), fun r j c d h => by simp at h⟩
theorem Calm.put {k r : Nat} (h : Calm ss k) (hr : r < (cellsOf ss).length) (h0 : (nearOf ss).getD r 0 &&& k = 0) : Calm ss (k ||| 2 ^ r) := by
  have hc : (cellsOf ss)[r]? = some (cellsOf ss)[r] := by simp [hr]
  have key : ∀ j d, k.testBit j = true → (cellsOf ss)[j]? = some d → ¬ ClashC (cellsOf ss)[r] d := by
    intro j d hj hd z
    have := (near_bit hc).mpr ⟨d, hd, z⟩
    have q : ((nearOf ss).getD r 0 &&& k).testBit j = true := by rw [Nat.testBit_and, this, hj]; rfl
    rw [h0] at q
    simp at q
  refine ⟨Nat.or_lt_two_pow h.lt (Nat.pow_lt_pow_right (by decide) hr), fun i j c d hi hj hci hdj => ?_⟩
  rw [Nat.testBit_or, Nat.testBit_two_pow] at hi hj
  simp only [Bool.or_eq_true, decide_eq_true_iff] at hi hj
  rcases hi with hi | rfl
  · rcases hj with hj | rfl
    · exact h.no i j c d hi hj hci hdj
    · rw [hc] at hdj
      cases hdj
      exact fun z => key i c hi hci z.symm
  · rw [hc] at hci
    cases hci
    rcases hj with hj | rfl
    · exact key j d hj hdj
    · rw [hc] at hdj
      cases hdj
      exact ClashC.irr
/-! ### the cells -/
def cellsFrom (k : Nat) (ss : List Say) : List Cell := (ss.zipIdx k).flatMap cellsP
theorem cellsFrom_cons {k : Nat} {x : Say} {t : List Say} : cellsFrom k (x :: t) = x.2.map (fun nm => ((k, x.1, nm) : Cell)) ++ cellsFrom (k + 1) t := rfl
theorem cell_say : ∀ {ss : List Say} {k r : Nat} {c : Cell}, (cellsFrom k ss)[r]? = some c → k ≤ c.1 ∧ ∃ x, ss[c.1 - k]? = some x ∧ c.2.1 = x.1 ∧ c.2.2 ∈ x.2
  | [], k, r, c, h => by simp [cellsFrom] at h
  | x :: t, k, r, c, h => by
    rw [cellsFrom_cons] at h
    rcases Nat.lt_or_ge r (x.2.map (fun nm => ((k, x.1, nm) : Cell))).length with hr | hr
    · rw [List.getElem?_append_left hr, List.getElem?_map] at h
      obtain ⟨nm, h1, rfl⟩ := Option.map_eq_some_iff.mp h
      exact ⟨Nat.le_refl _, x, by simp, rfl, List.mem_of_getElem? h1⟩
    · rw [List.getElem?_append_right hr] at h
      obtain ⟨h1, y, h2, h3, h4⟩ := cell_say h
      refine ⟨by omega, y, ?_, h3, h4⟩
      rw [show c.1 - k = (c.1 - (k + 1)) + 1 by omega, List.getElem?_cons_succ]
      exact h2
/-- in a saying each member stands once -/
theorem cell_inj (nd : ∀ x ∈ ss, x.2.Nodup) : ∀ {k r j : Nat} {c : Cell}, (cellsFrom k ss)[r]? = some c → (cellsFrom k ss)[j]? = some c → r = j := by
  induction ss with
  | nil => intro k r j c h; simp [cellsFrom] at h
  | cons x t ih =>
    intro k r j c h1 h2
    rw [cellsFrom_cons] at h1 h2
    have hl : (x.2.map (fun nm => ((k, x.1, nm) : Cell))).length = x.2.length := by simp
    have left : ∀ {r : Nat}, r < x.2.length → (x.2.map (fun nm => ((k, x.1, nm) : Cell)) ++ cellsFrom (k + 1) t)[r]? = some c → c.1 = k ∧ x.2[r]? = some c.2.2 := by
      intro r hr h
      rw [List.getElem?_append_left (by rw [hl]; exact hr), List.getElem?_map] at h
      obtain ⟨nm, h5, rfl⟩ := Option.map_eq_some_iff.mp h
      exact ⟨rfl, h5⟩
    have right : ∀ {r : Nat}, x.2.length ≤ r → (x.2.map (fun nm => ((k, x.1, nm) : Cell)) ++ cellsFrom (k + 1) t)[r]? = some c → k + 1 ≤ c.1 ∧ (cellsFrom (k + 1) t)[r - x.2.length]? = some c := by
      intro r hr h
      rw [List.getElem?_append_right (by rw [hl]; exact hr), hl] at h
      exact ⟨(cell_say h).1, h⟩
    rcases Nat.lt_or_ge r x.2.length with hr | hr
    · rcases Nat.lt_or_ge j x.2.length with hj | hj
      · have e1 := (left hr h1).2
        have e2 := (left hj h2).2
        exact (List.getElem?_inj hr (nd x List.mem_cons_self)).mp (e1.trans e2.symm)
      · have := (left hr h1).1
        have := (right hj h2).1
        omega
    · rcases Nat.lt_or_ge j x.2.length with hj | hj
      · have := (left hj h2).1
        have := (right hr h1).1
        omega
      · have := ih (fun y hy => nd y (List.mem_cons_of_mem _ hy)) (right hr h1).2 (right hj h2).2
        omega
/-! ### the answer of a peaceful set -/
theorem astep_get {ch : List Nat} {nm s : Nat} : ∀ (l : List (Cell × Nat)) (a : List Nat), nm < a.length → (∀ x ∈ l, x.2 ∈ ch → x.1.2.2 = nm → x.1.2.1 = s) → (a.getD nm 0 = s ∨ ∃ x ∈ l, x.2 ∈ ch ∧ x.1.2.2 = nm) → (l.foldl (astep ch) a).getD nm 0 = s
  | [], a, _, _, h => by
    rcases h with h | ⟨x, h, _⟩
    · exact h
    · simp at h
  | x :: l, a, hl, h1, h2 => by
    rw [List.foldl_cons]
    refine astep_get l _ (by unfold astep; split <;> simpa using hl) (fun y hy => h1 y (List.mem_cons_of_mem _ hy)) ?_
    by_cases hx : x.2 ∈ ch
    · by_cases hn : x.1.2.2 = nm
      · left
        have e := h1 x List.mem_cons_self hx hn
        unfold astep
        rw [if_pos hx, hn, e, List.getD_eq_getElem?_getD, List.getElem?_set_self hl]
        rfl
      · rcases h2 with h2 | ⟨y, hy, hy1, hy2⟩
        · left
          unfold astep
          rw [if_pos hx, List.getD_eq_getElem?_getD, List.getElem?_set_ne hn, ← List.getD_eq_getElem?_getD]
          exact h2
        · rcases List.mem_cons.mp hy with rfl | hy
          · exact absurd hy2 hn
          · exact .inr ⟨y, hy, hy1, hy2⟩
    · rcases h2 with h2 | ⟨y, hy, hy1, hy2⟩
      · left
        unfold astep
        rw [if_neg hx]
        exact h2
      · rcases List.mem_cons.mp hy with rfl | hy
        · exact absurd hy1 hx
        · exact .inr ⟨y, hy, hy1, hy2⟩
theorem bits_range {k L : Nat} (h : k < 2 ^ L) : bitsOf k = (List.range L).filter k.testBit := by
  have s1 : (bitsOf k).Pairwise (· < ·) := by
    unfold bitsOf
    exact List.Pairwise.filter _ List.pairwise_lt_range
  have s2 : ((List.range L).filter k.testBit).Pairwise (· < ·) := List.Pairwise.filter _ List.pairwise_lt_range
  have p : (bitsOf k).Perm ((List.range L).filter k.testBit) := by
    apply (List.perm_ext_iff_of_nodup (s1.imp fun h => Nat.ne_of_lt h) (s2.imp fun h => Nat.ne_of_lt h)).mpr
    intro i
    rw [mem_bitsOf, List.mem_filter, List.mem_range]
    exact ⟨fun z => ⟨testBit_lt h z, z⟩, fun z => z.2⟩
  exact List.Perm.eq_of_pairwise (fun x y _ _ h1 h2 => by omega) s1 s2 p
theorem Calm.signs {k : Nat} (ok : PzOk n ss) (h : Calm ss k) {r : Nat} {c : Cell} (hr : k.testBit r = true) (hc : (cellsOf ss)[r]? = some c) : (ansOf n (cellsOf ss) (bitsOf k)).getD c.2.2 0 = c.2.1 := by
  unfold ansOf
  refine astep_get _ _ ?_ (fun x hx hx1 hx2 => ?_) (.inr ⟨(c, r), ?_, mem_bitsOf.mpr hr, rfl⟩)
  · rw [List.length_replicate]
    exact cells_names ok c (List.mem_of_getElem? hc)
  · have := h.no x.2 r x.1 c (mem_bitsOf.mp hx1) hr (zip_get hx) hc
    apply Classical.byContradiction
    intro z
    exact this (.inr ⟨hx2, z⟩)
  · rw [List.mem_zipIdx_iff_getElem?]
    exact hc
theorem held_mem {a : List Nat} {i : Nat} {x : Say} (hx : ss[i]? = some x) (h : holds x a = true) : i ∈ heldOf ss a := by
  unfold heldOf heldP
  rw [List.mem_map]
  refine ⟨(x, i), ?_, rfl⟩
  rw [List.mem_filter, List.mem_zipIdx_iff_getElem?]
  exact ⟨hx, h⟩
/-- as many sayings hold as there are rows -/
theorem Calm.count {k : Nat} (ok : PzOk n ss) (h : Calm ss k) : (bitsOf k).length ≤ (heldOf ss (ansOf n (cellsOf ss) (bitsOf k))).length := by
  have hget : ∀ r ∈ bitsOf k, ∃ c, (cellsOf ss)[r]? = some c := fun r hr => h.at (mem_bitsOf.mp hr)
  have nd : (bitsOf k).Nodup := by unfold bitsOf; exact List.Nodup.sublist List.filter_sublist List.nodup_range
  have nd2 : ((bitsOf k).map fun r => ((cellsOf ss)[r]?.map (·.1)).getD 0).Nodup := by
    refine List.pairwise_map.mpr (List.Pairwise.imp_of_mem ?_ nd)
    intro r j hr hj hne z
    obtain ⟨c, hc⟩ := hget r hr
    obtain ⟨d, hd⟩ := hget j hj
    rw [hc, hd] at z
    have z : c.1 = d.1 := z
    obtain ⟨_, x, hx, hx1, hx2⟩ := cell_say (k := 0) hc
    obtain ⟨_, y, hy, hy1, hy2⟩ := cell_say (k := 0) hd
    rw [z, hy] at hx
    cases hx
    have es : c.2.1 = d.2.1 := hx1.trans hy1.symm
    by_cases en : c.2.2 = d.2.2
    · have e : c = d := Prod.ext z (Prod.ext es en)
      rw [e] at hc
      exact hne (cell_inj (k := 0) ok.nd hc hd)
    · exact h.no r j c d (mem_bitsOf.mp hr) (mem_bitsOf.mp hj) hc hd (.inl ⟨z, es, en⟩)
  have := nodup_sub (k := heldOf ss (ansOf n (cellsOf ss) (bitsOf k))) nd2 fun i hi => by
    obtain ⟨r, hr, rfl⟩ := List.mem_map.mp hi
    obtain ⟨c, hc⟩ := hget r hr
    obtain ⟨_, x, hx, hx1, hx2⟩ := cell_say (k := 0) hc
    rw [hc]
    refine held_mem (x := x) (by simpa using hx) ?_
    unfold holds
    rw [List.any_eq_true]
    exact ⟨c.2.2, hx2, by rw [h.signs ok (mem_bitsOf.mp hr) hc, hx1]; simp⟩
  rwa [List.length_map] at this
/-! ### the rows of an answer -/
theorem fits_mem {a : List Nat} {x : Say} {r p : Nat} (h : p ∈ fitsOf a x r) : r ≤ p ∧ ∃ nm, x.2[p - r]? = some nm ∧ a.getD nm 0 = x.1 := by
  unfold fitsOf at h
  obtain ⟨y, hy, rfl⟩ := List.mem_map.mp h
  obtain ⟨h1, h2⟩ := List.mem_filter.mp hy
  obtain ⟨nm, j⟩ := y
  obtain ⟨q1, q2⟩ := List.mk_mem_zipIdx_iff_le_and_getElem?_sub.mp h1
  exact ⟨q1, nm, q2, by simpa using h2⟩
theorem head_mem {l : List Nat} {p : Nat} (h : p ∈ l.head?.toList) : p ∈ l := by
  cases l with
  | nil => simp at h
  | cons x l => simp at h; simp [h]
theorem rows_cell {a : List Nat} : ∀ {ss : List Say} {k r p : Nat}, p ∈ rowsFrom a r ss → r ≤ p ∧ ∃ c, (cellsFrom k ss)[p - r]? = some c ∧ a.getD c.2.2 0 = c.2.1
  | [], k, r, p, h => by simp [rowsFrom] at h
  | x :: t, k, r, p, h => by
    rw [rowsFrom, List.mem_append] at h
    have hl : (x.2.map (fun nm => ((k, x.1, nm) : Cell))).length = x.2.length := by simp
    rcases h with h | h
    · obtain ⟨h1, nm, h2, h3⟩ := fits_mem (head_mem h)
      refine ⟨h1, (k, x.1, nm), ?_, h3⟩
      have := (List.getElem?_eq_some_iff.mp h2).1
      rw [cellsFrom_cons, List.getElem?_append_left (by rw [hl]; exact this), List.getElem?_map, h2]
      rfl
    · obtain ⟨h1, c, h2, h3⟩ := rows_cell (k := k + 1) h
      refine ⟨by omega, c, ?_, h3⟩
      rw [cellsFrom_cons, List.getElem?_append_right (by rw [hl]; omega), hl, show p - r - x.2.length = p - (r + x.2.length) by omega]
      exact h2
/-- one row of each saying -/
theorem rows_one {a : List Nat} : ∀ {ss : List Say} {k r p q : Nat} {c d : Cell}, p ∈ rowsFrom a r ss → q ∈ rowsFrom a r ss → (cellsFrom k ss)[p - r]? = some c → (cellsFrom k ss)[q - r]? = some d → c.1 = d.1 → p = q
  | [], k, r, p, q, c, d, h, _, _, _, _ => by simp [rowsFrom] at h
  | x :: t, k, r, p, q, c, d, h, h', hc, hd, e => by
    rw [rowsFrom, List.mem_append] at h h'
    have hl : (x.2.map (fun nm => ((k, x.1, nm) : Cell))).length = x.2.length := by simp
    rw [cellsFrom_cons] at hc hd
    have left : ∀ {p : Nat} {c : Cell}, p ∈ fitsOf a x r → (x.2.map (fun nm => ((k, x.1, nm) : Cell)) ++ cellsFrom (k + 1) t)[p - r]? = some c → c.1 = k := by
      intro p c hp hc
      obtain ⟨h1, nm, h2, h3⟩ := fits_mem hp
      have := (List.getElem?_eq_some_iff.mp h2).1
      rw [List.getElem?_append_left (by rw [hl]; exact this), List.getElem?_map, h2] at hc
      cases hc
      rfl
    have right : ∀ {p : Nat} {c : Cell}, p ∈ rowsFrom a (r + x.2.length) t → (x.2.map (fun nm => ((k, x.1, nm) : Cell)) ++ cellsFrom (k + 1) t)[p - r]? = some c → k + 1 ≤ c.1 ∧ (cellsFrom (k + 1) t)[p - (r + x.2.length)]? = some c := by
      intro p c hp hc
      obtain ⟨h1, _⟩ := rows_cell (k := k + 1) hp
      rw [List.getElem?_append_right (by rw [hl]; omega), hl, show p - r - x.2.length = p - (r + x.2.length) by omega] at hc
      exact ⟨(cell_say hc).1, hc⟩
    rcases h with h | h
    · rcases h' with h' | h'
      · cases z : (fitsOf a x r).head? with
        | none => rw [z] at h; simp at h
        | some u => rw [z] at h h'; simp at h h'; omega
      · have := left (head_mem h) hc
        have := (right h' hd).1
        omega
    · rcases h' with h' | h'
      · have := left (head_mem h') hd
        have := (right h hc).1
        omega
      · exact rows_one h h' (right h hc).2 (right h' hd).2 e
theorem rows_asc {a : List Nat} : ∀ {ss : List Say} {r : Nat}, (rowsFrom a r ss).Pairwise (· < ·)
  | [], r => by simp [rowsFrom]
  | x :: t, r => by
    rw [rowsFrom, List.pairwise_append]
    refine ⟨by cases (fitsOf a x r).head? <;> simp, rows_asc, fun p hp q hq => ?_⟩
    obtain ⟨h1, nm, h2, _⟩ := fits_mem (head_mem hp)
    have := (List.getElem?_eq_some_iff.mp h2).1
    obtain ⟨h3, _⟩ := rows_cell (k := 0) hq
    omega
theorem fits_any {a : List Nat} {x : Say} {r : Nat} : (fitsOf a x r).head?.toList.length = if holds x a = true then 1 else 0 := by
  have h : (fitsOf a x r = []) ↔ ¬ holds x a = true := by
    unfold fitsOf holds
    rw [List.map_eq_nil_iff, List.filter_eq_nil_iff, List.any_eq_true]
    constructor
    · rintro h ⟨nm, h1, h2⟩
      obtain ⟨i, hi, e⟩ := List.mem_iff_getElem.mp h1
      refine h (nm, r + i) ?_ h2
      rw [List.mk_mem_zipIdx_iff_le_and_getElem?_sub]
      exact ⟨by omega, by rw [Nat.add_sub_cancel_left, ← e]; simp [hi]⟩
    · rintro h ⟨nm, i⟩ h1 h2
      exact h ⟨nm, zip_mem (k := r) h1, h2⟩
  by_cases z : holds x a = true
  · rw [if_pos z]
    cases q : fitsOf a x r with
    | nil => exact absurd z (h.mp q)
    | cons y l => rfl
  · rw [if_neg z, h.mpr z]; rfl
theorem rows_count {a : List Nat} : ∀ {ss : List Say} {r : Nat}, (rowsFrom a r ss).length = (ss.filter fun x => holds x a).length
  | [], r => rfl
  | x :: t, r => by
    rw [rowsFrom, List.length_append, rows_count, fits_any]
    by_cases z : holds x a = true
    · rw [if_pos z, List.filter_cons_of_pos (p := fun x => holds x a) z, List.length_cons]; omega
    · rw [if_neg z, List.filter_cons_of_neg (p := fun x => holds x a) z]; omega
theorem rows_held {a : List Nat} : (rowsOf ss a).length = (heldOf ss a).length := by rw [held_count]; exact rows_count
theorem rows_lt {a : List Nat} : ∀ p ∈ rowsOf ss a, p < (cellsOf ss).length := by
  intro p hp
  obtain ⟨_, c, h, _⟩ := rows_cell (k := 0) hp
  have := (List.getElem?_eq_some_iff.mp h).1
  exact this
theorem rows_calm {a : List Nat} : Calm ss (maskOf (rowsOf ss a)) := by
  refine ⟨maskOf_lt rows_lt, fun r j c d hr hj hc hd => ?_⟩
  rw [testBit_maskOf, decide_eq_true_iff] at hr hj
  obtain ⟨_, c', h1, h2⟩ := rows_cell (k := 0) hr
  obtain ⟨_, d', h3, h4⟩ := rows_cell (k := 0) hj
  have e1 : c' = c := Option.some.inj (h1.symm.trans hc)
  have e2 : d' = d := Option.some.inj (h3.symm.trans hd)
  subst e1 e2
  rintro (⟨z1, z2, z3⟩ | ⟨z1, z2⟩)
  · have := rows_one (k := 0) hr hj h1 h3 z1
    subst this
    rw [hc] at hd
    cases hd
    exact z3 rfl
  · rw [z1, h4] at h2
    exact z2 h2.symm
theorem rows_bits {a : List Nat} : bitsOf (maskOf (rowsOf ss a)) = rowsOf ss a := bits_maskOf rows_asc
/-! ### all peaceful sets -/
theorem or_low {k r : Nat} (hk : k < 2 ^ (r + 1)) (hr : k.testBit r = true) : k = (k % 2 ^ r) ||| 2 ^ r := by
  apply Nat.eq_of_testBit_eq
  intro i
  rw [Nat.testBit_or, Nat.testBit_mod_two_pow, Nat.testBit_two_pow]
  rcases Nat.lt_trichotomy i r with h | h | h
  · have h2 : ¬ r = i := by omega
    simp [h, h2]
  · subst h; simp [hr]
  · have : k.testBit i = false := by
      apply Nat.testBit_lt_two_pow
      exact Nat.lt_of_lt_of_le hk (Nat.pow_le_pow_right (by decide) (by omega))
    have h2 : ¬ i < r := by omega
    have h3 : ¬ r = i := by omega
    simp [this, h2, h3]
theorem Calm.low {k r : Nat} (h : Calm ss k) : Calm ss (k % 2 ^ r) := by
  refine ⟨Nat.lt_of_le_of_lt (Nat.mod_le _ _) h.lt, fun i j c d hi hj => ?_⟩
  rw [Nat.testBit_mod_two_pow, Bool.and_eq_true] at hi hj
  exact h.no i j c d hi.2 hj.2
theorem peaces_has : ∀ {r k : Nat}, r ≤ (cellsOf ss).length → k < 2 ^ r → Calm ss k → k ∈ peacesN (nearOf ss) r
  | 0, k, _, hk, _ => by simp at hk; simp [peacesN, hk]
  | r + 1, k, hr, hk, h => by
    unfold peacesN
    rw [List.mem_append]
    by_cases hb : k.testBit r = true
    · right
      have e := or_low hk hb
      refine List.mem_map.mpr ⟨k % 2 ^ r, List.mem_filter.mpr ⟨peaces_has (by omega) (Nat.mod_lt _ (Nat.pow_pos (by decide))) h.low, ?_⟩, e.symm⟩
      simp only [beq_iff_eq]
      have q := h.row hb
      apply Nat.eq_of_testBit_eq
      intro i
      have q2 : ((nearOf ss).getD r 0 &&& k).testBit i = false := by rw [q]; simp
      rw [Nat.testBit_and] at q2
      rw [Nat.testBit_and, Nat.testBit_mod_two_pow, Nat.zero_testBit]
      cases z : ((nearOf ss).getD r 0).testBit i with
      | false => simp
      | true => rw [z] at q2; simp at q2; simp [q2]
    · left
      refine peaces_has (by omega) ?_ h
      apply Nat.lt_pow_two_of_testBit
      intro i hi
      rcases Nat.eq_or_lt_of_le hi with e | e
      · subst e; simpa using hb
      · exact Nat.testBit_lt_two_pow (Nat.lt_of_lt_of_le hk (Nat.pow_le_pow_right (by decide) (by omega)))
theorem peaces_calm : ∀ {r k : Nat}, r ≤ (cellsOf ss).length → k ∈ peacesN (nearOf ss) r → Calm ss k
  | 0, k, _, h => by simp [peacesN] at h; subst h; exact Calm.zero
  | r + 1, k, hr, h => by
    unfold peacesN at h
    rcases List.mem_append.mp h with h | h
    · exact peaces_calm (by omega) h
    · obtain ⟨k', h1, rfl⟩ := List.mem_map.mp h
      obtain ⟨h2, h3⟩ := List.mem_filter.mp h1
      exact (peaces_calm (by omega) h2).put (by omega) (by simpa using h3)
/-! ### answers of noughts and ones -/
theorem ans_bits : ∀ {n : Nat} {a : List Nat}, a.length = n → (∀ x ∈ a, x < 2) → a ∈ answersN n
  | 0, a, h, _ => by rw [List.eq_nil_of_length_eq_zero h]; simp [answersN]
  | n + 1, a, h, h2 => by
    rcases List.eq_nil_or_concat a with e | ⟨b, x, e⟩
    · subst e; simp at h
    · have e : a = b ++ [x] := by rw [e]; simp
      subst e
      unfold answersN
      have hx := h2 x (by simp)
      exact List.mem_flatMap.mpr ⟨b, ans_bits (by simpa using h) fun y hy => h2 y (by simp [hy]), List.mem_map.mpr ⟨x, by simp; omega, rfl⟩⟩
theorem ans_small {ch : List Nat} (ok : PzOk n ss) : ∀ x ∈ ansOf n (cellsOf ss) ch, x < 2 := by
  have h : ∀ (l : List (Cell × Nat)) (a : List Nat), (∀ x ∈ a, x < 2) → (∀ y ∈ l, y.1.2.1 < 2) → ∀ x ∈ l.foldl (astep ch) a, x < 2 := by
    intro l
    induction l with
    | nil => intro a h _; exact h
    | cons y l ih =>
      intro a h h2
      rw [List.foldl_cons]
      refine ih _ (fun x hx => ?_) fun z hz => h2 z (List.mem_cons_of_mem _ hz)
      unfold astep at hx
      split at hx
      · rcases List.mem_or_eq_of_mem_set hx with hx | rfl
        · exact h x hx
        · exact h2 y List.mem_cons_self
      · exact h x hx
  refine h _ _ (fun x hx => by rw [List.eq_of_mem_replicate hx]; decide) fun y hy => ?_
  obtain ⟨_, x, hx, hx1, _⟩ := cell_say (k := 0) (zip_get hy)
  rw [hx1]
  exact ok.sg x (List.mem_of_getElem? hx)
theorem held_best (ok : PzOk n ss) {k : Nat} (hk : ∀ N, N < 2 ^ n → (heldOf ss (bitsT n N)).length ≤ k) {a : List Nat} (h1 : a.length = n) (h2 : ∀ x ∈ a, x < 2) : (heldOf ss a).length ≤ k := by
  have := ans_bits h1 h2
  rw [answers_bits] at this
  obtain ⟨N, hN, rfl⟩ := List.mem_map.mp this
  exact hk N (by simpa using hN)
theorem weigh_ones {L k : Nat} (h : k < 2 ^ L) : weighOf (List.replicate L 1) k = ((bitsOf k).length : Nat) := by
  unfold weighOf
  have : ∀ r ∈ bitsOf k, (List.replicate L (1 : Int)).getD r 0 = 1 := by
    intro r hr
    have := testBit_lt h (mem_bitsOf.mp hr)
    rw [List.getD_eq_getElem?_getD, List.getElem?_replicate, if_pos this]
    rfl
  rw [List.map_congr_left this]
  clear this
  induction bitsOf k with
  | nil => rfl
  | cons x l ih => rw [List.map_cons, List.sum_cons, ih, List.length_cons]; omega
theorem most_is (ok : PzOk n ss) {b k : Nat} (e : k = (heldOf ss (bitsT n b)).length) (hk : ∀ N, N < 2 ^ n → (heldOf ss (bitsT n N)).length ≤ k) : maxL ((peacesOf (nearOf ss)).map (weighOf (List.replicate (cellsOf ss).length 1))) = (k : Int) := by
  have hin : maskOf (rowsOf ss (bitsT n b)) ∈ peacesOf (nearOf ss) := by
    unfold peacesOf
    rw [near_len]
    exact peaces_has (Nat.le_refl _) rows_calm.lt rows_calm
  have hne : (peacesOf (nearOf ss)).map (weighOf (List.replicate (cellsOf ss).length 1)) ≠ [] := by
    intro z
    rw [List.map_eq_nil_iff] at z
    rw [z] at hin
    simp at hin
  obtain ⟨h1, h2⟩ := maxL_spec _ hne
  apply Int.le_antisymm
  · obtain ⟨kk, hkk, e1⟩ := List.mem_map.mp h1
    rw [← e1]
    unfold peacesOf at hkk
    rw [near_len] at hkk
    have c := peaces_calm (Nat.le_refl _) hkk
    rw [weigh_ones c.lt]
    have q1 := c.count ok
    have q2 := held_best ok hk (a := ansOf n (cellsOf ss) (bitsOf kk)) (by unfold ansOf; rw [astep_len, List.length_replicate]) (ans_small ok)
    omega
  · have := h2 _ (List.mem_map.mpr ⟨_, hin, rfl⟩)
    rw [weigh_ones rows_calm.lt, rows_bits, rows_held, ← e] at this
    exact this
end
end K66

/-! k66: the law is kept. -/
namespace K66
open PySem PySem.Spec PyProof.Rows L2 DL LA
section
variable {m : List MO} {g : Option Rng} {n : Nat} {ss : List Say}
theorem told_by_rows_eq (ok : PzOk n ss) {j k : Nat} (hj : nget m j = some (.lst (dNs (nearOf ss)))) (h : Calm ss k) : G_law_told_by_rows [pzD n ss, .obj j, .int (k : Int)] ⟨m, g⟩ = .ok (.bl true) ⟨m, g⟩ := fnD_ok (ex := []) rfl (by
  show endOf (raw_law_told_by_rows [some (pzD n ss), some (.obj j), some (.int (k : Int)), none, none] ⟨m, g⟩) = _
  unfold raw_law_told_by_rows
  have hc := cells_small ok
  have hs : sizeN k ≤ 60 := Nat.le_trans (sizeN_lt h.lt) hc
  have hn := ok.n8
  have e1 := law_rows_of (m := m) (g := g) (k := k) (by omega)
  have e2 := answer_of_rows_eq (m := m) (g := g) ok (ch := bitsOf k)
  have e3 := law_cells_eq (m := m) (g := g) ok
  have hb : ∀ r ∈ bitsOf k, r < (cellsOf ss).length := fun r hr => testBit_lt h.lt (mem_bitsOf.mp hr)
  have e4 := told_signs_eq (m := .lst ((cellsOf ss).map cellD) :: m) (g := g) (n := n) (j := m.length) (cs := cellsOf ss) (ch := bitsOf k) (by simp) hn hb (cells_names ok)
  rw [signs_is (bits_range h.lt)] at e4
  have hl : (ansOf n (cellsOf ss) (bitsOf k)).length = n := by unfold ansOf; rw [astep_len, List.length_replicate]
  have hcount := h.count ok
  have hcalm := h.calm
  generalize ansOf n (cellsOf ss) (bitsOf k) = a at *
  have e5 : ∀ s, G_law_told [.tup (dNs a), .tup (dNs a)] s = .ok (.bl true) s := fun s => toldN (by omega)
  have e6 := law_calm (m := m) (g := g) (k := k) hj (fun i hi => by rw [near_len]; exact hb i hi) (by omega)
  rw [hcalm] at e6
  have e7 := held_eq (m := m) (g := g) ok hl
  have e8 : ((bitsOf k).length : Int) ≤ ((heldOf ss a).length : Int) := by omega
  simp only [pzD] at e2 e3 e7 ⊢
  simp [e1, e2, e3, e4, e5, e6, e7, hcount]) rfl
theorem some_peace_eq (m : List MO) (r : Rng) (ok : PzOk n ss) {j : Nat} (hj : nget m j = some (.lst (dNs (nearOf ss)))) : ∃ (k : Nat) (r' : Rng), Calm ss k ∧ G_law_some_peace [.rng false, .obj j] ⟨m, some r⟩ = .ok (.int (k : Int)) ⟨m, some r'⟩ := by
  have hlt := nget_lt hj
  have hne := Nat.ne_of_lt hlt
  have hc := cells_small ok
  have hL := near_len (ss := ss)
  obtain ⟨i, r1, hi, e1⟩ := law_drawE (k := (nearOf ss).length + 1) (.lst (dNs (List.range (nearOf ss).length)) :: m) r (by omega) (by omega)
  obtain ⟨res, r2, p, e2⟩ := law_some (.lst (dNs (List.range (nearOf ss).length)) :: m) r1 (d := .obj m.length) (l := dNs (List.range (nearOf ss).length)) (k := i) (opList_O (by simp)) (by simp; omega) (by simp)
  obtain ⟨q, rfl, pq⟩ := perm_dNs p
  rw [dNs_take] at e2
  have hq : ∀ x ∈ q.take i, x < (cellsOf ss).length := by
    intro x hx
    have := pq.mem_iff.mp (List.mem_of_mem_take hx)
    rw [← hL]
    simpa using this
  generalize q.take i = v at *
  have loop : ∃ δ' s', forL ⟨dNs v, some (m.length, .lst (dNs v))⟩ (.nm 3) lp_law_some_peace_1 (v.map fun k : Nat => .int (k : Int)) [some (.rng false), some (.obj j), some (.int 0), none] ⟨.lst (dNs v) :: m, some r2⟩ = .nx δ' s' ∧ s' = ⟨.lst (dNs v) :: m, some r2⟩ ∧ ∃ (k : Nat) (o : Option D), Calm ss k ∧ δ' = [some (.rng false), some (.obj j), some (.int (k : Int)), o] := by
    refine forL_I (l := v) (fun k : Nat => .int (k : Int)) (fun done δ s => s = ⟨.lst (dNs v) :: m, some r2⟩ ∧ ∃ (k : Nat) (o : Option D), Calm ss k ∧ δ = [some (.rng false), some (.obj j), some (.int (k : Int)), o]) ⟨rfl, 0, none, Calm.zero, rfl⟩ (fun b δ s h => by obtain ⟨rfl, _⟩ := h; simp) (fun done x rest δ s hl' h => ?_)
    obtain ⟨rfl, k, o, hk, rfl⟩ := h
    have hx := hq x (by rw [hl']; simp)
    have hx2 : x < (nearOf ss).length := by rw [hL]; exact hx
    have hg : (nearOf ss)[x]? = some ((nearOf ss).getD x 0) := by rw [List.getD_eq_getElem?_getD]; simp [hx2]
    by_cases z : (nearOf ss).getD x 0 &&& k = 0
    · refine ⟨_, pm_nm, [some (.rng false), some (.obj j), some (.int ((k ||| 2 ^ x : Nat) : Int)), some (.int (x : Int))], _, .inl ?_, rfl, _, _, hk.put hx z, rfl⟩
      have e2 : ((2 : Int) ^ x) = ((2 ^ x : Nat) : Int) := by simp
      have hx3 : (x : Int) ≤ 1000000 := by omega
      simp [lp_law_some_peace_1, hne, hj, hg, bitAnd_nat, z, e2, bitOr_nat, hx3, -Int.natCast_pow, -List.getD_eq_getElem?_getD]
    · refine ⟨_, pm_nm, [some (.rng false), some (.obj j), some (.int (k : Int)), some (.int (x : Int))], _, .inl ?_, rfl, _, _, hk, rfl⟩
      simp [lp_law_some_peace_1, hne, hj, hg, bitAnd_nat, z, -List.getD_eq_getElem?_getD]
  obtain ⟨δ', s', e3, rfl, k, o, hk, rfl⟩ := loop
  refine ⟨k, r2, hk, fnD_ok (ex := [.lst (dNs v)]) rfl ?_ rfl⟩
  show endOf (raw_law_some_peace [some (.rng false), some (.obj j), none, none] ⟨m, some r⟩) = _
  unfold raw_law_some_peace
  have h1 : -4611686018427387904 ≤ ((nearOf ss).length : Int) := by omega
  have h2 : ((nearOf ss).length : Int) < 1000000 := by omega
  have eR : ∀ n, rgD n = dNs (List.range n) := fun _ => rfl
  have eV : (v.map fun k : Nat => D.int (k : Int)) = dNs v := rfl
  rw [eV] at e3
  simp at e1 e2
  simp [hj, h1, h2, eR, hne, e1, e2, e3]
theorem guess_eq {o0 o3 o4 o5 o7 o8 o9 o10 : Option D} (m : List MO) (r : Rng) (hn : n ≤ 8) : ∃ (a : List Nat) (r' : Rng), a.length = n ∧ (∀ i ∈ a, i < 2) ∧ cp_law_1 [o0, some (.rng false), some (pzD n ss), o3, o4, o5, none, o7, o8, o9, o10] ⟨m, some r⟩ = .ok (.obj m.length) ⟨.lst (dNs a) :: m, some r'⟩ := by
  unfold cp_law_1
  obtain ⟨ds, r', h1, h2, h3⟩ := eComp_R (m := m) (r := r) (src := ⟨rgD n, none⟩) (s := ⟨m, some r⟩) (fi := iRg1 (eBin opIx (eVar 2) (eC (.int 0)))) (δ := [o0, some (.rng false), some (pzD n ss), o3, o4, o5, none, o7, o8, o9, o10]) (p := .nm 6) (vs := [6]) (elt := eFn 2 G_law_draw (aCons (eVar 1) (aCons (eC (.int 2)) aNil)))
    (fun i : Nat => .int (i : Int)) (fun _ d => ∃ i : Nat, i < 2 ∧ d = .int (i : Int)) (List.range n) (by
      have h1 : -4611686018427387904 ≤ (n : Int) := by omega
      have h2 : (n : Int) < 4611686018427387904 := by omega
      simp [pzD, h1, h2]) rfl (fun _ _ => okN) (fun a _ r => ⟨_, pm_nm, fun acc => by
      obtain ⟨i, r1, hi, e⟩ := law_drawE (k := 2) (.lst acc :: m) r (by decide) (by decide)
      exact ⟨.int (i : Int), r1, ⟨i, by omega, rfl⟩, by simp [e]⟩⟩) (by simp; omega)
  obtain ⟨a, rfl, ha⟩ := nats_of (P := fun i => i < 2) fun d hd => by
    obtain ⟨_, _, i, hi, e⟩ := h2 d hd
    exact ⟨i, hi, e⟩
  exact ⟨a, r', by simpa using h1, ha, h3⟩
theorem guess2_eq {o0 o2 o3 o4 o5 o6 o8 o9 o10 : Option D} (m : List MO) (r : Rng) (hn : n ≤ 8) : ∃ (a : List Nat) (r' : Rng), a.length = n ∧ (∀ i ∈ a, i < 2) ∧ cp_law_2 [o0, some (.rng false), o2, o3, o4, o5, o6, some (pzD n ss), o8, o9, o10] ⟨m, some r⟩ = .ok (.obj m.length) ⟨.lst (dNs a) :: m, some r'⟩ := by
  unfold cp_law_2
  obtain ⟨ds, r', h1, h2, h3⟩ := eComp_R (m := m) (r := r) (src := ⟨rgD n, none⟩) (s := ⟨m, some r⟩) (fi := iRg1 (eBin opIx (eVar 7) (eC (.int 0)))) (δ := [o0, some (.rng false), o2, o3, o4, o5, o6, some (pzD n ss), o8, o9, o10]) (p := .nm 6) (vs := [6]) (elt := eFn 2 G_law_draw (aCons (eVar 1) (aCons (eC (.int 2)) aNil)))
    (fun i : Nat => .int (i : Int)) (fun _ d => ∃ i : Nat, i < 2 ∧ d = .int (i : Int)) (List.range n) (by
      have h1 : -4611686018427387904 ≤ (n : Int) := by omega
      have h2 : (n : Int) < 4611686018427387904 := by omega
      simp [pzD, h1, h2]) rfl (fun _ _ => okN) (fun a _ r => ⟨_, pm_nm, fun acc => by
      obtain ⟨i, r1, hi, e⟩ := law_drawE (k := 2) (.lst acc :: m) r (by decide) (by decide)
      exact ⟨.int (i : Int), r1, ⟨i, by omega, rfl⟩, by simp [e]⟩⟩) (by simp; omega)
  obtain ⟨a, rfl, ha⟩ := nats_of (P := fun i => i < 2) fun d hd => by
    obtain ⟨_, _, i, hi, e⟩ := h2 d hd
    exact ⟨i, hi, e⟩
  exact ⟨a, r', by simpa using h1, ha, h3⟩
theorem body1 {o0 o3 o6 o7 o8 o9 o10 : Option D} {a : List Nat} {j : Nat} (ok : PzOk n ss) (ha : a.length = n) (hj : nget m j = some (.lst (dNs (nearOf ss)))) :
    lp_law_1 [o0, some (.rng false), some (pzD n ss), o3, some (.obj j), some (ansD a), o6, o7, o8, o9, o10] ⟨m, g⟩ = .nx [o0, some (.rng false), some (pzD n ss), o3, some (.obj j), some (ansD a), o6, o7, o8, o9, some (.tup (dNs (rowsOf ss a)))] ⟨m, g⟩ := by
  have hc := cells_small ok
  have e1 := rows_of_answer_eq (m := m) (g := g) ok ha
  have e2 := law_cells_eq (m := m) (g := g) ok
  have e3 := first_rows_eq (m := .lst ((cellsOf ss).map cellD) :: m) (g := g) (j := m.length) (cs := cellsOf ss) (a := a) (by simp) (by omega) (fun c h => by rw [ha]; exact cells_names ok c h)
  rw [first_rows_is] at e3
  have hr : (rowsOf ss a).length ≤ 12 := Nat.le_trans rowsFrom_len ok.len
  have e4 : ∀ s, G_law_told [.tup (dNs (rowsOf ss a)), .tup (dNs (rowsOf ss a))] s = .ok (.bl true) s := fun s => toldN (by omega)
  have e5 := held_eq (m := m) (g := g) ok ha
  have e6 := law_mask (m := m) (g := g) (d := .tup (dNs (rowsOf ss a))) (l := rowsOf ss a) (src := ⟨dNs (rowsOf ss a), none⟩) rfl rfl okN (fun i hi => by have := rows_lt i hi; omega)
  have e7 := told_by_rows_eq (g := g) ok hj (rows_calm (ss := ss) (a := a))
  have e8 := rows_held (ss := ss) (a := a)
  simp only [pzD] at e1 e2 e5 e7 ⊢
  simp [lp_law_1, ansD, e1, e2, e3, e4, e5, e6, e7, e8]
theorem body2 {o0 o3 o5 o6 o7 o8 o9 o10 : Option D} {r : Rng} {j : Nat} (ok : PzOk n ss) (hj : nget m j = some (.lst (dNs (nearOf ss)))) : ∃ r', 
    lp_law_2 [o0, some (.rng false), some (pzD n ss), o3, some (.obj j), o5, o6, o7, o8, o9, o10] ⟨m, some r⟩ = .nx [o0, some (.rng false), some (pzD n ss), o3, some (.obj j), o5, o6, o7, o8, o9, o10] ⟨m, some r'⟩ := by
  obtain ⟨k, r', hk, e⟩ := some_peace_eq m r ok hj
  have e2 := told_by_rows_eq (g := some r') ok hj hk
  refine ⟨r', ?_⟩
  simp [lp_law_2, e, e2]
theorem law_eq (ns : List Int) (sc : D) (m : List MO) (hl : ns.length ≤ 63) (hs : ScrD ⟨m, none⟩ sc ns) : ∃ s', G_law [sc] ⟨m, none⟩ = .ok (.bl true) s' := by
  have e1 : G_law_begin [sc] ⟨m, none⟩ = .ok (.rng false) ⟨m, some ⟨ns, 0, 0, 17⟩⟩ := begin_scr rfl (by simp only [lim_eq]; omega) hs
  obtain ⟨n, ss, r1, ok, e2⟩ := drawn_eq m ⟨ns, 0, 0, 17⟩
  have hn8 := ok.n8
  have hc := cells_small ok
  obtain ⟨a, r2, ha, ha2, e3⟩ := guess_eq (ss := ss) (o0 := some sc) (o3 := none) (o4 := none) (o5 := none) (o7 := none) (o8 := none) (o9 := none) (o10 := none) m r1 hn8
  have e4 := asked_eq (m := m) (g := some r2) ok ha
  have e6 := sayings_table_eq (m := m) (g := some r2) ok
  have e5 := law_web (m := m) (g := some r2) (n := 3) (rules := rules) (rows := (cellsOf ss).map rwOf) (L := 3) (fun y hy => by obtain ⟨c, _, rfl⟩ := List.mem_map.mp hy; rfl) (by decide) (by decide) (by simp; omega)
  rw [show webOf rules ((cellsOf ss).map rwOf) = nearOf ss from rfl, List.map_map, show rwD ∘ rwOf = rowD from rfl, show bookD 3 rules = .tup [.int 3, .tup [.tup [.int 3, .int 4], .tup [.int 4, .int 2]]] from rfl] at e5
  obtain ⟨b, k, hb, hb1, hb2, hk1, hk2⟩ := best_both ok
  have e7 := law_most_eq (m := .lst (dNs (nearOf ss)) :: m) (g := some r2) ok hb1
  have hlen : (bitsT n b).length = n := bitsT_len
  have hL := near_len (ss := ss)
  -- the two answers
  have l1 := forL_I (src := ⟨[a, bitsT n b].map ansD, some (m.length + 1, .lst ([a, bitsT n b].map ansD))⟩) (p := .nm 5) (body := lp_law_1) (l := [a, bitsT n b]) (δ := [some sc, some (.rng false), some (pzD n ss), some (.tup (dNs a)), some (.obj m.length), none, none, none, some (.int (k : Int)), some (ansD (bitsT n b)), none])
    (s := ⟨.lst ([a, bitsT n b].map ansD) :: .lst (dNs (nearOf ss)) :: m, some r2⟩) ansD (fun done δ s => s = ⟨.lst ([a, bitsT n b].map ansD) :: .lst (dNs (nearOf ss)) :: m, some r2⟩ ∧ ∃ o5 o10, δ = [some sc, some (.rng false), some (pzD n ss), some (.tup (dNs a)), some (.obj m.length), o5, none, none, some (.int (k : Int)), some (ansD (bitsT n b)), o10]) ⟨rfl, _, _, rfl⟩ (fun b δ s h => by obtain ⟨rfl, _⟩ := h; simp) (fun done x rest δ s hl' h => by
      obtain ⟨rfl, o5, o10, rfl⟩ := h
      have hx : x.length = n := by
        have : x ∈ [a, bitsT n b] := by rw [hl']; simp
        simp at this
        rcases this with rfl | rfl
        · exact ha
        · exact hlen
      exact ⟨_, pm_nm, _, _, .inl (body1 ok hx (by simp)), rfl, _, _, rfl⟩)
  obtain ⟨δ1, s1, l1, rfl, o5, o10, rfl⟩ := l1
  -- two drawn peaceful sets
  have l2 := forL_I (src := ⟨rgD 2, none⟩) (p := .nm 6) (body := lp_law_2) (l := List.range 2) (δ := [some sc, some (.rng false), some (pzD n ss), some (.tup (dNs a)), some (.obj m.length), o5, none, none, some (.int (k : Int)), some (ansD (bitsT n b)), o10])
    (s := ⟨.lst ([a, bitsT n b].map ansD) :: .lst (dNs (nearOf ss)) :: m, some r2⟩) (fun i : Nat => .int (i : Int)) (fun done δ s => (∃ r, s = ⟨.lst ([a, bitsT n b].map ansD) :: .lst (dNs (nearOf ss)) :: m, some r⟩) ∧ ∃ o6, δ = [some sc, some (.rng false), some (pzD n ss), some (.tup (dNs a)), some (.obj m.length), o5, o6, none, some (.int (k : Int)), some (ansD (bitsT n b)), o10]) ⟨⟨_, rfl⟩, _, rfl⟩ (fun b δ s h => okN) (fun done x rest δ s hl' h => by
      obtain ⟨⟨r, rfl⟩, o6, rfl⟩ := h
      obtain ⟨r', e⟩ := body2 (m := .lst ([a, bitsT n b].map ansD) :: .lst (dNs (nearOf ss)) :: m) (o0 := some sc) (o3 := some (.tup (dNs a))) (o5 := o5) (o6 := some (.int (x : Int))) (o7 := none) (o8 := some (.int (k : Int))) (o9 := some (ansD (bitsT n b))) (o10 := o10) (r := r) (j := m.length) ok (by simp)
      exact ⟨_, pm_nm, _, _, .inl e, ⟨r', rfl⟩, _, rfl⟩)
  obtain ⟨δ2, s2, l2, ⟨r3, rfl⟩, o6, rfl⟩ := l2
  obtain ⟨n', ss', r4, ok', e8⟩ := other_eq (.lst ([a, bitsT n b].map ansD) :: .lst (dNs (nearOf ss)) :: m) r3 ok
  obtain ⟨a', r5, ha', _, e9⟩ := guess2_eq (ss := ss') (o0 := some sc) (o2 := some (pzD n ss)) (o3 := some (.tup (dNs a))) (o4 := some (.obj m.length)) (o5 := o5) (o6 := o6) (o8 := some (.int (k : Int))) (o9 := some (ansD (bitsT n b))) (o10 := o10) (.lst ([a, bitsT n b].map ansD) :: .lst (dNs (nearOf ss)) :: m) r4 ok'.n8
  have e10 := asked_eq (m := .lst ([a, bitsT n b].map ansD) :: .lst (dNs (nearOf ss)) :: m) (g := some r5) ok' ha'
  have e11 := told_by_rows_eq (m := .lst ([a, bitsT n b].map ansD) :: .lst (dNs (nearOf ss)) :: m) (g := some r5) (j := m.length) ok (by simp) Calm.zero
  have e12 := asked_eq (m := .lst ([a, bitsT n b].map ansD) :: .lst (dNs (nearOf ss)) :: m) (g := some r5) ok ha
  refine ⟨⟨m, some r5⟩, fnD_ok (ex := [.lst ([a, bitsT n b].map ansD), .lst (dNs (nearOf ss))]) rfl ?_ rfl⟩
  show endOf (raw_law [some sc, none, none, none, none, none, none, none, none, none, none] ⟨m, none⟩) = _
  unfold raw_law
  have hal : a.length < 1000000 := by omega
  have hal' : a'.length < 1000000 := by have := ok'.n8; omega
  have hda : ∀ k, dlt k (ansD (bitsT n b)) = true := fun k => by simp [ansD]
  have eR2 : rgD 2 = (List.range 2).map fun i : Nat => .int (i : Int) := rfl
  have hA : ansD a = .tup (dNs a) := rfl
  rw [← eR2] at l2
  simp only [List.map_cons, List.map_nil, hA] at l1 l2 e8 e9 e10 e11 e12
  have hne : ¬ m.length = m.length + 1 + 1 := by omega
  rw [show ((0 : Nat) : Int) = 0 from rfl] at e11
  have h10 := most_is ok hk1 hk2
  rw [← hL] at h10
  by_cases hL10 : (nearOf ss).length < 10
  · have hL2 : ((nearOf ss).length : Int) < 10 := by omega
    have h6 : ((nearOf ss).length : Int) < 9223372036854775808 := by omega
    have h7 : -9223372036854775808 ≤ ((nearOf ss).length : Int) := by omega
    have h8 : (nearOf ss).length < 1000000 := by omega
    have e13 := law_best (m := .lst (List.replicate (nearOf ss).length (.int 1)) :: .lst [.tup (dNs a), ansD (bitsT n b)] :: .lst (dNs (nearOf ss)) :: m) (g := some r3) (n := m.length) (j := m.length + 1 + 1) (near := nearOf ss) (ws := List.replicate (nearOf ss).length 1) (by simp [hne]) (by simp) (by omega) (by simp)
    rw [h10] at e13
    have hd1 : ∀ k l, dlts k (List.replicate l (.int 1)) = true := fun k l => by rw [dlts_all]; simp
    simp [e1, e2, e3, hal, e4, e6, e5, e7, l1, l2, hne, hL2, h6, h7, h8, hd1, e13, e8, e9, hal', e10, e11, e12, hA]
  · have hL2 : ¬ ((nearOf ss).length : Int) < 10 := by omega
    simp [e1, e2, e3, hal, e4, e6, e5, e7, l1, l2, hne, hL2, e8, e9, hal', e10, e11, e12, hA]
end
end K66

namespace K66
open PySem PySem.Spec PyProof.Rows L2 DL LA
section
variable {P : Program} {w : World} {K : PySem.W.Frag} {mg : Str → Option Value} {base : Heap}
theorem cal_plain_table (T : Txt K mg) : Cal P w K mg base 1 "plain_table" 1 G_plain_table := cal_mk T.d_plain_table sc_plain_table rfl rfl fun f cdv A outer s H E hr =>
  have nd := sc_plain_table.nd
  show SSs _ W0 (defBody (topS 1)) raw_plain_table from
  (ss_one (ss_ret (se_clean (se_callTy calls_tuple T.b_tuple (sa_cons (se_comp rfl nd (si_seq (sv 0)) (blkOk_by (own := [("cells", 1)]) (by show blkC ["cells_list", "cells"] (defScope (topS 1)) _ _ = true; decide +kernel)) (by decide) (fun _ _ _ _ _ => (sp_nm 1 nd)) (fun _ _ _ _ _ => sts_nil) (fun _ _ _ _ _ => (se_tup (sa_cons se_int (sa_cons se_int (sa_cons se_int (sa_cons (se_callTy calls_tuple T.b_tuple (sa_cons (sv 1) sa_nil)) sa_nil))))))) sa_nil)))))
theorem cal_sayings_table (T : Txt K mg) : Cal P w K mg base 2 "sayings_table" 1 G_sayings_table := cal_mk T.d_sayings_table sc_sayings_table rfl rfl fun f cdv A outer s H E hr =>
  have nd := sc_sayings_table.nd
  show SSs _ W0 (defBody (topS 3)) raw_sayings_table from
  (ss_cons (ss_set 1 nd (se_lst sa_nil)) (ss_cons (ss_for PassesOwn.never rfl (si_enu T.b_enumerate (se_ix (sv 0) se_int)) (sp_tp rfl (sps_cons (sp_nm 2 nd) (sps_cons (sp_tp rfl (sps_cons (sp_nm 3 nd) (sps_cons (sp_nm 4 nd) sps_nil))) sps_nil))) (ss_one (ss_expr (se_clean (se_meth PySem.F.slot_list_extend PySem.F.type_list_extend ms_extend (sv 1) (sa_cons (se_comp rfl nd (si_seq (sv 4)) (blkOk_by (own := [("name", 5)]) (by show blkC ["puzzle", "cells_list", "number", "sign", "members", "name"] (defScope (topS 3)) _ _ = true; decide +kernel)) (by decide) (fun _ _ _ _ _ => (sp_nm 5 nd)) (fun _ _ _ _ _ => sts_nil) (fun _ _ _ _ _ => (se_tup (sa_cons (sv 2) (sa_cons (sv 3) (sa_cons (sv 5) sa_nil)))))) sa_nil)))))) (ss_one (ss_ret (se_call (cal_plain_table T) (hr.mono (by decide)) (sa_cons (sv 1) sa_nil))))))
theorem cal_holding (T : Txt K mg) : Cal P w K mg base 1 "holding" 2 G_holding := cal_mk T.d_holding sc_holding rfl rfl fun f cdv A outer s H E hr =>
  have nd := sc_holding.nd
  show SSs _ W0 (defBody (topS 4)) raw_holding from
  (ss_cons (ss_set 2 nd (se_lst sa_nil)) (ss_cons (ss_for PassesOwn.never rfl (si_enu T.b_enumerate (se_ix (sv 0) se_int)) (sp_tp rfl (sps_cons (sp_nm 3 nd) (sps_cons (sp_tp rfl (sps_cons (sp_nm 4 nd) (sps_cons (sp_nm 5 nd) sps_nil))) sps_nil))) (ss_one (ss_if (st_tru (se_clean (se_callB (calls_anyG rfl) T.b_any (sa_cons (se_comp rfl nd (si_seq (sv 5)) (blkOk_by (own := [("name", 6)]) (by show blkC ["puzzle", "answer", "found", "number", "sign", "members", "name"] (defScope (topS 4)) _ _ = true; decide +kernel)) (by decide) (fun _ _ _ _ _ => (sp_nm 6 nd)) (fun _ _ _ _ _ => sts_nil) (fun _ _ _ _ _ => (se_cmp (ops_eq hr.units) (se_ix (sv 1) (sv 6)) (sv 4)))) sa_nil)))) (ss_one (ss_expr (se_meth PySem.F.slot_list_append PySem.F.type_list_append ms_append (sv 2) (sa_cons (sv 3) sa_nil)))) ss_nil))) (ss_one (ss_ret (se_callTy calls_tuple T.b_tuple (sa_cons (sv 2) sa_nil))))))
theorem cal_rows_of_answer (T : Txt K mg) : Cal P w K mg base 1 "rows_of_answer" 2 G_rows_of_answer := cal_mk T.d_rows_of_answer sc_rows_of_answer rfl rfl fun f cdv A outer s H E hr =>
  have nd := sc_rows_of_answer.nd
  show SSs _ W0 (defBody (topS 5)) raw_rows_of_answer from
  (ss_cons (ss_set 2 nd (se_lst sa_nil)) (ss_cons (ss_set 3 nd se_int) (ss_cons (ss_for PassesOwn.never rfl (si_seq (se_ix (sv 0) se_int)) (sp_tp rfl (sps_cons (sp_nm 4 nd) (sps_cons (sp_nm 5 nd) sps_nil))) (ss_cons (ss_setComp 6 rfl nd (si_enu T.b_enumerate (sv 5)) (blkOk_by (own := [("place", 7), ("name", 8)]) (by show blkC ["puzzle", "answer", "found", "row", "sign", "members", "fitting", "place", "name"] (defScope (topS 5)) _ _ = true; decide +kernel)) (by decide) (fun _ _ _ _ _ => (sp_tp rfl (sps_cons (sp_nm 7 nd) (sps_cons (sp_nm 8 nd) sps_nil)))) (fun _ _ _ _ _ => (sts_one (st_cmp (ops_eq hr.units) (se_ix (sv 1) (sv 8)) (sv 4)))) (fun _ _ _ _ _ => (sv 7)) (sw_true rfl rfl rfl (by decide +kernel))) (ss_cons (ss_if (st_clean (st_cmp (ops_ne hr.units) (sv 6) (se_lst sa_nil))) (ss_one (ss_expr (se_meth PySem.F.slot_list_append PySem.F.type_list_append ms_append (sv 2) (sa_cons (se_bin ops_add (sv 3) (se_ix (sv 6) se_int)) sa_nil)))) ss_nil) (ss_one (ss_aug 3 nd iops_add (se_callB calls_len T.b_len (sa_cons (sv 5) sa_nil))))))) (ss_one (ss_ret (se_callTy calls_tuple T.b_tuple (sa_cons (sv 2) sa_nil)))))))
theorem cal_answer_of_rows (T : Txt K mg) : Cal P w K mg base 3 "answer_of_rows" 2 G_answer_of_rows := cal_mk T.d_answer_of_rows sc_answer_of_rows rfl rfl fun f cdv A outer s H E hr =>
  have nd := sc_answer_of_rows.nd
  show SSs _ W0 (defBody (topS 6)) raw_answer_of_rows from
  (ss_cons (ss_set 2 nd (se_clean (se_bin ops_mul (se_lst (sa_cons se_int sa_nil)) (se_ix (sv 0) se_int)))) (ss_cons (ss_for PassesOwn.never rfl (si_enu T.b_enumerate (se_call (cal_sayings_table T) (hr.mono (by decide)) (sa_cons (sv 0) sa_nil))) (sp_tp rfl (sps_cons (sp_nm 3 nd) (sps_cons (sp_nm 4 nd) sps_nil))) (ss_one (ss_if (st_cmp ops_in (sv 3) (sv 1)) (ss_one (ss_sub (sv 2) (se_ix (se_ix (sv 4) se_int) se_int) (se_ix (se_ix (sv 4) se_int) se_int))) ss_nil))) (ss_one (ss_ret (se_callTy calls_tuple T.b_tuple (sa_cons (sv 2) sa_nil))))))
theorem cal_answers_of (T : Txt K mg) : Cal P w K mg base 1 "answers_of" 1 G_answers_of := cal_mk T.d_answers_of sc_answers_of rfl rfl fun f cdv A outer s H E hr =>
  have nd := sc_answers_of.nd
  show SSs _ W0 (defBody (topS 7)) raw_answers_of from
  (ss_cons (ss_set 1 nd (se_lst (sa_cons (se_tup sa_nil) sa_nil))) (ss_cons (ss_for PassesOwn.never rfl (si_rg1 T.b_range (sv 0)) (sp_nm 2 nd) (ss_one (ss_setComp2 1 (vs1 := [4]) rfl nd (si_seq (sv 1)) (blkOk_by (own := [("answer", 3), ("sign", 4)]) (by show blkC ["names", "found", "place", "answer", "sign"] (defScope (topS 7)) _ _ = true; decide +kernel)) (by decide) (by decide) (by decide) (fun _ _ _ _ _ => (sp_nm 3 nd)) (fun _ _ _ _ _ => sts_nil) (fun _ _ _ _ _ => (si_seq (se_tup (sa_cons se_int (sa_cons se_int sa_nil))))) (fun _ _ _ _ _ => (sp_nm 4 nd)) (fun _ _ _ _ _ => sts_nil) (fun _ _ _ _ _ => (se_bin ops_add (sv 3) (se_tup (sa_cons (sv 4) sa_nil)))) (sw_true rfl rfl rfl (by decide +kernel))))) (ss_one (ss_ret (se_callTy calls_tuple T.b_tuple (sa_cons (sv 1) sa_nil))))))
theorem cal_best_answer (T : Txt K mg) : Cal P w K mg base 2 "best_answer" 1 G_best_answer := cal_mk T.d_best_answer sc_best_answer rfl rfl fun f cdv A outer s H E hr =>
  have nd := sc_best_answer.nd
  show SSs _ W0 (defBody (topS 8)) raw_best_answer from
  (ss_cons (ss_set 1 nd se_non) (ss_cons (ss_set 2 nd (se_neg se_int)) (ss_cons (ss_for PassesOwn.never rfl (si_seq (se_call (cal_answers_of T) (hr.mono (by decide)) (sa_cons (se_ix (sv 0) se_int) sa_nil))) (sp_nm 3 nd) (ss_cons (ss_set 4 nd (se_callB calls_len T.b_len (sa_cons (se_call (cal_holding T) (hr.mono (by decide)) (sa_cons (sv 0) (sa_cons (sv 3) sa_nil))) sa_nil))) (ss_one (ss_if (st_cmp ops_gt (sv 4) (sv 2)) (ss_one (ss_par 1 2 rfl nd (sv 3) (sv 4))) ss_nil)))) (ss_one (ss_ret (se_tup (sa_cons (sv 2) (sa_cons (sv 1) sa_nil))))))))
theorem cal_law_begin (T : Txt K mg) : Cal P w K mg base 1 "_law_begin" 1 G_law_begin := cal_begin_of (G := fnD 1 1 raw_law_begin) (cal_mk T.d_law_begin sc_law_begin rfl rfl fun f cdv A outer s H E hr =>
  have nd := sc_law_begin.nd
  show SSs _ W0 (defBody (topS 10)) raw_law_begin from
  (ss_one (ss_ret (se_lst (sa_cons (se_comp rfl nd (si_seq (sv 0)) (blkOk_by (own := [("cell", 1)]) (by show blkC ["script", "cell"] (defScope (topS 10)) _ _ = true; decide +kernel)) (by decide) (fun _ _ _ _ _ => (sp_nm 1 nd)) (fun _ _ _ _ _ => sts_nil) (fun _ _ _ _ _ => (se_callTy calls_int T.b_int (sa_cons (sv 1) sa_nil)))) (sa_cons se_int (sa_cons se_int (sa_cons se_int sa_nil)))))))) begin_raw
theorem cal_law_draw (T : Txt K mg) : Cal P w K mg base 1 "_law_draw" 2 G_law_draw := cal_mk T.d_law_draw sc_law_draw rfl rfl fun f cdv A outer s H E hr =>
  have nd := sc_law_draw.nd
  show SSs _ W0 (defBody (topS 11)) raw_law_draw from
  (ss_cons (ss_if (st_cmp ops_gt (se_ix (sv 0) se_int) se_int) (ss_cons (ss_set 3 nd (se_ix (sv 0) se_int)) (ss_cons (ss_sub (sv 0) se_int (se_bin ops_fdiv (sv 3) (sv 1))) (ss_one (ss_ret (se_bin ops_mod (se_callTy calls_int T.b_int (sa_cons (sv 3) sa_nil)) (sv 1)))))) ss_nil) (ss_cons (ss_set 2 nd se_int) (ss_cons (ss_if (st_cmp ops_lt (se_ix (sv 0) se_int) (se_callB calls_len T.b_len (sa_cons (se_ix (sv 0) se_int) sa_nil))) (ss_cons (ss_set 4 nd (se_ix (se_ix (sv 0) se_int) (se_ix (sv 0) se_int))) (ss_one (ss_set 2 nd (se_bin ops_add (se_bin ops_mul se_int (se_callB calls_abs T.b_abs (sa_cons (sv 4) sa_nil))) (se_callTy calls_int T.b_int (sa_cons (se_cmp ops_lt (sv 4) se_int) sa_nil)))))) ss_nil) (ss_cons (ss_augS (sv 0) se_int iops_add se_int) (ss_cons (ss_if (st_cmp ops_ge (sv 2) (se_bin ops_mul se_int (se_bin ops_pow se_int se_int))) (ss_cons (ss_set 3 nd (se_bin ops_mod (se_callTy calls_int T.b_int (sa_cons (se_bin ops_fdiv (sv 2) se_int) sa_nil)) (se_bin ops_shl se_int se_int))) (ss_cons (ss_sub (sv 0) se_int (se_bin ops_fdiv (sv 3) (sv 1))) (ss_one (ss_ret (se_bin ops_mod (se_callTy calls_int T.b_int (sa_cons (sv 3) sa_nil)) (sv 1)))))) ss_nil) (ss_cons (ss_sub (sv 0) se_int (se_bin ops_mod (se_callTy calls_int T.b_int (sa_cons (se_bin ops_add (se_bin ops_add (se_bin ops_add (se_bin ops_mul (se_ix (sv 0) se_int) se_int) (se_bin ops_mul (se_bin ops_mod (se_callTy calls_int T.b_int (sa_cons (sv 2) sa_nil)) se_int) se_int)) (se_bin ops_mul (se_ix (sv 0) se_int) se_int)) se_int) sa_nil)) se_int)) (ss_one (ss_ret (se_bin ops_mod (se_callTy calls_int T.b_int (sa_cons (se_bin ops_fdiv (se_ix (sv 0) se_int) se_int) sa_nil)) (sv 1))))))))))
theorem cal_law_pick (T : Txt K mg) : Cal P w K mg base 2 "_law_pick" 2 G_law_pick := cal_mk T.d_law_pick sc_law_pick rfl rfl fun f cdv A outer s H E hr =>
  have nd := sc_law_pick.nd
  show SSs _ W0 (defBody (topS 12)) raw_law_pick from
  (ss_one (ss_ret (se_ix (sv 1) (se_call (cal_law_draw T) (hr.mono (by decide)) (sa_cons (sv 0) (sa_cons (se_callB calls_len T.b_len (sa_cons (sv 1) sa_nil)) sa_nil))))))
theorem cal_law_shuffled (T : Txt K mg) : Cal P w K mg base 2 "_law_shuffled" 2 G_law_shuffled := cal_mk T.d_law_shuffled sc_law_shuffled rfl rfl fun f cdv A outer s H E hr =>
  have nd := sc_law_shuffled.nd
  show SSs _ W0 (defBody (topS 13)) raw_law_shuffled from
  (ss_cons (ss_set 2 nd (se_callTy calls_list T.b_list (sa_cons (sv 1) sa_nil))) (ss_cons (ss_set 3 nd (se_lst sa_nil)) (ss_cons (ss_for PassesOwn.never rfl (si_rg1 T.b_range (se_callB calls_len T.b_len (sa_cons (sv 2) sa_nil))) (sp_nm 4 nd) (ss_one (ss_expr (se_meth PySem.F.slot_list_append PySem.F.type_list_append ms_append (sv 3) (sa_cons (se_meth PySem.F.slot_list_pop PySem.F.type_list_pop ms_popAt (sv 2) (sa_cons (se_call (cal_law_draw T) (hr.mono (by decide)) (sa_cons (sv 0) (sa_cons (se_callB calls_len T.b_len (sa_cons (sv 2) sa_nil)) sa_nil))) sa_nil)) sa_nil))))) (ss_one (ss_ret (sv 3))))))
theorem cal_law_some (T : Txt K mg) : Cal P w K mg base 3 "_law_some" 3 G_law_some := cal_mk T.d_law_some sc_law_some rfl rfl fun f cdv A outer s H E hr =>
  have nd := sc_law_some.nd
  show SSs _ W0 (defBody (topS 14)) raw_law_some from
  (ss_one (ss_ret (se_clean (se_slice (se_call (cal_law_shuffled T) (hr.mono (by decide)) (sa_cons (sv 0) (sa_cons (sv 1) sa_nil))) so_none (so_some (sv 2))))))
theorem cal_law_is_int (T : Txt K mg) : Cal P w K mg base 1 "_law_is_int" 1 G_law_is_int := cal_mk T.d_law_is_int sc_law_is_int rfl rfl fun f cdv A outer s H E hr =>
  have nd := sc_law_is_int.nd
  show SSs _ W0 (defBody (topS 15)) raw_law_is_int from
  (ss_one (ss_ret (se_and (se_callB calls_isi T.b_isinstance (sa_cons (sv 0) (sa_cons (se_typ T.b_int) sa_nil))) (se_one (se_not (se_callB calls_isi T.b_isinstance (sa_cons (sv 0) (sa_cons (se_typ T.b_bool) sa_nil))))))))
theorem cal_law_plain (T : Txt K mg) : Cal P w K mg base 2 "_law_plain" 1 G_law_plain := cal_mk T.d_law_plain sc_law_plain rfl rfl fun f cdv A outer s H E hr =>
  have nd := sc_law_plain.nd
  show SSs _ W0 (defBody (topS 16)) raw_law_plain from
  (ss_cons (ss_set 1 nd (se_lst (sa_cons (sv 0) sa_nil))) (ss_cons (ss_for PassesOwn.never rfl (si_rg1 T.b_range se_int) (sp_nm 2 nd) (ss_cons (ss_if (st_clean (st_cmp (ops_eq hr.units) (sv 1) (se_lst sa_nil))) (ss_one (ss_ret se_bl)) ss_nil) (ss_cons (ss_set 3 nd (se_meth0 PySem.F.slot_list_pop PySem.F.type_list_pop ms_pop (sv 1))) (ss_one (ss_if (st_tru (se_callB calls_isi T.b_isinstance (sa_cons (sv 3) (sa_cons (se_typ T.b_tuple) sa_nil)))) (ss_one (ss_expr (se_meth PySem.F.slot_list_extend PySem.F.type_list_extend ms_extend (sv 1) (sa_cons (sv 3) sa_nil)))) (ss_one (ss_if (st_not (sw_pt (sw_or (st_cmp ops_is (sv 3) se_non) (sw_or (st_tru (se_callB calls_isi T.b_isinstance (sa_cons (sv 3) (sa_cons (se_typ T.b_str) sa_nil)))) (sw_or1 (st_tru (se_call (cal_law_is_int T) (hr.mono (by decide)) (sa_cons (sv 3) sa_nil)))))))) (ss_one (ss_ret se_bl)) ss_nil))))))) (ss_one (ss_ret (se_clean (se_cmp (ops_eq hr.units) (sv 1) (se_lst sa_nil)))))))
theorem cal_law_bits (T : Txt K mg) : Cal P w K mg base 1 "_law_bits" 1 G_law_bits := cal_mk T.d_law_bits sc_law_bits rfl rfl fun f cdv A outer s H E hr =>
  have nd := sc_law_bits.nd
  show SSs _ W0 (defBody (topS 17)) raw_law_bits from
  (ss_one (ss_ret (se_comp rfl nd (si_rg1 T.b_range (se_bits (sv 0))) (blkOk_by (own := [("place", 1)]) (by show blkC ["mask", "place"] (defScope (topS 17)) _ _ = true; decide +kernel)) (by decide) (fun _ _ _ _ _ => (sp_nm 1 nd)) (fun _ _ _ _ _ => (sts_one (st_tru (se_bin ops_and (se_bin ops_shr (sv 0) (sv 1)) se_int)))) (fun _ _ _ _ _ => (sv 1)))))
theorem cal_law_mask (T : Txt K mg) : Cal P w K mg base 1 "_law_mask" 1 G_law_mask := cal_mk T.d_law_mask sc_law_mask rfl rfl fun f cdv A outer s H E hr =>
  have nd := sc_law_mask.nd
  show SSs _ W0 (defBody (topS 18)) raw_law_mask from
  (ss_cons (ss_set 1 nd se_int) (ss_cons (ss_for PassesOwn.never rfl (si_seq (sv 0)) (sp_nm 2 nd) (ss_one (ss_set 1 nd (se_bin ops_or (sv 1) (se_bin ops_shl se_int (sv 2)))))) (ss_one (ss_ret (sv 1)))))
theorem cal_law_within (T : Txt K mg) : Cal P w K mg base 1 "_law_within" 2 G_law_within := cal_mk T.d_law_within sc_law_within rfl rfl fun f cdv A outer s H E hr =>
  have nd := sc_law_within.nd
  show SSs _ W0 (defBody (topS 19)) raw_law_within from
  (ss_one (ss_ret (se_cmp (ops_eq hr.units) (se_bin ops_and (sv 0) (sv 1)) (sv 0))))
theorem cal_law_agree (T : Txt K mg) : Cal P w K mg base 1 "_law_agree" 2 G_law_agree := cal_mk T.d_law_agree sc_law_agree rfl rfl fun f cdv A outer s H E hr =>
  have nd := sc_law_agree.nd
  show SSs _ W0 (defBody (topS 20)) raw_law_agree from
  (ss_cons (ss_set 2 nd se_int) (ss_cons (ss_for PassesOwn.never rfl (si_rg1 T.b_range (se_callB calls_len T.b_len (sa_cons (sv 0) sa_nil))) (sp_nm 3 nd) (ss_one (ss_if (st_cmp (ops_eq hr.units) (se_ix (sv 0) (sv 3)) (se_ix (sv 1) (sv 3))) (ss_one (ss_set 2 nd (se_bin ops_or (sv 2) (se_bin ops_shl se_int (sv 3))))) ss_nil))) (ss_one (ss_ret (sv 2)))))
theorem cal_law_clash (T : Txt K mg) : Cal P w K mg base 2 "_law_clash" 3 G_law_clash := cal_mk T.d_law_clash sc_law_clash rfl rfl fun f cdv A outer s H E hr =>
  have nd := sc_law_clash.nd
  show SSs _ W0 (defBody (topS 21)) raw_law_clash from
  (ss_cons (ss_set 3 nd (se_call (cal_law_agree T) (hr.mono (by decide)) (sa_cons (sv 1) (sa_cons (sv 2) sa_nil)))) (ss_one (ss_ret (se_clean (se_callB (calls_anyG rfl) T.b_any (sa_cons (se_comp rfl nd (si_seq (se_ix (sv 0) se_int)) (blkOk_by (own := [("left", 4), ("right", 5)]) (by show blkC ["book", "one", "other", "mask", "left", "right"] (defScope (topS 21)) _ _ = true; decide +kernel)) (by decide) (fun _ _ _ _ _ => (sp_tp rfl (sps_cons (sp_nm 4 nd) (sps_cons (sp_nm 5 nd) sps_nil)))) (fun _ _ _ _ _ => sts_nil) (fun _ _ _ _ _ => (se_and (se_call (cal_law_within T) (hr.mono (by decide)) (sa_cons (sv 4) (sa_cons (sv 3) sa_nil))) (se_one (se_not (se_call (cal_law_within T) (hr.mono (by decide)) (sa_cons (sv 5) (sa_cons (sv 3) sa_nil)))))))) sa_nil))))))
theorem cal_law_web (T : Txt K mg) : Cal P w K mg base 3 "_law_web" 2 G_law_web := cal_mk T.d_law_web sc_law_web rfl rfl fun f cdv A outer s H E hr =>
  have nd := sc_law_web.nd
  show SSs _ W0 (defBody (topS 22)) raw_law_web from
  (ss_cons (ss_set 2 nd (se_lst sa_nil)) (ss_cons (ss_for PassesOwn.never rfl (si_seq (sv 1)) (sp_nm 3 nd) (ss_one (ss_expr (se_meth PySem.F.slot_list_append PySem.F.type_list_append ms_append (sv 2) (sa_cons (se_clean (se_call (cal_law_mask T) (hr.mono (by decide)) (sa_cons (se_comp rfl nd (si_rg1 T.b_range (se_callB calls_len T.b_len (sa_cons (sv 1) sa_nil))) (blkOk_by (own := [("k", 4)]) (by show blkC ["book", "rows", "found", "one", "k"] (defScope (topS 22)) _ _ = true; decide +kernel)) (by decide) (fun _ _ _ _ _ => (sp_nm 4 nd)) (fun _ _ _ _ _ => (sts_one (st_tru (se_call (cal_law_clash T) (hr.mono (by decide)) (sa_cons (sv 0) (sa_cons (se_ix (sv 3) se_int) (sa_cons (se_ix (se_ix (sv 1) (sv 4)) se_int) sa_nil))))))) (fun _ _ _ _ _ => (sv 4))) sa_nil))) sa_nil))))) (ss_one (ss_ret (sv 2)))))
theorem cal_law_calm (T : Txt K mg) : Cal P w K mg base 2 "_law_calm" 2 G_law_calm := cal_mk T.d_law_calm sc_law_calm rfl rfl fun f cdv A outer s H E hr =>
  have nd := sc_law_calm.nd
  show SSs _ W0 (defBody (topS 23)) raw_law_calm from
  (ss_one (ss_ret (se_not (se_clean (se_callB (calls_anyG rfl) T.b_any (sa_cons (se_comp rfl nd (si_seq (se_call (cal_law_bits T) (hr.mono (by decide)) (sa_cons (sv 1) sa_nil))) (blkOk_by (own := [("row", 2)]) (by show blkC ["near", "mask", "row"] (defScope (topS 23)) _ _ = true; decide +kernel)) (by decide) (fun _ _ _ _ _ => (sp_nm 2 nd)) (fun _ _ _ _ _ => sts_nil) (fun _ _ _ _ _ => (se_bin ops_and (se_ix (sv 0) (sv 2)) (sv 1)))) sa_nil))))))
theorem cal_law_peaces (T : Txt K mg) : Cal P w K mg base 1 "_law_peaces" 1 G_law_peaces := cal_mk T.d_law_peaces sc_law_peaces rfl rfl fun f cdv A outer s H E hr =>
  have nd := sc_law_peaces.nd
  show SSs _ W0 (defBody (topS 24)) raw_law_peaces from
  (ss_cons (ss_set 1 nd (se_lst (sa_cons se_int sa_nil))) (ss_cons (ss_for PassesOwn.never rfl (si_rg1 T.b_range (se_callB calls_len T.b_len (sa_cons (sv 0) sa_nil))) (sp_nm 2 nd) (ss_one (ss_expr (se_clean (se_meth PySem.F.slot_list_extend PySem.F.type_list_extend ms_extend (sv 1) (sa_cons (se_comp rfl nd (si_seq (sv 1)) (blkOk_by (own := [("mask", 3)]) (by show blkC ["near", "found", "row", "mask"] (defScope (topS 24)) _ _ = true; decide +kernel)) (by decide) (fun _ _ _ _ _ => (sp_nm 3 nd)) (fun _ _ _ _ _ => (sts_one (st_cmp (ops_eq hr.units) (se_bin ops_and (se_ix (sv 0) (sv 2)) (sv 3)) se_int))) (fun _ _ _ _ _ => (se_bin ops_or (sv 3) (se_bin ops_shl se_int (sv 2))))) sa_nil)))))) (ss_one (ss_ret (sv 1)))))
theorem cal_law_weigh (T : Txt K mg) : Cal P w K mg base 2 "_law_weigh" 2 G_law_weigh := cal_mk T.d_law_weigh sc_law_weigh rfl rfl fun f cdv A outer s H E hr =>
  have nd := sc_law_weigh.nd
  show SSs _ W0 (defBody (topS 25)) raw_law_weigh from
  (ss_one (ss_ret (se_clean (se_callB (calls_sum rfl) T.b_sum (sa_cons (se_comp rfl nd (si_seq (se_call (cal_law_bits T) (hr.mono (by decide)) (sa_cons (sv 1) sa_nil))) (blkOk_by (own := [("row", 2)]) (by show blkC ["worths", "mask", "row"] (defScope (topS 25)) _ _ = true; decide +kernel)) (by decide) (fun _ _ _ _ _ => (sp_nm 2 nd)) (fun _ _ _ _ _ => sts_nil) (fun _ _ _ _ _ => (se_ix (sv 0) (sv 2)))) sa_nil)))))
theorem cal_law_best (T : Txt K mg) : Cal P w K mg base 3 "_law_best" 2 G_law_best := cal_mk T.d_law_best sc_law_best rfl rfl fun f cdv A outer s H E hr =>
  have nd := sc_law_best.nd
  show SSs _ W0 (defBody (topS 26)) raw_law_best from
  (ss_one (ss_ret (se_clean (se_callB (calls_max rfl) T.b_max (sa_cons (se_comp rfl nd (si_seq (se_call (cal_law_peaces T) (hr.mono (by decide)) (sa_cons (sv 0) sa_nil))) (blkOk_by (own := [("mask", 2)]) (by show blkC ["near", "worths", "mask"] (defScope (topS 26)) _ _ = true; decide +kernel)) (by decide) (fun _ _ _ _ _ => (sp_nm 2 nd)) (fun _ _ _ _ _ => sts_nil) (fun _ _ _ _ _ => (se_call (cal_law_weigh T) (hr.mono (by decide)) (sa_cons (sv 1) (sa_cons (sv 2) sa_nil))))) sa_nil)))))
theorem cal_law_rows_of (T : Txt K mg) : Cal P w K mg base 2 "_law_rows_of" 1 G_law_rows_of := cal_mk T.d_law_rows_of sc_law_rows_of rfl rfl fun f cdv A outer s H E hr =>
  have nd := sc_law_rows_of.nd
  show SSs _ W0 (defBody (topS 27)) raw_law_rows_of from
  (ss_one (ss_ret (se_clean (se_callTy calls_tuple T.b_tuple (sa_cons (se_call (cal_law_bits T) (hr.mono (by decide)) (sa_cons (sv 0) sa_nil)) sa_nil)))))
theorem cal_law_drawn_puzzle (T : Txt K mg) : Cal P w K mg base 4 "_law_drawn_puzzle" 1 G_law_drawn_puzzle := cal_mk T.d_law_drawn_puzzle sc_law_drawn_puzzle rfl rfl fun f cdv A outer s H E hr =>
  have nd := sc_law_drawn_puzzle.nd
  show SSs _ W0 (defBody (topS 28)) raw_law_drawn_puzzle from
  (ss_cons (ss_set 1 nd (se_call (cal_law_draw T) (hr.mono (by decide)) (sa_cons (sv 0) (sa_cons se_int sa_nil)))) (ss_cons (ss_set 2 nd (se_bin ops_add se_int (se_call (cal_law_draw T) (hr.mono (by decide)) (sa_cons (sv 0) (sa_cons se_int sa_nil))))) (ss_cons (ss_set 3 nd (se_call (cal_law_draw T) (hr.mono (by decide)) (sa_cons (sv 0) (sa_cons se_int sa_nil)))) (ss_cons (ss_set 4 nd se_int) (ss_cons (ss_if (st_cmp (ops_eq hr.units) (sv 1) se_int) (ss_cons (ss_set 2 nd (se_bin ops_add se_int (se_call (cal_law_draw T) (hr.mono (by decide)) (sa_cons (sv 0) (sa_cons se_int sa_nil))))) (ss_cons (ss_set 3 nd (se_bin ops_add se_int (se_call (cal_law_draw T) (hr.mono (by decide)) (sa_cons (sv 0) (sa_cons se_int sa_nil))))) (ss_one (ss_set 4 nd se_int)))) ss_nil) (ss_cons (ss_if (st_cmp (ops_eq hr.units) (sv 1) se_int) (ss_cons (ss_set 2 nd (se_bin ops_add se_int (se_call (cal_law_draw T) (hr.mono (by decide)) (sa_cons (sv 0) (sa_cons se_int sa_nil))))) (ss_one (ss_set 4 nd se_int))) ss_nil) (ss_cons (ss_set 5 nd (se_lst sa_nil)) (ss_cons (ss_for PassesOwn.never rfl (si_rg1 T.b_range (sv 3)) (sp_nm 6 nd) (ss_cons (ss_set 7 nd (se_clean (se_callTy calls_tuple T.b_tuple (sa_cons (se_clean (se_callB calls_sorted T.b_sorted (sa_cons (se_clean (se_call (cal_law_some T) (hr.mono (by decide)) (sa_cons (sv 0) (sa_cons (se_lrg rfl T.b_list T.b_range (sv 2)) (sa_cons (se_bin ops_add se_int (se_call (cal_law_draw T) (hr.mono (by decide)) (sa_cons (sv 0) (sa_cons (se_callB (calls_min rfl) T.b_min (sa_cons (sv 2) (sa_cons (sv 4) sa_nil))) sa_nil)))) sa_nil))))) sa_nil))) sa_nil)))) (ss_cons (ss_if (sw_pt (sw_and (st_clean (st_cmp (ops_ne hr.units) (sv 5) (se_lst sa_nil))) (sw_and1 (st_cmp (ops_eq hr.units) (se_call (cal_law_draw T) (hr.mono (by decide)) (sa_cons (sv 0) (sa_cons se_int sa_nil))) se_int)))) (ss_one (ss_set 7 nd (se_ix (se_call (cal_law_pick T) (hr.mono (by decide)) (sa_cons (sv 0) (sa_cons (sv 5) sa_nil))) se_int))) ss_nil) (ss_one (ss_expr (se_meth PySem.F.slot_list_append PySem.F.type_list_append ms_append (sv 5) (sa_cons (se_tup (sa_cons (se_call (cal_law_draw T) (hr.mono (by decide)) (sa_cons (sv 0) (sa_cons se_int sa_nil))) (sa_cons (sv 7) sa_nil))) sa_nil))))))) (ss_one (ss_ret (se_tup (sa_cons (sv 2) (sa_cons (se_callTy calls_tuple T.b_tuple (sa_cons (sv 5) sa_nil)) sa_nil)))))))))))))
theorem cal_law_other (T : Txt K mg) : Cal P w K mg base 2 "_law_other" 2 G_law_other := cal_mk T.d_law_other sc_law_other rfl rfl fun f cdv A outer s H E hr =>
  have nd := sc_law_other.nd
  show SSs _ W0 (defBody (topS 29)) raw_law_other from
  (ss_cons (ss_pat (sp_tp rfl (sps_cons (sp_nm 3 nd) (sps_cons (sp_nm 4 nd) sps_nil))) (sv 1)) (ss_cons (ss_if (sw_pt (sw_or (st_cmp (ops_eq hr.units) (sv 4) (se_tup sa_nil)) (sw_or1 (sw_pt (sw_and (st_cmp ops_lt (sv 3) se_int) (sw_and1 (st_cmp (ops_eq hr.units) (se_call (cal_law_draw T) (hr.mono (by decide)) (sa_cons (sv 0) (sa_cons se_int sa_nil))) se_int))))))) (ss_one (ss_ret (se_tup (sa_cons (se_if (st_cmp ops_lt (sv 3) se_int) (se_bin ops_add (sv 3) se_int) se_int) (sa_cons (sv 4) sa_nil))))) ss_nil) (ss_cons (ss_set 2 nd (se_call (cal_law_draw T) (hr.mono (by decide)) (sa_cons (sv 0) (sa_cons (se_callB calls_len T.b_len (sa_cons (sv 4) sa_nil)) sa_nil)))) (ss_cons (ss_pat (sp_tp rfl (sps_cons (sp_nm 5 nd) (sps_cons (sp_nm 6 nd) sps_nil))) (se_ix (sv 4) (sv 2))) (ss_one (ss_ret (se_tup (sa_cons (sv 3) (sa_cons (se_bin ops_add (se_bin ops_add (se_slice (sv 4) so_none (so_some (sv 2))) (se_tup (sa_cons (se_tup (sa_cons (se_bin ops_sub se_int (sv 5)) (sa_cons (sv 6) sa_nil))) sa_nil))) (se_slice (sv 4) (so_some (se_bin ops_add (sv 2) se_int)) so_none)) sa_nil)))))))))
theorem cal_law_cells_of (T : Txt K mg) : Cal P w K mg base 1 "_law_cells_of" 1 G_law_cells_of := cal_mk T.d_law_cells_of sc_law_cells_of rfl rfl fun f cdv A outer s H E hr =>
  have nd := sc_law_cells_of.nd
  show SSs _ W0 (defBody (topS 30)) raw_law_cells_of from
  (ss_cons (ss_set 1 nd (se_lst sa_nil)) (ss_cons (ss_for PassesOwn.never rfl (si_rg1 T.b_range (se_callB calls_len T.b_len (sa_cons (se_ix (sv 0) se_int) sa_nil))) (sp_nm 2 nd) (ss_cons (ss_pat (sp_tp rfl (sps_cons (sp_nm 3 nd) (sps_cons (sp_nm 4 nd) sps_nil))) (se_ix (se_ix (sv 0) se_int) (sv 2))) (ss_one (ss_expr (se_clean (se_meth PySem.F.slot_list_extend PySem.F.type_list_extend ms_extend (sv 1) (sa_cons (se_comp rfl nd (si_seq (sv 4)) (blkOk_by (own := [("name", 5)]) (by show blkC ["puzzle", "found", "k", "sign", "members", "name"] (defScope (topS 30)) _ _ = true; decide +kernel)) (by decide) (fun _ _ _ _ _ => (sp_nm 5 nd)) (fun _ _ _ _ _ => sts_nil) (fun _ _ _ _ _ => (se_tup (sa_cons (sv 2) (sa_cons (sv 3) (sa_cons (sv 5) sa_nil)))))) sa_nil))))))) (ss_one (ss_ret (sv 1)))))
theorem cal_law_held (T : Txt K mg) : Cal P w K mg base 1 "_law_held" 2 G_law_held := cal_mk T.d_law_held sc_law_held rfl rfl fun f cdv A outer s H E hr =>
  have nd := sc_law_held.nd
  show SSs _ W0 (defBody (topS 31)) raw_law_held from
  (ss_cons (ss_set 2 nd (se_lst sa_nil)) (ss_cons (ss_for PassesOwn.never rfl (si_rg1 T.b_range (se_callB calls_len T.b_len (sa_cons (se_ix (sv 0) se_int) sa_nil))) (sp_nm 3 nd) (ss_cons (ss_pat (sp_tp rfl (sps_cons (sp_nm 4 nd) (sps_cons (sp_nm 5 nd) sps_nil))) (se_ix (se_ix (sv 0) se_int) (sv 3))) (ss_one (ss_if (st_clean (st_cmp ops_in (sv 4) (se_comp rfl nd (si_seq (sv 5)) (blkOk_by (own := [("name", 6)]) (by show blkC ["puzzle", "guess", "found", "k", "sign", "members", "name"] (defScope (topS 31)) _ _ = true; decide +kernel)) (by decide) (fun _ _ _ _ _ => (sp_nm 6 nd)) (fun _ _ _ _ _ => sts_nil) (fun _ _ _ _ _ => (se_ix (sv 1) (sv 6)))))) (ss_one (ss_expr (se_meth PySem.F.slot_list_append PySem.F.type_list_append ms_append (sv 2) (sa_cons (sv 3) sa_nil)))) ss_nil)))) (ss_one (ss_ret (se_callTy calls_tuple T.b_tuple (sa_cons (sv 2) sa_nil))))))
theorem cal_law_first_rows (T : Txt K mg) : Cal P w K mg base 1 "_law_first_rows" 2 G_law_first_rows := cal_mk T.d_law_first_rows sc_law_first_rows rfl rfl fun f cdv A outer s H E hr =>
  have nd := sc_law_first_rows.nd
  show SSs _ W0 (defBody (topS 32)) raw_law_first_rows from
  (ss_cons (ss_set 2 nd (se_lst sa_nil)) (ss_cons (ss_set 3 nd (se_neg se_int)) (ss_cons (ss_for PassesOwn.never rfl (si_rg1 T.b_range (se_callB calls_len T.b_len (sa_cons (sv 0) sa_nil))) (sp_nm 4 nd) (ss_cons (ss_pat (sp_tp rfl (sps_cons (sp_nm 5 nd) (sps_cons (sp_nm 6 nd) (sps_cons (sp_nm 7 nd) sps_nil)))) (se_ix (sv 0) (sv 4))) (ss_one (ss_if (sw_pt (sw_and (st_cmp (ops_ne hr.units) (sv 5) (sv 3)) (sw_and1 (st_cmp (ops_eq hr.units) (se_ix (sv 1) (sv 7)) (sv 6))))) (ss_cons (ss_expr (se_meth PySem.F.slot_list_append PySem.F.type_list_append ms_append (sv 2) (sa_cons (sv 4) sa_nil))) (ss_one (ss_set 3 nd (sv 5)))) ss_nil)))) (ss_one (ss_ret (se_callTy calls_tuple T.b_tuple (sa_cons (sv 2) sa_nil)))))))
theorem cal_law_told_signs (T : Txt K mg) : Cal P w K mg base 1 "_law_told_signs" 3 G_law_told_signs := cal_mk T.d_law_told_signs sc_law_told_signs rfl rfl fun f cdv A outer s H E hr =>
  have nd := sc_law_told_signs.nd
  show SSs _ W0 (defBody (topS 33)) raw_law_told_signs from
  (ss_cons (ss_set 3 nd (se_clean (se_bin ops_mul (se_lst (sa_cons se_int sa_nil)) (sv 0)))) (ss_cons (ss_for PassesOwn.never rfl (si_seq (sv 2)) (sp_nm 4 nd) (ss_one (ss_sub (sv 3) (se_ix (se_ix (sv 1) (sv 4)) se_int) (se_ix (se_ix (sv 1) (sv 4)) se_int)))) (ss_one (ss_ret (se_callTy calls_tuple T.b_tuple (sa_cons (sv 3) sa_nil))))))
theorem cal_law_most (T : Txt K mg) : Cal P w K mg base 2 "_law_most" 1 G_law_most := cal_mk T.d_law_most sc_law_most rfl rfl fun f cdv A outer s H E hr =>
  have nd := sc_law_most.nd
  show SSs _ W0 (defBody (topS 34)) raw_law_most from
  (ss_cons (ss_set 1 nd (se_ix (sv 0) se_int)) (ss_cons (ss_setComp 2 rfl nd (si_seq (se_ix (sv 0) se_int)) (blkOk_by (own := [("sign", 7), ("members", 8)]) (by show blkC ["puzzle", "names", "masks", "number", "best", "most", "many", "sign", "members", "name", "mask"] (defScope (topS 34)) _ _ = true; decide +kernel)) (by decide) (fun _ _ _ _ _ => (sp_tp rfl (sps_cons (sp_nm 7 nd) (sps_cons (sp_nm 8 nd) sps_nil)))) (fun _ _ _ _ _ => sts_nil) (fun _ _ _ _ _ => (se_tup (sa_cons (sv 7) (sa_cons (se_clean (se_call (cal_law_mask T) (hr.mono (by decide)) (sa_cons (se_comp rfl nd (si_seq (sv 8)) (blkOk_by (own := [("name", 9)]) (by rfl)) (by decide) (fun _ _ _ _ _ => (sp_nm 9 nd)) (fun _ _ _ _ _ => sts_nil) (fun _ _ _ _ _ => (se_bin ops_sub (se_bin ops_sub (sv 1) se_int) (sv 9)))) sa_nil))) sa_nil)))) (sw_true rfl rfl rfl (by decide +kernel))) (ss_cons (ss_pat (sp_tp rfl (sps_cons (sp_nm 4 nd) (sps_cons (sp_nm 5 nd) sps_nil))) (se_tup (sa_cons se_int (sa_cons (se_neg se_int) sa_nil)))) (ss_cons (ss_for PassesOwn.never rfl (si_rg1 T.b_range (se_bin ops_shl se_int (sv 1))) (sp_nm 3 nd) (ss_cons (ss_set 6 nd (se_clean (se_callB (calls_sum rfl) T.b_sum (sa_cons (se_comp rfl nd (si_seq (sv 2)) (blkOk_by (own := [("sign", 7), ("mask", 10)]) (by show blkC ["puzzle", "names", "masks", "number", "best", "most", "many", "sign", "members", "name", "mask"] (defScope (topS 34)) _ _ = true; decide +kernel)) (by decide) (fun _ _ _ _ _ => (sp_tp rfl (sps_cons (sp_nm 7 nd) (sps_cons (sp_nm 10 nd) sps_nil)))) (fun _ _ _ _ _ => sts_nil) (fun _ _ _ _ _ => (se_if (st_cmp (ops_eq hr.units) (sv 7) se_int) (se_callTy calls_int T.b_int (sa_cons (se_cmp ops_gt (se_bin ops_and (sv 10) (sv 3)) se_int) sa_nil)) (se_callTy calls_int T.b_int (sa_cons (se_cmp (ops_ne hr.units) (se_bin ops_and (sv 10) (sv 3)) (sv 10)) sa_nil))))) sa_nil)))) (ss_one (ss_if (st_cmp ops_gt (sv 6) (sv 5)) (ss_one (ss_pat (sp_tp rfl (sps_cons (sp_nm 4 nd) (sps_cons (sp_nm 5 nd) sps_nil))) (se_tup (sa_cons (sv 3) (sa_cons (sv 6) sa_nil))))) ss_nil)))) (ss_one (ss_ret (se_tup (sa_cons (sv 5) (sa_cons (se_clean (se_callTy calls_tuple T.b_tuple (sa_cons (se_comp rfl nd (si_rg1 T.b_range (sv 1)) (blkOk_by (own := [("name", 9)]) (by show blkC ["puzzle", "names", "masks", "number", "best", "most", "many", "sign", "members", "name", "mask"] (defScope (topS 34)) _ _ = true; decide +kernel)) (by decide) (fun _ _ _ _ _ => (sp_nm 9 nd)) (fun _ _ _ _ _ => sts_nil) (fun _ _ _ _ _ => (se_bin ops_and (se_bin ops_shr (sv 4) (se_bin ops_sub (se_bin ops_sub (sv 1) se_int) (sv 9))) se_int))) sa_nil))) sa_nil)))))))))
theorem cal_law_told (T : Txt K mg) : Cal P w K mg base 3 "_law_told" 2 G_law_told := cal_mk T.d_law_told sc_law_told rfl rfl fun f cdv A outer s H E hr =>
  have nd := sc_law_told.nd
  show SSs _ W0 (defBody (topS 35)) raw_law_told from
  (ss_one (ss_ret (se_and (se_call (cal_law_plain T) (hr.mono (by decide)) (sa_cons (sv 0) sa_nil)) (se_one (se_cmp (ops_eq hr.units) (sv 0) (sv 1))))))
theorem cal_law_asked (T : Txt K mg) : Cal P w K mg base 4 "_law_asked" 2 G_law_asked := cal_mk T.d_law_asked sc_law_asked rfl rfl fun f cdv A outer s H E hr =>
  have nd := sc_law_asked.nd
  show SSs _ W0 (defBody (topS 36)) raw_law_asked from
  (ss_cons (ss_set 2 nd (se_call (cal_law_cells_of T) (hr.mono (by decide)) (sa_cons (sv 0) sa_nil))) (ss_cons (ss_if (st_not (st_tru (se_call (cal_law_told T) (hr.mono (by decide)) (sa_cons (se_call (cal_sayings_table T) (hr.mono (by decide)) (sa_cons (sv 0) sa_nil)) (sa_cons (se_clean (se_callTy calls_tuple T.b_tuple (sa_cons (se_comp rfl nd (si_seq (sv 2)) (blkOk_by (own := [("one", 3)]) (by show blkC ["puzzle", "guess", "cells", "one"] (defScope (topS 36)) _ _ = true; decide +kernel)) (by decide) (fun _ _ _ _ _ => (sp_nm 3 nd)) (fun _ _ _ _ _ => sts_nil) (fun _ _ _ _ _ => (se_tup (sa_cons se_int (sa_cons se_int (sa_cons se_int (sa_cons (sv 3) sa_nil))))))) sa_nil))) sa_nil))))) (ss_one (ss_ret se_bl)) ss_nil) (ss_cons (ss_if (st_not (st_tru (se_call (cal_law_told T) (hr.mono (by decide)) (sa_cons (se_call (cal_holding T) (hr.mono (by decide)) (sa_cons (sv 0) (sa_cons (sv 1) sa_nil))) (sa_cons (se_call (cal_law_held T) (hr.mono (by decide)) (sa_cons (sv 0) (sa_cons (sv 1) sa_nil))) sa_nil))))) (ss_one (ss_ret se_bl)) ss_nil) (ss_cons (ss_if (st_not (st_tru (se_call (cal_law_told T) (hr.mono (by decide)) (sa_cons (se_call (cal_rows_of_answer T) (hr.mono (by decide)) (sa_cons (sv 0) (sa_cons (sv 1) sa_nil))) (sa_cons (se_call (cal_law_first_rows T) (hr.mono (by decide)) (sa_cons (sv 2) (sa_cons (sv 1) sa_nil))) sa_nil))))) (ss_one (ss_ret se_bl)) ss_nil) (ss_one (ss_ret (se_call (cal_law_told T) (hr.mono (by decide)) (sa_cons (se_call (cal_best_answer T) (hr.mono (by decide)) (sa_cons (sv 0) sa_nil)) (sa_cons (se_call (cal_law_most T) (hr.mono (by decide)) (sa_cons (sv 0) sa_nil)) sa_nil)))))))))
theorem cal_law_some_peace (T : Txt K mg) : Cal P w K mg base 4 "_law_some_peace" 2 G_law_some_peace := cal_mk T.d_law_some_peace sc_law_some_peace rfl rfl fun f cdv A outer s H E hr =>
  have nd := sc_law_some_peace.nd
  show SSs _ W0 (defBody (topS 37)) raw_law_some_peace from
  (ss_cons (ss_set 2 nd se_int) (ss_cons (ss_for PassesOwn.never rfl (si_seq (se_clean (se_call (cal_law_some T) (hr.mono (by decide)) (sa_cons (sv 0) (sa_cons (se_lrg rfl T.b_list T.b_range (se_callB calls_len T.b_len (sa_cons (sv 1) sa_nil))) (sa_cons (se_call (cal_law_draw T) (hr.mono (by decide)) (sa_cons (sv 0) (sa_cons (se_bin ops_add (se_callB calls_len T.b_len (sa_cons (sv 1) sa_nil)) se_int) sa_nil))) sa_nil)))))) (sp_nm 3 nd) (ss_one (ss_if (st_cmp (ops_eq hr.units) (se_bin ops_and (se_ix (sv 1) (sv 3)) (sv 2)) se_int) (ss_one (ss_set 2 nd (se_bin ops_or (sv 2) (se_bin ops_shl se_int (sv 3))))) ss_nil))) (ss_one (ss_ret (sv 2)))))
theorem cal_law_told_by_rows (T : Txt K mg) : Cal P w K mg base 4 "_law_told_by_rows" 3 G_law_told_by_rows := cal_mk T.d_law_told_by_rows sc_law_told_by_rows rfl rfl fun f cdv A outer s H E hr =>
  have nd := sc_law_told_by_rows.nd
  show SSs _ W0 (defBody (topS 38)) raw_law_told_by_rows from
  (ss_cons (ss_set 3 nd (se_call (cal_law_rows_of T) (hr.mono (by decide)) (sa_cons (sv 2) sa_nil))) (ss_cons (ss_set 4 nd (se_call (cal_answer_of_rows T) (hr.mono (by decide)) (sa_cons (sv 0) (sa_cons (sv 3) sa_nil)))) (ss_cons (ss_if (st_not (st_tru (se_call (cal_law_told T) (hr.mono (by decide)) (sa_cons (sv 4) (sa_cons (se_clean (se_call (cal_law_told_signs T) (hr.mono (by decide)) (sa_cons (se_ix (sv 0) se_int) (sa_cons (se_call (cal_law_cells_of T) (hr.mono (by decide)) (sa_cons (sv 0) sa_nil)) (sa_cons (sv 3) sa_nil))))) sa_nil))))) (ss_one (ss_ret se_bl)) ss_nil) (ss_one (ss_ret (se_and (se_call (cal_law_calm T) (hr.mono (by decide)) (sa_cons (sv 1) (sa_cons (sv 2) sa_nil))) (se_one (se_cmp ops_ge (se_callB calls_len T.b_len (sa_cons (se_call (cal_law_held T) (hr.mono (by decide)) (sa_cons (sv 0) (sa_cons (sv 4) sa_nil))) sa_nil)) (se_callB calls_len T.b_len (sa_cons (sv 3) sa_nil))))))))))
theorem fn_law (T : Txt K mg) (f0 : Addr) (fd : FuncData) (F : Fun K "law" "law" (topS 39) f0 fd) : FnOk P w K mg base CX0 5 f0 fd ["script"] (spD K 1 G_law) := fn_mk F sc_law rfl rfl fun f cdv A outer s H E hr =>
  have nd := sc_law.nd
  show SSs _ W0 (defBody (topS 39)) raw_law from
  (ss_cons (ss_set 1 nd (se_call (cal_law_begin T) (hr.mono (by decide)) (sa_cons (sv 0) sa_nil))) (ss_cons (ss_set 2 nd (se_call (cal_law_drawn_puzzle T) (hr.mono (by decide)) (sa_cons (sv 1) sa_nil))) (ss_cons (ss_set 3 nd (se_clean (se_callTy calls_tuple T.b_tuple (sa_cons (se_comp rfl nd (si_rg1 T.b_range (se_ix (sv 2) se_int)) (blkOk_by (own := [("k", 6)]) (by show blkC ["script", "d", "puzzle", "guess", "near", "one", "k", "other", "most", "signs", "chosen"] (defScope (topS 39)) _ _ = true; decide +kernel)) (by decide) (fun _ _ _ _ _ => (sp_nm 6 nd)) (fun _ _ _ _ _ => sts_nil) (fun _ _ _ _ _ => (se_call (cal_law_draw T) (hr.mono (by decide)) (sa_cons (sv 1) (sa_cons se_int sa_nil))))) sa_nil)))) (ss_cons (ss_if (st_not (st_tru (se_call (cal_law_asked T) (hr.mono (by decide)) (sa_cons (sv 2) (sa_cons (sv 3) sa_nil))))) (ss_one (ss_ret se_bl)) ss_nil) (ss_cons (ss_set 4 nd (se_call (cal_law_web T) (hr.mono (by decide)) (sa_cons (se_tup (sa_cons se_int (sa_cons (se_tup (sa_cons (se_tup (sa_cons se_int (sa_cons se_int sa_nil))) (sa_cons (se_tup (sa_cons se_int (sa_cons se_int sa_nil))) sa_nil))) sa_nil))) (sa_cons (se_call (cal_sayings_table T) (hr.mono (by decide)) (sa_cons (sv 2) sa_nil)) sa_nil)))) (ss_cons (ss_pat (sp_tp rfl (sps_cons (sp_nm 8 nd) (sps_cons (sp_nm 9 nd) sps_nil))) (se_call (cal_law_most T) (hr.mono (by decide)) (sa_cons (sv 2) sa_nil))) (ss_cons (ss_for PassesOwn.never rfl (si_seq (se_lst (sa_cons (sv 3) (sa_cons (sv 9) sa_nil)))) (sp_nm 5 nd) (ss_cons (ss_set 10 nd (se_call (cal_rows_of_answer T) (hr.mono (by decide)) (sa_cons (sv 2) (sa_cons (sv 5) sa_nil)))) (ss_cons (ss_if (st_not (st_tru (se_call (cal_law_told T) (hr.mono (by decide)) (sa_cons (sv 10) (sa_cons (se_clean (se_call (cal_law_first_rows T) (hr.mono (by decide)) (sa_cons (se_call (cal_law_cells_of T) (hr.mono (by decide)) (sa_cons (sv 2) sa_nil)) (sa_cons (sv 5) sa_nil)))) sa_nil))))) (ss_one (ss_ret se_bl)) ss_nil) (ss_one (ss_if (sw_pt (sw_or (st_cmp (ops_ne hr.units) (se_callB calls_len T.b_len (sa_cons (sv 10) sa_nil)) (se_callB calls_len T.b_len (sa_cons (se_call (cal_law_held T) (hr.mono (by decide)) (sa_cons (sv 2) (sa_cons (sv 5) sa_nil))) sa_nil))) (sw_or1 (st_not (st_tru (se_call (cal_law_told_by_rows T) (hr.mono (by decide)) (sa_cons (sv 2) (sa_cons (sv 4) (sa_cons (se_call (cal_law_mask T) (hr.mono (by decide)) (sa_cons (sv 10) sa_nil)) sa_nil))))))))) (ss_one (ss_ret se_bl)) ss_nil))))) (ss_cons (ss_for PassesOwn.never rfl (si_rg1 T.b_range se_int) (sp_nm 6 nd) (ss_one (ss_if (st_not (st_tru (se_call (cal_law_told_by_rows T) (hr.mono (by decide)) (sa_cons (sv 2) (sa_cons (sv 4) (sa_cons (se_call (cal_law_some_peace T) (hr.mono (by decide)) (sa_cons (sv 1) (sa_cons (sv 4) sa_nil))) sa_nil)))))) (ss_one (ss_ret se_bl)) ss_nil))) (ss_cons (ss_if (sw_pt (sw_and (st_cmp ops_lt (se_callB calls_len T.b_len (sa_cons (sv 4) sa_nil)) se_int) (sw_and1 (st_cmp (ops_ne hr.units) (se_clean (se_call (cal_law_best T) (hr.mono (by decide)) (sa_cons (sv 4) (sa_cons (se_clean (se_bin ops_mul (se_lst (sa_cons se_int sa_nil)) (se_callB calls_len T.b_len (sa_cons (sv 4) sa_nil)))) sa_nil)))) (sv 8))))) (ss_one (ss_ret se_bl)) ss_nil) (ss_cons (ss_set 7 nd (se_call (cal_law_other T) (hr.mono (by decide)) (sa_cons (sv 1) (sa_cons (sv 2) sa_nil)))) (ss_cons (ss_if (st_not (st_tru (se_call (cal_law_asked T) (hr.mono (by decide)) (sa_cons (sv 7) (sa_cons (se_clean (se_callTy calls_tuple T.b_tuple (sa_cons (se_comp rfl nd (si_rg1 T.b_range (se_ix (sv 7) se_int)) (blkOk_by (own := [("k", 6)]) (by show blkC ["script", "d", "puzzle", "guess", "near", "one", "k", "other", "most", "signs", "chosen"] (defScope (topS 39)) _ _ = true; decide +kernel)) (by decide) (fun _ _ _ _ _ => (sp_nm 6 nd)) (fun _ _ _ _ _ => sts_nil) (fun _ _ _ _ _ => (se_call (cal_law_draw T) (hr.mono (by decide)) (sa_cons (sv 1) (sa_cons se_int sa_nil))))) sa_nil))) sa_nil))))) (ss_one (ss_ret se_bl)) ss_nil) (ss_one (ss_ret (se_and (se_call (cal_law_told_by_rows T) (hr.mono (by decide)) (sa_cons (sv 2) (sa_cons (sv 4) (sa_cons se_int sa_nil)))) (se_one (se_call (cal_law_asked T) (hr.mono (by decide)) (sa_cons (sv 2) (sa_cons (sv 3) sa_nil))))))))))))))))))
end
end K66

open PySem PySem.W PyProof.Rows
set_option maxHeartbeats 0 in
theorem PySem.Challenge.cw_rowtruce_k66_sayings_and_rows_holds : PySem.Challenge.rw_rowtruce_k66_sayings_and_rows.Holds := by
  w_on; o_law; k_head; (case hw => w_witness2)
  k_fill
  refine L2.walk_of (l := PySem.Challenge.rw_rowtruce_k66_sayings_and_rows) (n := 63) (k := 5) (x := "script")
    (CX := fun _ => L2.CX0) (sp := fun w => DL.spD _ 1 K66.G_law) rfl (by decide) rfl ⟨rfl, by decide, by decide⟩
    (fun w h Y => PySem.W.kIn_of Y) ?F (fun _ _ a ns hl _ hS => DL.scr_end K66.law_eq hl hS) (fun _ _ _ _ _ h => h)
  case F =>
    intro w mg fa h KX G hmg
    refine' (fun T : K66.Txt _ mg => DL.law_end T.d_law hmg (fun _ _ _ _ _ _ _ => rfl) (fun base f fd F => K66.fn_law T f fd F)) ?T
    case T =>
      refine' ⟨?d_plain_table, ?d_sayings_table, ?d_holding, ?d_rows_of_answer, ?d_answer_of_rows, ?d_answers_of, ?d_best_answer, ?d_law_begin, ?d_law_draw, ?d_law_pick, ?d_law_shuffled, ?d_law_some, ?d_law_is_int, ?d_law_plain, ?d_law_bits, ?d_law_mask, ?d_law_within, ?d_law_agree, ?d_law_clash, ?d_law_web, ?d_law_calm, ?d_law_peaces, ?d_law_weigh, ?d_law_best, ?d_law_rows_of, ?d_law_drawn_puzzle, ?d_law_other, ?d_law_cells_of, ?d_law_held, ?d_law_first_rows, ?d_law_told_signs, ?d_law_most, ?d_law_told, ?d_law_asked, ?d_law_some_peace, ?d_law_told_by_rows, ?d_law, ?b_abs, ?b_any, ?b_bool, ?b_enumerate, ?b_int, ?b_isinstance, ?b_len, ?b_list, ?b_max, ?b_min, ?b_range, ?b_sorted, ?b_str, ?b_sum, ?b_tuple⟩
      case d_plain_table =>
        refine' DL.isdef_of KX G ?a ?l ?c ?k ?b
        (case a => k_is); (case l => k_is); (case c => k_is); (case k => k_is)
        (case b => exact fun _ _ _ _ _ _ us hl => match us, hl with | [_], _ => rfl)
      case d_sayings_table =>
        refine' DL.isdef_of KX G ?a ?l ?c ?k ?b
        (case a => k_is); (case l => k_is); (case c => k_is); (case k => k_is)
        (case b => exact fun _ _ _ _ _ _ us hl => match us, hl with | [_], _ => rfl)
      case d_holding =>
        refine' DL.isdef_of KX G ?a ?l ?c ?k ?b
        (case a => k_is); (case l => k_is); (case c => k_is); (case k => k_is)
        (case b => exact fun _ _ _ _ _ _ us hl => match us, hl with | [_, _], _ => rfl)
      case d_rows_of_answer =>
        refine' DL.isdef_of KX G ?a ?l ?c ?k ?b
        (case a => k_is); (case l => k_is); (case c => k_is); (case k => k_is)
        (case b => exact fun _ _ _ _ _ _ us hl => match us, hl with | [_, _], _ => rfl)
      case d_answer_of_rows =>
        refine' DL.isdef_of KX G ?a ?l ?c ?k ?b
        (case a => k_is); (case l => k_is); (case c => k_is); (case k => k_is)
        (case b => exact fun _ _ _ _ _ _ us hl => match us, hl with | [_, _], _ => rfl)
      case d_answers_of =>
        refine' DL.isdef_of KX G ?a ?l ?c ?k ?b
        (case a => k_is); (case l => k_is); (case c => k_is); (case k => k_is)
        (case b => exact fun _ _ _ _ _ _ us hl => match us, hl with | [_], _ => rfl)
      case d_best_answer =>
        refine' DL.isdef_of KX G ?a ?l ?c ?k ?b
        (case a => k_is); (case l => k_is); (case c => k_is); (case k => k_is)
        (case b => exact fun _ _ _ _ _ _ us hl => match us, hl with | [_], _ => rfl)
      case d_law_begin =>
        refine' DL.isdef_of KX G ?a ?l ?c ?k ?b
        (case a => k_is); (case l => k_is); (case c => k_is); (case k => k_is)
        (case b => exact fun _ _ _ _ _ _ us hl => match us, hl with | [_], _ => rfl)
      case d_law_draw =>
        refine' DL.isdef_of KX G ?a ?l ?c ?k ?b
        (case a => k_is); (case l => k_is); (case c => k_is); (case k => k_is)
        (case b => exact fun _ _ _ _ _ _ us hl => match us, hl with | [_, _], _ => rfl)
      case d_law_pick =>
        refine' DL.isdef_of KX G ?a ?l ?c ?k ?b
        (case a => k_is); (case l => k_is); (case c => k_is); (case k => k_is)
        (case b => exact fun _ _ _ _ _ _ us hl => match us, hl with | [_, _], _ => rfl)
      case d_law_shuffled =>
        refine' DL.isdef_of KX G ?a ?l ?c ?k ?b
        (case a => k_is); (case l => k_is); (case c => k_is); (case k => k_is)
        (case b => exact fun _ _ _ _ _ _ us hl => match us, hl with | [_, _], _ => rfl)
      case d_law_some =>
        refine' DL.isdef_of KX G ?a ?l ?c ?k ?b
        (case a => k_is); (case l => k_is); (case c => k_is); (case k => k_is)
        (case b => exact fun _ _ _ _ _ _ us hl => match us, hl with | [_, _, _], _ => rfl)
      case d_law_is_int =>
        refine' DL.isdef_of KX G ?a ?l ?c ?k ?b
        (case a => k_is); (case l => k_is); (case c => k_is); (case k => k_is)
        (case b => exact fun _ _ _ _ _ _ us hl => match us, hl with | [_], _ => rfl)
      case d_law_plain =>
        refine' DL.isdef_of KX G ?a ?l ?c ?k ?b
        (case a => k_is); (case l => k_is); (case c => k_is); (case k => k_is)
        (case b => exact fun _ _ _ _ _ _ us hl => match us, hl with | [_], _ => rfl)
      case d_law_bits =>
        refine' DL.isdef_of KX G ?a ?l ?c ?k ?b
        (case a => k_is); (case l => k_is); (case c => k_is); (case k => k_is)
        (case b => exact fun _ _ _ _ _ _ us hl => match us, hl with | [_], _ => rfl)
      case d_law_mask =>
        refine' DL.isdef_of KX G ?a ?l ?c ?k ?b
        (case a => k_is); (case l => k_is); (case c => k_is); (case k => k_is)
        (case b => exact fun _ _ _ _ _ _ us hl => match us, hl with | [_], _ => rfl)
      case d_law_within =>
        refine' DL.isdef_of KX G ?a ?l ?c ?k ?b
        (case a => k_is); (case l => k_is); (case c => k_is); (case k => k_is)
        (case b => exact fun _ _ _ _ _ _ us hl => match us, hl with | [_, _], _ => rfl)
      case d_law_agree =>
        refine' DL.isdef_of KX G ?a ?l ?c ?k ?b
        (case a => k_is); (case l => k_is); (case c => k_is); (case k => k_is)
        (case b => exact fun _ _ _ _ _ _ us hl => match us, hl with | [_, _], _ => rfl)
      case d_law_clash =>
        refine' DL.isdef_of KX G ?a ?l ?c ?k ?b
        (case a => k_is); (case l => k_is); (case c => k_is); (case k => k_is)
        (case b => exact fun _ _ _ _ _ _ us hl => match us, hl with | [_, _, _], _ => rfl)
      case d_law_web =>
        refine' DL.isdef_of KX G ?a ?l ?c ?k ?b
        (case a => k_is); (case l => k_is); (case c => k_is); (case k => k_is)
        (case b => exact fun _ _ _ _ _ _ us hl => match us, hl with | [_, _], _ => rfl)
      case d_law_calm =>
        refine' DL.isdef_of KX G ?a ?l ?c ?k ?b
        (case a => k_is); (case l => k_is); (case c => k_is); (case k => k_is)
        (case b => exact fun _ _ _ _ _ _ us hl => match us, hl with | [_, _], _ => rfl)
      case d_law_peaces =>
        refine' DL.isdef_of KX G ?a ?l ?c ?k ?b
        (case a => k_is); (case l => k_is); (case c => k_is); (case k => k_is)
        (case b => exact fun _ _ _ _ _ _ us hl => match us, hl with | [_], _ => rfl)
      case d_law_weigh =>
        refine' DL.isdef_of KX G ?a ?l ?c ?k ?b
        (case a => k_is); (case l => k_is); (case c => k_is); (case k => k_is)
        (case b => exact fun _ _ _ _ _ _ us hl => match us, hl with | [_, _], _ => rfl)
      case d_law_best =>
        refine' DL.isdef_of KX G ?a ?l ?c ?k ?b
        (case a => k_is); (case l => k_is); (case c => k_is); (case k => k_is)
        (case b => exact fun _ _ _ _ _ _ us hl => match us, hl with | [_, _], _ => rfl)
      case d_law_rows_of =>
        refine' DL.isdef_of KX G ?a ?l ?c ?k ?b
        (case a => k_is); (case l => k_is); (case c => k_is); (case k => k_is)
        (case b => exact fun _ _ _ _ _ _ us hl => match us, hl with | [_], _ => rfl)
      case d_law_drawn_puzzle =>
        refine' DL.isdef_of KX G ?a ?l ?c ?k ?b
        (case a => k_is); (case l => k_is); (case c => k_is); (case k => k_is)
        (case b => exact fun _ _ _ _ _ _ us hl => match us, hl with | [_], _ => rfl)
      case d_law_other =>
        refine' DL.isdef_of KX G ?a ?l ?c ?k ?b
        (case a => k_is); (case l => k_is); (case c => k_is); (case k => k_is)
        (case b => exact fun _ _ _ _ _ _ us hl => match us, hl with | [_, _], _ => rfl)
      case d_law_cells_of =>
        refine' DL.isdef_of KX G ?a ?l ?c ?k ?b
        (case a => k_is); (case l => k_is); (case c => k_is); (case k => k_is)
        (case b => exact fun _ _ _ _ _ _ us hl => match us, hl with | [_], _ => rfl)
      case d_law_held =>
        refine' DL.isdef_of KX G ?a ?l ?c ?k ?b
        (case a => k_is); (case l => k_is); (case c => k_is); (case k => k_is)
        (case b => exact fun _ _ _ _ _ _ us hl => match us, hl with | [_, _], _ => rfl)
      case d_law_first_rows =>
        refine' DL.isdef_of KX G ?a ?l ?c ?k ?b
        (case a => k_is); (case l => k_is); (case c => k_is); (case k => k_is)
        (case b => exact fun _ _ _ _ _ _ us hl => match us, hl with | [_, _], _ => rfl)
      case d_law_told_signs =>
        refine' DL.isdef_of KX G ?a ?l ?c ?k ?b
        (case a => k_is); (case l => k_is); (case c => k_is); (case k => k_is)
        (case b => exact fun _ _ _ _ _ _ us hl => match us, hl with | [_, _, _], _ => rfl)
      case d_law_most =>
        refine' DL.isdef_of KX G ?a ?l ?c ?k ?b
        (case a => k_is); (case l => k_is); (case c => k_is); (case k => k_is)
        (case b => exact fun _ _ _ _ _ _ us hl => match us, hl with | [_], _ => rfl)
      case d_law_told =>
        refine' DL.isdef_of KX G ?a ?l ?c ?k ?b
        (case a => k_is); (case l => k_is); (case c => k_is); (case k => k_is)
        (case b => exact fun _ _ _ _ _ _ us hl => match us, hl with | [_, _], _ => rfl)
      case d_law_asked =>
        refine' DL.isdef_of KX G ?a ?l ?c ?k ?b
        (case a => k_is); (case l => k_is); (case c => k_is); (case k => k_is)
        (case b => exact fun _ _ _ _ _ _ us hl => match us, hl with | [_, _], _ => rfl)
      case d_law_some_peace =>
        refine' DL.isdef_of KX G ?a ?l ?c ?k ?b
        (case a => k_is); (case l => k_is); (case c => k_is); (case k => k_is)
        (case b => exact fun _ _ _ _ _ _ us hl => match us, hl with | [_, _], _ => rfl)
      case d_law_told_by_rows =>
        refine' DL.isdef_of KX G ?a ?l ?c ?k ?b
        (case a => k_is); (case l => k_is); (case c => k_is); (case k => k_is)
        (case b => exact fun _ _ _ _ _ _ us hl => match us, hl with | [_, _, _], _ => rfl)
      case d_law =>
        refine' DL.isdef_of KX G ?a ?l ?c ?k ?b
        (case a => k_is); (case l => k_is); (case c => k_is); (case k => k_is)
        (case b => exact fun _ _ _ _ _ _ us hl => match us, hl with | [_], _ => rfl)
      case b_abs => exact PySem.W.mg_none_of KX G (by k_is)
      case b_any => exact PySem.W.mg_none_of KX G (by k_is)
      case b_bool => exact PySem.W.mg_none_of KX G (by k_is)
      case b_enumerate => exact PySem.W.mg_none_of KX G (by k_is)
      case b_int => exact PySem.W.mg_none_of KX G (by k_is)
      case b_isinstance => exact PySem.W.mg_none_of KX G (by k_is)
      case b_len => exact PySem.W.mg_none_of KX G (by k_is)
      case b_list => exact PySem.W.mg_none_of KX G (by k_is)
      case b_max => exact PySem.W.mg_none_of KX G (by k_is)
      case b_min => exact PySem.W.mg_none_of KX G (by k_is)
      case b_range => exact PySem.W.mg_none_of KX G (by k_is)
      case b_sorted => exact PySem.W.mg_none_of KX G (by k_is)
      case b_str => exact PySem.W.mg_none_of KX G (by k_is)
      case b_sum => exact PySem.W.mg_none_of KX G (by k_is)
      case b_tuple => exact PySem.W.mg_none_of KX G (by k_is)


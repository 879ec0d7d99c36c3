import PyProof.Rows.All
import Wide.All
import OpenK.AllK
import Wide.FinOn
import HandS.ForMost
import HandS.ForExc
import HandS.Deep
import HandS.TupAny
import HandS.IsInst
import HandS.Wide
import HandS.Zip
import HandS.Dict
import HandS.Iter
import HandS.Conv
import KE.KDictKeyed
import KE.KDictLaw
import KE.KDictWalk
import KE.KDictList
import KE.KDictCopyH
import KE.KDictPairs
import KE.KDictZip
import KE.KDictDisplayH
import KE.GoesEnum
import HandS.SortRule
import HandS.ExcIs
import HandS.SortInts
import HandS.TupMul
import PySem.Challenge.RW_losspact_k52_callers
set_option Elab.async false
set_option linter.all false
set_option maxRecDepth 100000
set_option maxHeartbeats 4000000
set_option synthInstance.maxSize 4000
section
/-! Ab: plain data under the hand layer. D is a value told without addresses; R says that a value of the layer bears it; Abs that the slots, the temporaries and the heap bear what is told. -/
namespace Ab
open PySem PySem.Spec PyProof.Rows L2

/-- a value, told without addresses: lst, fdi are never changed again (fro: a list that may be the law's own script); mut, mdi stand at an address of their own; al i is what slot i owns -/
inductive D where
  | non | bl (b : Bool) | int (i : Int) | str (x : Str)
  | tup (ds : List D) | lst (ds : List D) | mu (ds : List D) | fro (ds : List D)
  | fdi (n : Bool) (ks vs : List D) | mdi (n : Bool) (ks vs : List D)
  | al (i : Nat) | exc (u : HO) | obj (c : Str) (fs : List Str) (vs : List D) | ty (n : String)
  deriving Inhabited

abbrev Sl := List (Option D)
/-- what comes of an expression or a statement -/
inductive Ou (α : Type) where
  | ok (a : α) (A : Sl) | exc (c : Str) (A : Sl) | stuck
def Ou.bind {α β : Type} (x : Ou α) (f : α → Sl → Ou β) : Ou β :=
  match x with | .ok a A => f a A | .exc c A => .exc c A | .stuck => .stuck
@[simp] theorem Ou.bind_ok {α β : Type} (a : α) (A : Sl) (f : α → Sl → Ou β) : (Ou.ok a A).bind f = f a A := rfl
@[simp] theorem Ou.bind_exc {α β : Type} (c : Str) (A : Sl) (f : α → Sl → Ou β) : (Ou.exc c A : Ou α).bind f = .exc c A := rfl
@[simp] theorem Ou.bind_stuck {α β : Type} (f : α → Sl → Ou β) : (Ou.stuck : Ou α).bind f = .stuck := rfl
abbrev FE := Sl → Ou D
abbrev FA := Sl → Ou (List D)
abbrev FT := Sl → Ou Bool
inductive Fl where
  | next | brk | cont | ret (d : D)
abbrev FS := Sl → Ou Fl

/-- the fragment and the world -/
structure Fw where
  f : PySem.W.Frag
  w : World
instance : CoeOut Fw PySem.W.Frag := ⟨Fw.f⟩
/- a told key -/
mutual
def nkD : D → Option NestedKey
  | .non => some .none | .bl b => some (.num (if b = true then 1 else 0)) | .int i => some (.num i) | .str x => some (.text x)
  | .tup ds => (nkDs ds).map .tup
  | .lst _ => none | .mu _ => none | .fro _ => none | .fdi .. => none | .mdi .. => none | .al _ => none | .exc _ => none | .obj .. => none | .ty _ => none
def nkDs : List D → Option (List NestedKey)
  | [] => some []
  | d :: ds => match nkD d, nkDs ds with
    | some k, some ks => some (k :: ks)
    | _, _ => none
end
/-- a dict with tuple keys, by its entries -/
def ndHO (w : World) (p : Addr) (ep : Nat) (xs : List (NestedKey × Addr × Value)) : HO := .ext fun h => ∃ o es, h.get? p = some o ∧ o.ExactDict ∧ o.data = .dict es ep ∧ es.toList = xs.map fun x => ⟨NestedKey.hash w x.1, .ref x.2.1, x.2.2⟩
/-- what stands where a dict is told: its keys and values -/
inductive DicO (w : World) (p : Addr) : Bool → HO → List D → List V → List V → Prop
  | nd {ep : Nat} {xs : List (NestedKey × Addr × Value)} {ks : List D} {vs : List V} : (p == sysModules) = false → xs.length ≤ sizeLine → (xs.map (·.1)).Nodup → (∀ x ∈ xs, x.1.depth ≤ 8) → Vals vs (xs.map (·.2.2)) → ks.map nkD = xs.map (fun x => some x.1) → DicO w p true (ndHO w p ep xs) ks (xs.map fun x => V.ref x.2.1) vs
  | ik {is : List Int} {vs : List V} : is.Nodup → is.length = vs.length → DicO w p false (.dK ((is.map Sum.inl).zip vs)) (is.map D.int) (is.map V.int) vs
mutual
inductive R (K : Fw) (G H : Hp) : V → D → List Addr → Prop
  | non : R K G H .non .non []
  | bl (b : Bool) : R K G H (.bl b) (.bl b) []
  | int (i : Int) : R K G H (.int i) (.int i) []
  | str (x : Str) : R K G H (.str x) (.str x) []
  | ty (n : String) : R K G H (.ty n) (.ty n) []
  | pin {a : Addr} {u : HO} : G a = some u → R K G H (.ref a) (.exc u) []
  | tup {a : Addr} {xs : List V} {ds : List D} {L : List Addr} : G a = some (.tup xs) → Rs K G H xs ds L → R K G H (.ref a) (.tup ds) L
  | lst {a : Addr} {xs : List V} {ds : List D} : G a = some (.lst xs) → Rs K G H xs ds [] → R K G H (.ref a) (.lst ds) []
  | fro {a : Addr} {xs : List V} {ds : List D} : SqL K G a xs → Rs K G H xs ds [] → R K G H (.ref a) (.fro ds) []
  | mu {p : Addr} {xs : List V} {ds : List D} {L : List Addr} : H p = some (.lst xs) → G p = none → Rs K G H xs ds L → R K G H (.ref p) (.mu ds) (p :: L)
  | fdi {p : Addr} {n : Bool} {o : HO} {ks ds : List D} {kv vs : List V} : G p = some o → DicO K.w p n o ks kv vs → Rs K G H kv ks [] → Rs K G H vs ds [] → R K G H (.ref p) (.fdi n ks ds) []
  | mdi {p : Addr} {n : Bool} {o : HO} {ks ds : List D} {kv vs : List V} {L : List Addr} : H p = some o → G p = none → DicO K.w p n o ks kv vs → Rs K G H kv ks [] → Rs K G H vs ds L → R K G H (.ref p) (.mdi n ks ds) (p :: L)
inductive Rs (K : Fw) (G H : Hp) : List V → List D → List Addr → Prop
  | nil : Rs K G H [] [] []
  | cons {v : V} {d : D} {L : List Addr} {vs : List V} {ds : List D} {L' : List Addr} : R K G H v d L → Rs K G H vs ds L' → Rs K G H (v :: vs) (d :: ds) (L ++ L')
end

theorem sq_l {K : PySem.W.Frag} {H H' : Hp} {a : Addr} {xs : List V} (e : Same H H') (h : SqL K H a xs) : SqL K H' a xs := e.seq h
theorem sq_t {K : PySem.W.Frag} {H H' : Hp} {a : Addr} {xs : List V} (e : Same H H') (h : SqT K H a xs) : SqT K H' a xs := by
  rcases h with (h | ⟨o, h⟩) | h
  · exact .inl (.inl (e _ _ h))
  · exact .inl (.inr ⟨o, e _ _ h⟩)
  · exact .inr h

section
variable {K : Fw} {G G' H H' : Hp}
mutual
/-- what is borne is borne further: the known part grows, what is owned stays -/
theorem R.mono (eg : Same G G') : ∀ {v : V} {d : D} {L : List Addr}, R K G H v d L → (∀ a ∈ L, H' a = H a ∧ G' a = none) → R K G' H' v d L
  | _, _, _, .non, _ => .non
  | _, _, _, .bl b, _ => .bl b
  | _, _, _, .int i, _ => .int i
  | _, _, _, .str x, _ => .str x
  | _, _, _, .ty x, _ => .ty x
  | _, _, _, .pin q, _ => .pin (eg _ _ q)
  | _, _, _, .tup q r, h => .tup (eg _ _ q) (Rs.mono eg r h)
  | _, _, _, .lst q r, h => .lst (eg _ _ q) (Rs.mono eg r h)
  | _, _, _, .fro q r, h => .fro (sq_l eg q) (Rs.mono eg r h)
  | _, _, _, .mu e n r, h => .mu ((h _ List.mem_cons_self).1.trans e) (h _ List.mem_cons_self).2 (Rs.mono eg r fun a ha => h a (List.mem_cons_of_mem _ ha))
  | _, _, _, .fdi q o k r, h => .fdi (eg _ _ q) o (Rs.mono eg k fun _ z => nomatch z) (Rs.mono eg r h)
  | _, _, _, .mdi e n o k r, h => .mdi ((h _ List.mem_cons_self).1.trans e) (h _ List.mem_cons_self).2 o (Rs.mono eg k fun _ z => nomatch z) (Rs.mono eg r fun a ha => h a (List.mem_cons_of_mem _ ha))
theorem Rs.mono (eg : Same G G') : ∀ {vs : List V} {ds : List D} {L : List Addr}, Rs K G H vs ds L → (∀ a ∈ L, H' a = H a ∧ G' a = none) → Rs K G' H' vs ds L
  | _, _, _, .nil, _ => .nil
  | _, _, _, .cons r t, h => .cons (R.mono eg r fun a ha => h a (List.mem_append_left _ ha)) (Rs.mono eg t fun a ha => h a (List.mem_append_right _ ha))
end
mutual
theorem R.own : ∀ {v : V} {d : D} {L : List Addr}, R K G H v d L → ∀ a ∈ L, G a = none ∧ H a ≠ none
  | _, _, _, .non, _, h => nomatch h
  | _, _, _, .bl b, _, h => nomatch h
  | _, _, _, .int i, _, h => nomatch h
  | _, _, _, .str x, _, h => nomatch h
  | _, _, _, .ty x, _, h => nomatch h
  | _, _, _, .pin _, _, h => nomatch h
  | _, _, _, .tup q r, a, h => Rs.own r a h
  | _, _, _, .lst q r, a, h => nomatch h
  | _, _, _, .fro q r, a, h => nomatch h
  | _, _, _, .mu e n r, a, h => by
    rcases List.mem_cons.mp h with h | h
    · rw [h]; exact ⟨n, by rw [e]; exact fun z => nomatch z⟩
    · exact Rs.own r a h
  | _, _, _, .fdi q o k r, a, h => nomatch h
  | _, _, _, .mdi e n o k r, a, h => by
    rcases List.mem_cons.mp h with h | h
    · rw [h]; exact ⟨n, by rw [e]; exact fun z => nomatch z⟩
    · exact Rs.own r a h
theorem Rs.own : ∀ {vs : List V} {ds : List D} {L : List Addr}, Rs K G H vs ds L → ∀ a ∈ L, G a = none ∧ H a ≠ none
  | _, _, _, .nil, _, h => nomatch h
  | _, _, _, .cons r t, a, h => by
    rcases List.mem_append.mp h with h | h
    · exact R.own r a h
    · exact Rs.own t a h
end
theorem Rs.length {vs : List V} {ds : List D} {L : List Addr} (r : Rs K G H vs ds L) : vs.length = ds.length := by
  induction vs generalizing ds L with
  | nil => cases r; rfl
  | cons v vs ih => cases r with | cons r t => simp [ih t]
theorem Rs.get : ∀ {vs : List V} {ds : List D} {L : List Addr} {i : Nat} {v : V}, Rs K G H vs ds L → vs[i]? = some v → ∃ d Li, ds[i]? = some d ∧ R K G H v d Li ∧ Li.Sublist L
  | _, _, _, i, v, .nil, e => by simp at e
  | _, _, _, 0, v, .cons (L := L) (L' := L') r t, e => by
    simp at e; subst e
    exact ⟨_, L, rfl, r, List.sublist_append_left _ _⟩
  | _, _, _, i + 1, v, .cons (L := L) (L' := L') r t, e => by
    obtain ⟨d, Li, h1, h2, h3⟩ := Rs.get (i := i) (v := v) t (by simpa using e)
    exact ⟨d, Li, by simpa using h1, h2, h3.trans (List.sublist_append_right _ _)⟩
theorem Rs.getD : ∀ {vs : List V} {ds : List D} {L : List Addr} {i : Nat} {d : D}, Rs K G H vs ds L → ds[i]? = some d → ∃ v Li, vs[i]? = some v ∧ R K G H v d Li ∧ Li.Sublist L
  | _, _, _, i, v, .nil, e => by simp at e
  | _, _, _, 0, v, .cons (L := L) (L' := L') r t, e => by
    simp at e; subst e
    exact ⟨_, L, rfl, r, List.sublist_append_left _ _⟩
  | _, _, _, i + 1, v, .cons (L := L) (L' := L') r t, e => by
    obtain ⟨d, Li, h1, h2, h3⟩ := Rs.getD (i := i) (d := v) t (by simpa using e)
    exact ⟨d, Li, by simpa using h1, h2, h3.trans (List.sublist_append_right _ _)⟩
theorem Rs.app : ∀ {vs ws : List V} {ds es : List D} {L M : List Addr}, Rs K G H vs ds L → Rs K G H ws es M → Rs K G H (vs ++ ws) (ds ++ es) (L ++ M)
  | _, _, _, _, _, _, .nil, s => s
  | _, _, _, _, _, _, .cons r t, s => by
    rw [List.append_assoc]
    exact .cons r (Rs.app t s)
theorem Rs.one {v : V} {d : D} {L : List Addr} (r : R K G H v d L) : Rs K G H [v] [d] L := by
  have := Rs.cons r (Rs.nil (K := K) (G := G) (H := H))
  simpa using this
/-- nothing owned: each item, by places -/
theorem Rs.nil_get {vs : List V} {ds : List D} {i : Nat} {v : V} {d : D} (r : Rs K G H vs ds []) (e1 : vs[i]? = some v) (e2 : ds[i]? = some d) : R K G H v d [] := by
  obtain ⟨d', Li, h1, h2, h3⟩ := r.get e1
  rw [e2] at h1; cases h1
  rw [List.sublist_nil.mp h3] at h2
  exact h2
end

/-! ### freezing -/
mutual
def fz : D → D
  | .mu ds => .lst (fzs ds)
  | .tup ds => .tup (fzs ds)
  | .non => .non | .bl b => .bl b | .int i => .int i | .str x => .str x | .lst ds => .lst ds | .fro ds => .fro ds | .fdi n ks vs => .fdi n ks vs | .mdi n ks vs => .fdi n ks (fzs vs) | .al i => .al i | .exc c => .exc c | .obj c fs vs => .obj c fs vs | .ty n => .ty n
def fzs : List D → List D
  | [] => []
  | d :: ds => fz d :: fzs ds
end
theorem fzs_map : ∀ ds : List D, fzs ds = ds.map fz
  | [] => by simp [fzs]
  | d :: ds => by simp [fzs, fzs_map ds]
/-- G with what is owned -/
def grab (G H : Hp) (L : List Addr) : Hp := fun a => if a ∈ L then H a else G a
theorem grab_same {G H : Hp} {L : List Addr} (h : ∀ a ∈ L, G a = none) : Same G (grab G H L) := fun a o e => by
  unfold grab
  by_cases m : a ∈ L
  · rw [h a m] at e; cases e
  · rw [if_neg m]; exact e
theorem grab_in {G H : Hp} {L : List Addr} {a : Addr} (h : a ∈ L) : grab G H L a = H a := if_pos h
theorem grab_out {G H : Hp} {L : List Addr} {a : Addr} (h : a ∉ L) : grab G H L a = G a := if_neg h
section
variable {K : Fw} {G G' H H' : Hp}
mutual
theorem R.fz (eg : Same G G') : ∀ {v : V} {d : D} {L : List Addr}, R K G H v d L → (∀ a ∈ L, G' a = H a) → R K G' H v (fz d) []
  | _, _, _, .non, _ => by rw [Ab.fz]; exact .non
  | _, _, _, .bl b, _ => by rw [Ab.fz]; exact .bl b
  | _, _, _, .int i, _ => by rw [Ab.fz]; exact .int i
  | _, _, _, .str x, _ => by rw [Ab.fz]; exact .str x
  | _, _, _, .ty x, _ => by rw [Ab.fz]; exact .ty x
  | _, _, _, .pin q, _ => by rw [Ab.fz]; exact .pin (eg _ _ q)
  | _, _, _, .tup q r, h => by rw [Ab.fz]; exact .tup (eg _ _ q) (Rs.fzs eg r h)
  | _, _, _, .lst q r, h => by rw [Ab.fz]; exact .lst (eg _ _ q) (Rs.mono eg r fun _ z => nomatch z)
  | _, _, _, .fro q r, h => by rw [Ab.fz]; exact .fro (sq_l eg q) (Rs.mono eg r fun _ z => nomatch z)
  | _, _, _, .mu e n r, h => by
    rw [Ab.fz]
    exact .lst ((h _ List.mem_cons_self).trans e) (Rs.fzs eg r fun a ha => h a (List.mem_cons_of_mem _ ha))
  | _, _, _, .fdi q o k r, h => by rw [Ab.fz]; exact .fdi (eg _ _ q) o (Rs.mono eg k fun _ z => nomatch z) (Rs.mono eg r fun _ z => nomatch z)
  | _, _, _, .mdi e n o k r, h => by
    rw [Ab.fz]
    exact .fdi ((h _ List.mem_cons_self).trans e) o (Rs.mono eg k fun _ z => nomatch z) (Rs.fzs eg r fun a ha => h a (List.mem_cons_of_mem _ ha))
theorem Rs.fzs (eg : Same G G') : ∀ {vs : List V} {ds : List D} {L : List Addr}, Rs K G H vs ds L → (∀ a ∈ L, G' a = H a) → Rs K G' H vs (fzs ds) []
  | _, _, _, .nil, _ => by rw [Ab.fzs]; exact .nil
  | _, _, _, .cons r t, h => by
    rw [Ab.fzs]
    exact Rs.cons (R.fz eg r fun a ha => h a (List.mem_append_left _ ha)) (Rs.fzs eg t fun a ha => h a (List.mem_append_right _ ha))
end
end

/-! ### slots, temporaries -/
structure Bs where
  G : Hp
  H : Hp
  ex : List Addr
section
variable (K : Fw)
inductive Sls (G H : Hp) : L2.St → Sl → List Addr → Prop
  | nil : Sls G H [] [] []
  | skip {o : Option V} {σ : L2.St} {A : Sl} {L : List Addr} : Sls G H σ A L → Sls G H (o :: σ) (none :: A) L
  | cons {v : V} {d : D} {L L' : List Addr} {σ : L2.St} {A : Sl} : R K G H v d L → Sls G H σ A L' → Sls G H (some v :: σ) (some d :: A) (L ++ L')
abbrev Ts := List (V × D)
inductive Tms (σ : L2.St) (G H : Hp) : Ts → List Addr → Prop
  | nil : Tms σ G H [] []
  | cons {v : V} {d : D} {L L' : List Addr} {ts : Ts} : R K G H v d L → Tms σ G H ts L' → Tms σ G H ((v, d) :: ts) (L ++ L')
  | al {v : V} {i : Nat} {L : List Addr} {ts : Ts} : σ[i]? = some (some v) → Tms σ G H ts L → Tms σ G H ((v, .al i) :: ts) L
/-- the ground: what is known, what stood at the entry -/
structure Gd (B : Bs) (G H : Hp) : Prop where
  gh : Same G H
  bg : Same B.G G
  bh : ∀ a o, a ∉ B.ex → B.H a = some o → H a = some o
  sep : ∀ a, a ∉ B.ex → B.H a ≠ none → B.G a = none → G a = none
  alive : ∀ a ∈ B.ex, H a ≠ none
def Own (B : Bs) (a : Addr) : Prop := B.H a = none ∨ a ∈ B.ex
/-- the state bears what is told -/
def Abs (B : Bs) (σ : L2.St) (A : Sl) (ts : Ts) (H : Hp) : Prop :=
  ∃ G L1 L2, Gd B G H ∧ Tms K σ G H ts L1 ∧ Sls K G H σ A L2 ∧ (L1 ++ L2).Nodup ∧ ∀ a ∈ L1 ++ L2, Own B a
end
section
variable {K : Fw} {B : Bs} {G G' H H' : Hp} {σ : L2.St} {A : Sl} {ts : Ts} {L : List Addr}
theorem Sls.mono (eg : Same G G') (s : Sls K G H σ A L) (h : ∀ a ∈ L, H' a = H a ∧ G' a = none) : Sls K G' H' σ A L := by
  induction s with
  | nil => exact .nil
  | skip _ ih => exact .skip (ih h)
  | cons r _ ih => exact .cons (r.mono eg fun a ha => h a (List.mem_append_left _ ha)) (ih fun a ha => h a (List.mem_append_right _ ha))
theorem Tms.mono (eg : Same G G') (s : Tms K σ G H ts L) (h : ∀ a ∈ L, H' a = H a ∧ G' a = none) : Tms K σ G' H' ts L := by
  induction s with
  | nil => exact .nil
  | al e _ ih => exact .al e (ih h)
  | cons r _ ih => exact .cons (r.mono eg fun a ha => h a (List.mem_append_left _ ha)) (ih fun a ha => h a (List.mem_append_right _ ha))
theorem Sls.own (s : Sls K G H σ A L) : ∀ a ∈ L, G a = none ∧ H a ≠ none := by
  induction s with
  | nil => exact fun _ h => nomatch h
  | skip _ ih => exact ih
  | cons r _ ih => exact fun a ha => (List.mem_append.mp ha).elim (r.own a) (ih a)
theorem Tms.own (s : Tms K σ G H ts L) : ∀ a ∈ L, G a = none ∧ H a ≠ none := by
  induction s with
  | nil => exact fun _ h => nomatch h
  | al _ _ ih => exact ih
  | cons r _ ih => exact fun a ha => (List.mem_append.mp ha).elim (r.own a) (ih a)
theorem Sls.len (s : Sls K G H σ A L) : σ.length = A.length := by
  induction s with
  | nil => rfl
  | skip _ ih => simp [ih]
  | cons _ _ ih => simp [ih]
/-- one slot taken out -/
theorem Sls.take {i : Nat} {d : D} (s : Sls K G H σ A L) (e : A[i]? = some (some d)) : ∃ v Li L', σ[i]? = some (some v) ∧ R K G H v d Li ∧ Sls K G H σ (A.set i none) L' ∧ L.Perm (Li ++ L') := by
  induction s generalizing i with
  | nil => simp at e
  | skip s ih =>
    cases i with
    | zero => simp at e
    | succ i =>
      obtain ⟨v, Li, L', h1, h2, h3, h4⟩ := ih (by simpa using e)
      exact ⟨v, Li, L', by simpa using h1, h2, by simpa using Sls.skip h3, h4⟩
  | cons r s ih =>
    rename_i v0 d0 L0 L1 σ0 A0
    cases i with
    | zero =>
      simp at e; subst e
      exact ⟨v0, L0, L1, rfl, r, by simpa using Sls.skip s, .refl _⟩
    | succ i =>
      obtain ⟨v, Li, L', h1, h2, h3, h4⟩ := ih (by simpa using e)
      refine ⟨v, Li, L0 ++ L', by simpa using h1, h2, by simpa using Sls.cons r h3, ?_⟩
      refine (List.Perm.append_left _ h4).trans ?_
      rw [← List.append_assoc, ← List.append_assoc]
      exact List.Perm.append_right _ List.perm_append_comm
/-- a slot's telling forgotten -/
theorem Sls.drop {i : Nat} (s : Sls K G H σ A L) : ∃ L', Sls K G H σ (A.set i none) L' ∧ L'.Sublist L := by
  induction s generalizing i with
  | nil => exact ⟨[], by simpa using Sls.nil, .refl _⟩
  | skip s ih =>
    cases i with
    | zero => exact ⟨_, by simpa using Sls.skip s, .refl _⟩
    | succ i =>
      obtain ⟨L', h1, h2⟩ := ih (i := i)
      exact ⟨L', by simpa using Sls.skip h1, h2⟩
  | cons r s ih =>
    rename_i v0 d0 L0 L1 σ0 A0
    cases i with
    | zero => exact ⟨L1, by simpa using Sls.skip s, List.sublist_append_right _ _⟩
    | succ i =>
      obtain ⟨L', h1, h2⟩ := ih (i := i)
      exact ⟨L0 ++ L', by simpa using Sls.cons r h1, List.Sublist.append_left h2 _⟩
/-- a slot that is told nothing of may hold anything -/
theorem Sls.any {i : Nat} {o : Option V} (s : Sls K G H σ A L) (e : A[i]? = some none ∨ A[i]? = none) : Sls K G H (σ.set i o) A L := by
  induction s generalizing i with
  | nil => simpa using Sls.nil
  | skip s ih =>
    cases i with
    | zero => simpa using Sls.skip s
    | succ i => simpa using Sls.skip (ih (i := i) (by simpa using e))
  | cons r s ih =>
    cases i with
    | zero => simp at e
    | succ i => simpa using Sls.cons r (ih (i := i) (by simpa using e))
/-- an untold slot is told -/
theorem Sls.put {i : Nat} {v : V} {d : D} {Li : List Addr} (s : Sls K G H σ A L) (e : A[i]? = some none) (ev : σ[i]? = some (some v)) (r : R K G H v d Li) : ∃ L', Sls K G H σ (A.set i (some d)) L' ∧ L'.Perm (Li ++ L) := by
  induction s generalizing i with
  | nil => simp at e
  | skip s ih =>
    cases i with
    | zero =>
      simp at ev; subst ev
      exact ⟨_, by simpa using Sls.cons r s, .refl _⟩
    | succ i =>
      obtain ⟨L', h1, h2⟩ := ih (i := i) (by simpa using e) (by simpa using ev)
      exact ⟨L', by simpa using Sls.skip h1, h2⟩
  | cons r0 s ih =>
    rename_i v0 d0 L0 L1 σ0 A0
    cases i with
    | zero => simp at e
    | succ i =>
      obtain ⟨L', h1, h2⟩ := ih (i := i) (by simpa using e) (by simpa using ev)
      refine ⟨L0 ++ L', by simpa using Sls.cons r0 h1, ?_⟩
      refine (List.Perm.append_left _ h2).trans ?_
      rw [← List.append_assoc, ← List.append_assoc]
      exact List.Perm.append_right _ List.perm_append_comm
/-! ### what a telling lets one do -/
/- no parts that are owned -/
mutual
def isF : D → Bool
  | .tup ds => isFs ds
  | .non => true | .bl _ => true | .int _ => true | .str _ => true | .ty _ => true | .lst _ => true | .fro _ => true
  | .fdi .. => true | .mu _ => false | .mdi .. => false | .al _ => false | .exc _ => false | .obj .. => false
def isFs : List D → Bool
  | [] => true
  | d :: ds => isF d && isFs ds
end
theorem isFs_all : ∀ ds : List D, isFs ds = ds.all isF
  | [] => by simp [isFs]
  | d :: ds => by simp [isFs, isFs_all ds]
mutual
theorem R.isF : ∀ {v : V} {d : D} {L : List Addr}, R K G H v d L → isF d = true → L = []
  | _, _, _, .non, _ => rfl
  | _, _, _, .bl b, _ => rfl
  | _, _, _, .int i, _ => rfl
  | _, _, _, .str x, _ => rfl
  | _, _, _, .ty x, _ => rfl
  | _, _, _, .tup q r, h => Rs.isFs r (by rw [Ab.isF] at h; exact h)
  | _, _, _, .lst q r, h => rfl
  | _, _, _, .fro q r, h => rfl
  | _, _, _, .mu e n r, h => by rw [Ab.isF] at h; cases h
  | _, _, _, .fdi q o k r, h => rfl
  | _, _, _, .mdi e n o k r, h => by rw [Ab.isF] at h; cases h
theorem Rs.isFs : ∀ {vs : List V} {ds : List D} {L : List Addr}, Rs K G H vs ds L → isFs ds = true → L = []
  | _, _, _, .nil, _ => rfl
  | _, _, _, .cons r t, h => by
    rw [Ab.isFs, Bool.and_eq_true] at h
    rw [R.isF r h.1, Rs.isFs t h.2]; rfl
end
/-- not changed by the state: it is told of what is known alone -/
theorem R.free (eg : Same G G') {v : V} {d : D} (r : R K G H v d []) : R K G' H' v d [] := r.mono eg fun _ h => nomatch h
theorem Rs.free (eg : Same G G') {v : List V} {d : List D} (r : Rs K G H v d []) : Rs K G' H' v d [] := r.mono eg fun _ h => nomatch h
theorem Abs.drop {p : V × D} (h : Abs K B σ A (p :: ts) H) : Abs K B σ A ts H := by
  obtain ⟨G, L1, L2, gd, tm, sl, nd, ow⟩ := h
  cases tm with
  | cons r t =>
    rename_i La Lb
    refine ⟨G, Lb, L2, gd, t, sl, ?_, fun a ha => ow a ?_⟩
    · rw [List.append_assoc] at nd; exact (List.nodup_append.mp nd).2.1
    · rw [List.append_assoc]; exact List.mem_append_right _ ha
  | al e t => exact ⟨G, L1, L2, gd, t, sl, nd, ow⟩
theorem Abs.dropn {ps : Ts} (h : Abs K B σ A (ps ++ ts) H) : Abs K B σ A ts H := by
  induction ps with
  | nil => exact h
  | cons p ps ih => exact ih h.drop
/-- a value that is borne at every ground -/
theorem Abs.scal {v : V} {d : D} (h : Abs K B σ A ts H) (r : ∀ G, R K G H v d []) : Abs K B σ A ((v, d) :: ts) H := by
  obtain ⟨G, L1, L2, gd, tm, sl, nd, ow⟩ := h
  exact ⟨G, L1, L2, gd, by simpa using Tms.cons (r G) tm, sl, nd, ow⟩
/-- in another order -/
theorem Tms.perm {ts' : Ts} (p : ts.Perm ts') : ∀ {L : List Addr}, Tms K σ G H ts L → ∃ L', Tms K σ G H ts' L' ∧ L.Perm L' := by
  induction p with
  | nil => exact fun {L} t => ⟨L, t, .refl _⟩
  | cons x _ ih =>
    intro L t
    cases t with
    | cons r t =>
      obtain ⟨L', h1, h2⟩ := ih t
      exact ⟨_, .cons r h1, List.Perm.append_left _ h2⟩
    | al e t =>
      obtain ⟨L', h1, h2⟩ := ih t
      exact ⟨_, .al e h1, h2⟩
  | swap x y l =>
    intro L t
    cases t with
    | cons r t =>
      cases t with
      | cons r' t =>
        rename_i La _ Lb Lc
        refine ⟨_, .cons r' (.cons r t), ?_⟩
        rw [← List.append_assoc, ← List.append_assoc]
        exact List.Perm.append_right _ List.perm_append_comm
      | al e t => exact ⟨_, .al e (.cons r t), .refl _⟩
    | al e t =>
      cases t with
      | cons r' t => exact ⟨_, .cons r' (.al e t), .refl _⟩
      | al e' t => exact ⟨_, .al e' (.al e t), .refl _⟩
  | trans _ _ ih1 ih2 =>
    intro L t
    obtain ⟨L1, h1, p1⟩ := ih1 t
    obtain ⟨L2, h2, p2⟩ := ih2 h1
    exact ⟨L2, h2, p1.trans p2⟩
theorem nodup_perm {L L' : List Addr} (p : L.Perm L') (h : L.Nodup) : L'.Nodup := p.nodup_iff.mp h
theorem Abs.perm {ts' : Ts} (p : ts.Perm ts') (h : Abs K B σ A ts H) : Abs K B σ A ts' H := by
  obtain ⟨G, L1, L2, gd, tm, sl, nd, ow⟩ := h
  obtain ⟨L', tm', q⟩ := tm.perm p
  have qq : (L1 ++ L2).Perm (L' ++ L2) := List.Perm.append_right _ q
  exact ⟨G, L', L2, gd, tm', sl, nodup_perm qq nd, fun a ha => ow a (qq.mem_iff.mpr ha)⟩
/-- a value laid behind a step that changes nothing that stood -/
theorem step_core {v : V} {d : D} {H' : Hp} {L1 L2 : List Addr} (gd : Gd B G H) (tm : Tms K σ G H ts L1) (sl : Sls K G H σ A L2) (nd : (L1 ++ L2).Nodup) (ow : ∀ a ∈ L1 ++ L2, Own B a) (he : Same H H')
    (g1 : Same G G') (g2 : Same G' H') (g3 : ∀ a, H a ≠ none → G a = none → G' a = none) (r : R K G' H' v d L) (rn : L.Nodup) (rf : ∀ a ∈ L, H a = none) : Abs K B σ A ((v, d) :: ts) H' := by
  have old : ∀ a ∈ L1 ++ L2, G a = none ∧ H a ≠ none := fun a ha => (List.mem_append.mp ha).elim (tm.own a) (sl.own a)
  have keep : ∀ a ∈ L1 ++ L2, H' a = H a ∧ G' a = none := fun a ha => by
    obtain ⟨n1, n2⟩ := old a ha
    refine ⟨?_, g3 a n2 n1⟩
    cases q : H a with
    | none => exact absurd q n2
    | some o => exact he a o q
  have hn : ∀ a, H a = none → a ∉ B.ex → B.H a = none := fun a e hx => by
    cases q : B.H a with
    | none => rfl
    | some o => rw [gd.bh a o hx q] at e; cases e
  have dj : ∀ a ∈ L, a ∉ L1 ++ L2 := fun a ha hb => (old a hb).2 (rf a ha)
  refine ⟨G', L ++ L1, L2, ⟨g2, gd.bg.trans g1, fun a o hx e => he a o (gd.bh a o hx e), fun a hx e1 e2 => ?_, fun a ha => ?_⟩, .cons r (tm.mono g1 fun a ha => keep a (List.mem_append_left _ ha)), sl.mono g1 fun a ha => keep a (List.mem_append_right _ ha), ?_, fun a ha => ?_⟩
  · refine g3 a ?_ (gd.sep a hx e1 e2)
    cases q : B.H a with
    | none => exact absurd q e1
    | some o => rw [gd.bh a o hx q]; exact fun z => nomatch z
  · have := gd.alive a ha
    cases q : H a with
    | none => exact absurd q this
    | some o => rw [he a o q]; exact fun z => nomatch z
  · rw [List.append_assoc]
    exact List.nodup_append.mpr ⟨rn, nd, fun a ha b hb e => dj a ha (e ▸ hb)⟩
  · rw [List.append_assoc] at ha
    rcases List.mem_append.mp ha with m | m
    · by_cases hx : a ∈ B.ex
      · exact .inr hx
      · exact .inl (hn a (rf a m) hx)
    · exact ow a m
theorem Abs.step {v : V} {d : D} {H' : Hp} (h : Abs K B σ A ts H) (he : Same H H')
    (new : ∀ G, Same G H → ∃ G' L, Same G G' ∧ Same G' H' ∧ (∀ a, H a ≠ none → G a = none → G' a = none) ∧ R K G' H' v d L ∧ L.Nodup ∧ ∀ a ∈ L, H a = none) : Abs K B σ A ((v, d) :: ts) H' := by
  obtain ⟨G, L1, L2, gd, tm, sl, nd, ow⟩ := h
  obtain ⟨G', L, g1, g2, g3, r, rn, rf⟩ := new G gd.gh
  exact step_core gd tm sl nd ow he g1 g2 g3 r rn rf
/-- .. the value wants temporaries that it takes up -/
theorem Abs.same {H' : Hp} (h : Abs K B σ A ts H) (he : Same H H') : Abs K B σ A ts H' := by
  refine (h.step (v := .non) (d := .non) he fun G g => ⟨G, [], fun _ _ e => e, fun a o e => he a o (g a o e), fun _ _ e => e, .non, List.nodup_nil, fun _ z => nomatch z⟩).drop
theorem same_new {H : Hp} {p : Addr} {o : HO} (h : H p = none) : Same H (upd H p o) := fun b x e => by
  rw [upd_ne (ne_of_none e h)]; exact e
/-! ### freezing, packing, moving -/
/-- what is owned by L (of the ground's own) is known from now on -/
theorem Gd.grab {L1 : List Addr} (gd : Gd B G H) (h1 : ∀ a ∈ L1, G a = none ∧ H a ≠ none) (ow : ∀ a ∈ L1, Own B a) : Gd B (grab G H L1) H := by
  refine ⟨fun a o e => ?_, gd.bg.trans (grab_same fun a ha => (h1 a ha).1), gd.bh, fun a hx e1 e2 => ?_, gd.alive⟩
  · by_cases m : a ∈ L1
    · rw [grab_in m] at e; exact e
    · rw [grab_out m] at e; exact gd.gh a o e
  · have m : a ∉ L1 := fun m => (ow a m).elim e1 hx
    rw [grab_out m]; exact gd.sep a hx e1 e2
theorem grab_keep {L1 : List Addr} {a : Addr} (h : a ∉ L1) (n : G a = none) : grab G H L1 a = none := by rw [grab_out h]; exact n
/-- a temporary frozen -/
theorem Abs.fz {v : V} {d : D} (h : Abs K B σ A ((v, d) :: ts) H) (hd : ∀ i, d ≠ .al i) : Abs K B σ A ((v, Ab.fz d) :: ts) H := by
  obtain ⟨G, L1, L2, gd, tm, sl, nd, ow⟩ := h
  cases tm with
  | al e t => exact absurd rfl (hd _)
  | cons r t =>
    rename_i La Lb
    have oa : ∀ a ∈ La, G a = none ∧ H a ≠ none := r.own
    have g1 : Same G (grab G H La) := grab_same fun a ha => (oa a ha).1
    have ap : ∀ a ∈ Lb ++ L2, a ∉ La := fun a ha hb => by
      rw [List.append_assoc] at nd
      exact (List.nodup_append.mp nd).2.2 a hb a ha rfl
    have gd' := gd.grab oa fun a ha => ow a (List.mem_append_left _ (List.mem_append_left _ ha))
    refine ⟨grab G H La, Lb, L2, gd', ?_, sl.mono g1 fun a ha => ⟨rfl, grab_keep (ap a (List.mem_append_right _ ha)) (sl.own a ha).1⟩, ?_, fun a ha => ow a ?_⟩
    · have t' : Tms K σ (grab G H La) H ts Lb := t.mono g1 fun a ha => ⟨rfl, grab_keep (ap a (List.mem_append_left _ ha)) (t.own a ha).1⟩
      simpa using Tms.cons (r.fz g1 fun a ha => grab_in ha) t'
    · rw [List.append_assoc] at nd; exact (List.nodup_append.mp nd).2.1
    · rw [List.append_assoc]; exact List.mem_append_right _ ha
/-- what a slot owns is frozen -/
theorem Abs.frz {v : V} {d : D} {i : Nat} (h : Abs K B σ A ((v, .al i) :: ts) H) (e : A[i]? = some (some d)) : Abs K B σ (A.set i (some (Ab.fz d))) ((v, Ab.fz d) :: ts) H := by
  obtain ⟨G, L1, L2, gd, tm, sl, nd, ow⟩ := h
  cases tm with
  | cons r t => exact nomatch r
  | al e1 t =>
    obtain ⟨v', Li, L', e2, r, s2, p⟩ := sl.take e
    rw [e1] at e2; cases e2
    have oa : ∀ a ∈ Li, G a = none ∧ H a ≠ none := r.own
    have g1 : Same G (grab G H Li) := grab_same fun a ha => (oa a ha).1
    have pp : (L1 ++ L2).Perm (Li ++ (L1 ++ L')) := by
      refine (List.Perm.append_left _ p).trans ?_
      rw [← List.append_assoc, ← List.append_assoc]
      exact List.Perm.append_right _ List.perm_append_comm
    have nd' := nodup_perm pp nd
    have ap : ∀ a ∈ L1 ++ L', a ∉ Li := fun a ha hb => (List.nodup_append.mp nd').2.2 a hb a ha rfl
    have gd' := gd.grab oa fun a ha => ow a (pp.mem_iff.mpr (List.mem_append_left _ ha))
    have rf : R K (grab G H Li) H v (Ab.fz d) [] := r.fz g1 fun a ha => grab_in ha
    have s3 : Sls K (grab G H Li) H σ (A.set i none) L' := s2.mono g1 fun a ha => ⟨rfl, grab_keep (ap a (List.mem_append_right _ ha)) (s2.own a ha).1⟩
    have hi : i < A.length := (List.getElem?_eq_some_iff.mp e).1
    obtain ⟨L3, s4, p4⟩ := s3.put (i := i) (d := Ab.fz d) (by simp [hi]) e1 rf
    rw [List.set_set] at s4
    have t' : Tms K σ (grab G H Li) H ts L1 := t.mono g1 fun a ha => ⟨rfl, grab_keep (ap a (List.mem_append_left _ ha)) (t.own a ha).1⟩
    have p5 : (L1 ++ L3).Perm (L1 ++ L') := List.Perm.append_left _ (by simpa using p4)
    refine ⟨grab G H Li, L1, L3, gd', by simpa using Tms.cons rf t', s4, nodup_perm p5.symm (List.nodup_append.mp nd').2.1, fun a ha => ow a (pp.mem_iff.mpr (List.mem_append_right _ (p5.mem_iff.mp ha)))⟩
/-- what a slot owns is handed out -/
theorem Abs.move {v : V} {d : D} {i : Nat} (h : Abs K B σ A ((v, .al i) :: ts) H) (e : A[i]? = some (some d)) : Abs K B σ (A.set i none) ((v, d) :: ts) H := by
  obtain ⟨G, L1, L2, gd, tm, sl, nd, ow⟩ := h
  cases tm with
  | cons r t => exact nomatch r
  | al e1 t =>
    obtain ⟨v', Li, L', e2, r, s2, p⟩ := sl.take e
    rw [e1] at e2; cases e2
    have pp : (L1 ++ L2).Perm ((Li ++ L1) ++ L') := by
      refine (List.Perm.append_left _ p).trans ?_
      rw [← List.append_assoc]
      exact List.Perm.append_right _ List.perm_append_comm
    exact ⟨G, Li ++ L1, L', gd, .cons r t, s2, nodup_perm pp nd, fun a ha => ow a (pp.mem_iff.mpr ha)⟩
def noAl (ds : List D) : Bool := ds.all fun d => match d with | .al _ => false | _ => true
/-- the temporaries of an argument list -/
theorem Tms.split : ∀ {vs : List V} {ds : List D} {L : List Addr}, vs.length = ds.length → noAl ds = true → Tms K σ G H (vs.zip ds ++ ts) L → ∃ La Lb, Rs K G H vs ds La ∧ Tms K σ G H ts Lb ∧ L = La ++ Lb
  | [], [], L, _, _, t => ⟨[], L, .nil, t, rfl⟩
  | v :: vs, d :: ds, L, hl, hn, t => by
    have hn' : noAl ds = true := by
      unfold noAl at hn ⊢
      rw [List.all_cons, Bool.and_eq_true] at hn
      exact hn.2
    cases t with
    | cons r t =>
      obtain ⟨La, Lb, h1, h2, h3⟩ := Tms.split (by simpa using hl) hn' t
      exact ⟨_, Lb, .cons r h1, h2, by rw [h3, List.append_assoc]⟩
    | al e t =>
      unfold noAl at hn
      rw [List.all_cons, Bool.and_eq_true] at hn
      exact absurd hn.1 (fun z => nomatch z)
  | [], _ :: _, _, hl, _, _ => by simp at hl
  | _ :: _, [], _, hl, _, _ => by simp at hl
/-- a tuple is laid -/
theorem Abs.tup {vs : List V} {ds : List D} {p : Addr} (hl : vs.length = ds.length) (hn : noAl ds = true) (h : Abs K B σ A (vs.zip ds ++ ts) H) (hp : H p = none) : Abs K B σ A ((.ref p, .tup ds) :: ts) (upd H p (.tup vs)) := by
  obtain ⟨G, L1, L2, gd, tm, sl, nd, ow⟩ := h
  obtain ⟨La, Lb, rs, t, rfl⟩ := tm.split hl hn
  have gp : G p = none := by
    cases q : G p with
    | none => rfl
    | some o => rw [gd.gh p o q] at hp; cases hp
  have g1 : Same G (upd G p (.tup vs)) := same_new gp
  have neP : ∀ a, H a ≠ none → a ≠ p := fun a ha z => ha (z ▸ hp)
  have old : ∀ a ∈ (La ++ Lb) ++ L2, G a = none ∧ H a ≠ none := fun a ha => by
    rcases List.mem_append.mp ha with m | m
    · exact (List.mem_append.mp m).elim (rs.own a) (t.own a)
    · exact sl.own a m
  have keep : ∀ a ∈ (La ++ Lb) ++ L2, upd H p (.tup vs) a = H a ∧ upd G p (.tup vs) a = none := fun a ha => ⟨upd_ne (neP a (old a ha).2), by rw [upd_ne (neP a (old a ha).2)]; exact (old a ha).1⟩
  refine ⟨upd G p (.tup vs), La ++ Lb, L2, ⟨fun a o e => ?_, gd.bg.trans g1, fun a o hx e => same_new hp _ _ (gd.bh a o hx e), fun a hx e1 e2 => ?_, fun a ha => ?_⟩, .cons (.tup upd_same (rs.mono g1 fun a ha => keep a (by simp [ha]))) (t.mono g1 fun a ha => keep a (by simp [ha])), sl.mono g1 fun a ha => keep a (by simp [ha]), nd, ow⟩
  · by_cases m : a = p
    · subst m; rw [upd_same] at e ⊢; exact e
    · rw [upd_ne m] at e ⊢; exact gd.gh a o e
  · have : a ≠ p := neP a (by
      cases q : B.H a with
      | none => exact absurd q e1
      | some o => rw [gd.bh a o hx q]; exact fun z => nomatch z)
    rw [upd_ne this]; exact gd.sep a hx e1 e2
  · rw [upd_ne (neP a (gd.alive a ha))]; exact gd.alive a ha
/-- a list is laid -/
theorem Abs.lst {vs : List V} {ds : List D} {p : Addr} (hl : vs.length = ds.length) (hn : noAl ds = true) (h : Abs K B σ A (vs.zip ds ++ ts) H) (hp : H p = none) : Abs K B σ A ((.ref p, .mu ds) :: ts) (upd H p (.lst vs)) := by
  obtain ⟨G, L1, L2, gd, tm, sl, nd, ow⟩ := h
  obtain ⟨La, Lb, rs, t, rfl⟩ := tm.split hl hn
  have gp : G p = none := by
    cases q : G p with
    | none => rfl
    | some o => rw [gd.gh p o q] at hp; cases hp
  have neP : ∀ a, H a ≠ none → a ≠ p := fun a ha z => ha (z ▸ hp)
  have old : ∀ a ∈ (La ++ Lb) ++ L2, G a = none ∧ H a ≠ none := fun a ha => by
    rcases List.mem_append.mp ha with m | m
    · exact (List.mem_append.mp m).elim (rs.own a) (t.own a)
    · exact sl.own a m
  have keep : ∀ a ∈ (La ++ Lb) ++ L2, upd H p (.lst vs) a = H a ∧ G a = none := fun a ha => ⟨upd_ne (neP a (old a ha).2), (old a ha).1⟩
  have np : p ∉ (La ++ Lb) ++ L2 := fun m => (old p m).2 hp
  refine ⟨G, (p :: La) ++ Lb, L2, ⟨fun a o e => same_new hp _ _ (gd.gh a o e), gd.bg, fun a o hx e => same_new hp _ _ (gd.bh a o hx e), gd.sep, fun a ha => ?_⟩, .cons (.mu upd_same gp (rs.mono (fun _ _ e => e) fun a ha => keep a (by simp [ha]))) (t.mono (fun _ _ e => e) fun a ha => keep a (by simp [ha])), sl.mono (fun _ _ e => e) fun a ha => keep a (by simp [ha]), ?_, fun a ha => ?_⟩
  · rw [upd_ne (neP a (gd.alive a ha))]; exact gd.alive a ha
  · exact List.nodup_cons.mpr ⟨np, nd⟩
  · rcases List.mem_cons.mp ha with m | m
    · subst m
      by_cases hx : a ∈ B.ex
      · exact .inr hx
      · refine .inl ?_
        cases q : B.H a with
        | none => rfl
        | some o => rw [gd.bh a o hx q] at hp; cases hp
    · exact ow a m
/-- no temporary is an alias -/
def Cl (ts : Ts) : Prop := ∀ p ∈ ts, ∀ i, p.2 ≠ .al i
theorem Tms.any {σ' : L2.St} (c : Cl ts) (t : Tms K σ G H ts L) : Tms K σ' G H ts L := by
  induction t with
  | nil => exact .nil
  | cons r _ ih => exact .cons r (ih fun p hp => c p (List.mem_cons_of_mem _ hp))
  | al e _ ih => exact absurd rfl (c _ List.mem_cons_self _)
theorem Sls.set {i : Nat} {v : V} {d : D} {Li : List Addr} (s : Sls K G H σ A L) (hi : i < A.length) (r : R K G H v d Li) : ∃ L', Sls K G H (σ.set i (some v)) (A.set i (some d)) L' ∧ ∃ L0, L0.Sublist L ∧ L'.Perm (Li ++ L0) := by
  obtain ⟨L0, s1, h1⟩ := s.drop (i := i)
  have s2 := s1.any (i := i) (o := some v) (.inl (by simp [hi]))
  obtain ⟨L', s3, h3⟩ := s2.put (i := i) (d := d) (by simp [hi]) (by rw [List.getElem?_set_self (by rw [s.len]; exact hi)]) r
  rw [List.set_set] at s3
  exact ⟨L', s3, L0, h1, h3⟩
/-- a temporary goes to a slot -/
theorem Abs.set {i : Nat} {v : V} {d : D} (h : Abs K B σ A ((v, d) :: ts) H) (hd : ∀ j, d ≠ .al j) (c : Cl ts) : Abs K B (σ.set i (some v)) (A.set i (some d)) ts H := by
  obtain ⟨G, L1, L2, gd, tm, sl, nd, ow⟩ := h
  cases tm with
  | al e t => exact absurd rfl (hd _)
  | cons r t =>
    rename_i La Lb
    by_cases hi : i < A.length
    · obtain ⟨L', s', L0, sub, p⟩ := sl.set hi r
      have pp : (Lb ++ L').Perm (La ++ (Lb ++ L0)) := by
        refine (List.Perm.append_left _ p).trans ?_
        rw [← List.append_assoc, ← List.append_assoc]
        exact List.Perm.append_right _ List.perm_append_comm
      have sb : (La ++ (Lb ++ L0)).Sublist ((La ++ Lb) ++ L2) := by
        rw [List.append_assoc]
        exact List.Sublist.append_left (List.Sublist.append_left sub _) _
      exact ⟨G, Lb, L', gd, t.any c, s', nodup_perm pp.symm (sb.nodup nd), fun a ha => ow a (sb.subset (pp.mem_iff.mp ha))⟩
    · have hs : σ.set i (some v) = σ := List.set_eq_of_length_le (by rw [sl.len]; omega)
      have hA : A.set i (some d) = A := List.set_eq_of_length_le (by omega)
      rw [hs, hA]
      refine ⟨G, Lb, L2, gd, t, sl, ?_, fun a ha => ow a ?_⟩
      · rw [List.append_assoc] at nd; exact (List.nodup_append.mp nd).2.1
      · rw [List.append_assoc]; exact List.mem_append_right _ ha
/-- a slot's telling forgotten -/
theorem Abs.forget {i : Nat} (h : Abs K B σ A ts H) : Abs K B σ (A.set i none) ts H := by
  obtain ⟨G, L1, L2, gd, tm, sl, nd, ow⟩ := h
  obtain ⟨L', s, sub⟩ := sl.drop (i := i)
  have sb : (L1 ++ L').Sublist (L1 ++ L2) := List.Sublist.append_left sub _
  exact ⟨G, L1, L', gd, tm, s, sb.nodup nd, fun a ha => ow a (sb.subset ha)⟩
end
end Ab
end
section
namespace Ab
open PySem PySem.Spec PyProof.Rows L2

/-! ### the judgements over what is told -/
structure Z where
  K : Fw
  B : Bs
  cl : Str → Value
  W : WX
abbrev Z.A (z : Z) := Abs z.K z.B
section
variable (z : Z)
def pE (o : Ou D) (σ : L2.St) (ts : Ts) (Q : VK) : Prop := match o with
  | .ok d A' => ∀ v H', z.A σ A' ((v, d) :: ts) H' → Q v H'
  | .exc c A' => ∀ H', z.A σ A' ts H' → z.W (z.cl c) none σ H'
  | .stuck => False
def tE (f : FE) : TE := fun σ H Q => ∃ A ts, z.A σ A ts H ∧ pE z (f A) σ ts Q
def pT (o : Ou Bool) (σ : L2.St) (ts : Ts) (Q : Bool → Hp → Prop) : Prop := match o with
  | .ok b A' => ∀ H', z.A σ A' ts H' → Q b H'
  | .exc c A' => ∀ H', z.A σ A' ts H' → z.W (z.cl c) none σ H'
  | .stuck => False
def tT (f : FT) : TT := fun σ H Q => ∃ A ts, z.A σ A ts H ∧ pT z (f A) σ ts Q
def pA (o : Ou (List D)) (σ : L2.St) (ts : Ts) (Q : List V → Hp → Prop) : Prop := match o with
  | .ok ds A' => ∀ vs H', vs.length = ds.length → z.A σ A' (vs.zip ds ++ ts) H' → Q vs H'
  | .exc c A' => ∀ H', z.A σ A' ts H' → z.W (z.cl c) none σ H'
  | .stuck => False
def tA (f : FA) : L2.TA := fun σ H Q => ∃ A ts, z.A σ A ts H ∧ pA z (f A) σ ts Q
end

section
variable {X : Cx} {e : Expr} {es : List Expr}
theorem PE.imp {t t' : TE} (h : PE X e t) (hi : ∀ σ H Q, t' σ H Q → t σ H Q) : PE X e t' := ⟨fun pins s σ H Q I w => h.run pins s σ H Q I (hi σ H Q w)⟩
theorem PT.imp {t t' : TT} (h : PT X e t) (hi : ∀ σ H Q, t' σ H Q → t σ H Q) : PT X e t' := ⟨fun pins s σ H Q I w => h.run pins s σ H Q I (hi σ H Q w)⟩
theorem PA.imp {t t' : L2.TA} (h : PA X es t) (hi : ∀ σ H Q, t' σ H Q → t σ H Q) : PA X es t' := ⟨fun pos pins s σ H Q I w => h.run pos pins s σ H Q I (hi σ H Q w)⟩
theorem PS.imp {st : Stmt} {t t' : TS} (h : PS X st t) (hi : ∀ D σ H, t' D σ H → t D σ H) : PS X st t' := ⟨fun pins s σ H D I w => h.run pins s σ H D I (hi D σ H w)⟩
theorem PSs.imp {st : List Stmt} {t t' : TS} (h : PSs X st t) (hi : ∀ D σ H, t' D σ H → t D σ H) : PSs X st t' := ⟨fun pins s σ H D I w => h.run pins s σ H D I (hi D σ H w)⟩
end

/-! ### looking at what is told -/
def see (A : Sl) : D → D
  | .al i => match A[i]? with
    | some (some (.al _)) => .al 0
    | some (some d) => d
    | _ => .al 0
  | d => d
@[simp] theorem see_al {A : Sl} {i : Nat} {ds : List D} (h : A[i]? = some (some (.mu ds))) : see A (.al i) = .mu ds := by simp [see, h]
section
variable {K : Fw} {B : Bs} {G G' H H' : Hp} {σ : L2.St} {A : Sl} {ts : Ts} {L : List Addr} {v u : V} {d e : D}
theorem R.not_al {i : Nat} (r : R K G H v (.al i) L) : False := nomatch r
theorem R.see (r : R K G H v d L) : see A d = d := by cases r <;> rfl
theorem Tms.look (t : Tms K σ G H ((v, d) :: ts) L) {L2 : List Addr} (s : Sls K G H σ A L2) (hn : ∀ j, see A d ≠ .al j) : ∃ L', R K G H v (see A d) L' := by
  cases t with
  | cons r t => exact ⟨_, by rw [r.see]; exact r⟩
  | al e t =>
    rename_i i
    have key : ∃ d', A[i]? = some (some d') ∧ Ab.see A (.al i) = d' := by
      have e0 : Ab.see A (.al i) = (match A[i]? with | some (some (.al _)) => D.al 0 | some (some d) => d | _ => .al 0) := rfl
      cases q : A[i]? with
      | none => rw [e0, q] at hn; exact absurd rfl (hn 0)
      | some o =>
        cases o with
        | none => rw [e0, q] at hn; exact absurd rfl (hn 0)
        | some d' =>
          refine ⟨d', rfl, ?_⟩
          rw [e0, q] at hn ⊢
          cases d' <;> first | rfl | exact absurd rfl (hn 0)
    obtain ⟨d', h1, h2⟩ := key
    obtain ⟨v', Li, L', e1, r, _, _⟩ := s.take h1
    rw [e] at e1
    cases e1
    exact ⟨Li, by rw [h2]; exact r⟩
/-- one value looked at; what is known of it may be told on -/
theorem Abs.look (h : Abs K B σ A ((v, d) :: ts) H) (hn : ∀ j, see A d ≠ .al j) : ∃ G L, Same G H ∧ R K G H v (see A d) L ∧ ∀ w e, R K G H w e [] → Abs K B σ A ((w, e) :: ts) H := by
  obtain ⟨G, L1, L2, gd, tm, sl, nd, ow⟩ := id h
  obtain ⟨L', r⟩ := tm.look sl hn
  refine ⟨G, L', gd.gh, r, fun w e re => ?_⟩
  cases tm with
  | cons r t =>
    rename_i La Lb
    refine ⟨G, Lb, L2, gd, by simpa using Tms.cons re t, sl, ?_, fun a ha => ow a ?_⟩
    · rw [List.append_assoc] at nd; exact (List.nodup_append.mp nd).2.1
    · rw [List.append_assoc]; exact List.mem_append_right _ ha
  | al e' t => exact ⟨G, L1, L2, gd, by simpa using Tms.cons re t, sl, nd, ow⟩
/-- two values -/
theorem Abs.look2 (h : Abs K B σ A ((u, e) :: (v, d) :: ts) H) (h1 : ∀ j, see A e ≠ .al j) (h2 : ∀ j, see A d ≠ .al j) :
    ∃ G L L', Same G H ∧ R K G H u (see A e) L ∧ R K G H v (see A d) L' ∧ ∀ w e, R K G H w e [] → Abs K B σ A ((w, e) :: ts) H := by
  obtain ⟨G, L1, L2, gd, tm, sl, nd, ow⟩ := id h
  obtain ⟨L, r⟩ := tm.look sl h1
  have tm2 : ∃ M, Tms K σ G H ((v, d) :: ts) M ∧ M.Sublist L1 := by
    cases tm with
    | cons r t => exact ⟨_, t, List.sublist_append_right _ _⟩
    | al e t => exact ⟨_, t, .refl _⟩
  obtain ⟨M, tm2, sM⟩ := tm2
  obtain ⟨L', r'⟩ := tm2.look sl h2
  refine ⟨G, L, L', gd.gh, r, r', fun w e re => ?_⟩
  have tm3 : ∃ M', Tms K σ G H ts M' ∧ M'.Sublist M := by
    cases tm2 with
    | cons r t => exact ⟨_, t, List.sublist_append_right _ _⟩
    | al e t => exact ⟨_, t, .refl _⟩
  obtain ⟨M', tm3, sM'⟩ := tm3
  have sub : (M' ++ L2).Sublist (L1 ++ L2) := List.Sublist.append_right (sM'.trans sM) _
  exact ⟨G, M', L2, gd, by simpa using Tms.cons re tm3, sl, sub.nodup nd, fun a ha => ow a (sub.subset ha)⟩
theorem Abs.int {i : Int} (h : Abs K B σ A ((v, .int i) :: ts) H) : v = .int i := by
  obtain ⟨G, L, _, r, _⟩ := h.look (by intro j z; cases z)
  cases r; rfl
theorem Abs.bl {i : Bool} (h : Abs K B σ A ((v, .bl i) :: ts) H) : v = .bl i := by
  obtain ⟨G, L, _, r, _⟩ := h.look (by intro j z; cases z)
  cases r; rfl
theorem Abs.str {i : Str} (h : Abs K B σ A ((v, .str i) :: ts) H) : v = .str i := by
  obtain ⟨G, L, _, r, _⟩ := h.look (by intro j z; cases z)
  cases r; rfl
theorem Abs.non (h : Abs K B σ A ((v, .non) :: ts) H) : v = .non := by
  obtain ⟨G, L, _, r, _⟩ := h.look (by intro j z; cases z)
  cases r; rfl
/-- scalars -/
theorem Abs.pint (h : Abs K B σ A ts H) (i : Int) : Abs K B σ A ((.int i, .int i) :: ts) H := h.scal fun _ => .int i
theorem Abs.pbl (h : Abs K B σ A ts H) (i : Bool) : Abs K B σ A ((.bl i, .bl i) :: ts) H := h.scal fun _ => .bl i
theorem Abs.pstr (h : Abs K B σ A ts H) (i : Str) : Abs K B σ A ((.str i, .str i) :: ts) H := h.scal fun _ => .str i
theorem Abs.pnon (h : Abs K B σ A ts H) : Abs K B σ A ((.non, .non) :: ts) H := h.scal fun _ => .non

/-! ### names and constants -/
def fVar (i : Nat) : FE := fun A => match A[i]? with
  | some (some d) => if isF d = true then .ok d A else .ok (.al i) A
  | _ => .stuck
theorem Abs.var {i : Nat} (h : Abs K B σ A ts H) (e : A[i]? = some (some d)) : ∃ v, σ[i]? = some (some v) ∧ Abs K B σ A ((v, if isF d = true then d else .al i) :: ts) H := by
  obtain ⟨G, L1, L2, gd, tm, sl, nd, ow⟩ := h
  obtain ⟨v, Li, L', e1, r, s2, p⟩ := sl.take e
  refine ⟨v, e1, ?_⟩
  by_cases hf : isF d = true
  · rw [if_pos hf]
    rw [r.isF hf] at r
    exact ⟨G, L1, L2, gd, by simpa using Tms.cons r tm, sl, nd, ow⟩
  · rw [if_neg hf]
    exact ⟨G, L1, L2, gd, .al e1 tm, sl, nd, ow⟩
end

section
variable {z : Z} {X : Cx}
theorem qe_var {i : Nat} {x : Str} {pos : Pos} (h : PE X (.Name x pos) (tVar i)) : PE X (.Name x pos) (tE z (fVar i)) := by
  refine PE.imp h fun σ H Q ⟨A, ts, ha, hp⟩ => ?_
  unfold fVar at hp
  split at hp
  · rename_i d e
    obtain ⟨v, e1, h1⟩ := ha.var e
    refine ⟨v, e1, ?_⟩
    split at hp <;> rename_i hf
    · rw [if_pos hf] at h1; exact hp v H h1
    · rw [if_neg hf] at h1; exact hp v H h1
  · exact hp.elim
def fC (d : D) : FE := fun A => .ok d A
theorem qe_int {i j pos} : PE X (.Constant (.int i) j pos) (tE z (fC (.int i))) := PE.imp pe_int fun σ H Q ⟨A, ts, ha, hp⟩ => hp _ _ (ha.pint i)
theorem qe_str {i j pos} : PE X (.Constant (.str i) j pos) (tE z (fC (.str i))) := PE.imp pe_str fun σ H Q ⟨A, ts, ha, hp⟩ => hp _ _ (ha.pstr i)
theorem qe_bl {i j pos} : PE X (.Constant (.bool i) j pos) (tE z (fC (.bl i))) := PE.imp pe_bl fun σ H Q ⟨A, ts, ha, hp⟩ => hp _ _ (ha.pbl i)
theorem qe_non {j pos} : PE X (.Constant .none j pos) (tE z (fC .non)) := PE.imp pe_non fun σ H Q ⟨A, ts, ha, hp⟩ => hp _ _ ha.pnon
/-- a built-in class by its name -/
theorem qe_ty {x : Str} {n : String} {pos : Pos} (h : PE X (.Name x pos) (tC (.ty n))) : PE X (.Name x pos) (tE z (fC (.ty n))) := PE.imp h fun σ H Q ⟨A, ts, ha, hp⟩ => hp _ _ (ha.scal fun _ => .ty n)
/-- a module's constant -/
theorem qe_gint {x : Str} {i : Int} {pos : Pos} (h : PE X (.Name x pos) (tC (.int i))) : PE X (.Name x pos) (tE z (fC (.int i))) := PE.imp h fun σ H Q ⟨A, ts, ha, hp⟩ => hp _ _ (ha.pint i)
theorem qe_gstr {x : Str} {i : Str} {pos : Pos} (h : PE X (.Name x pos) (tC (.str i))) : PE X (.Name x pos) (tE z (fC (.str i))) := PE.imp h fun σ H Q ⟨A, ts, ha, hp⟩ => hp _ _ (ha.pstr i)

/-! ### operators -/
def fBin (g : D → D → Sl → Option D) (fa fb : FE) : FE := fun A => (fa A).bind fun d A1 => (fb A1).bind fun e A2 => match g d e A2 with
  | some r => .ok r A2
  | none => .stuck
/-- the operation r on values does what g tells -/
def OpD (z : Z) (r : R2) (g : D → D → Sl → Option D) : Prop :=
  ∀ (σ : L2.St) (A : Sl) (ts : Ts) (H : Hp) (v u : V) (d e d' : D), z.A σ A ((u, e) :: (v, d) :: ts) H → g d e A = some d' → ∀ Q : VK, (∀ w H', z.A σ A ((w, d') :: ts) H' → Q w H') → r v u H Q
theorem bin_go {r : R2} {g : D → D → Sl → Option D} {fa fb : FE} (hd : OpD z r g) {σ : L2.St} {H : Hp} {Q : VK} (h : tE z (fBin g fa fb) σ H Q) : tOp r (tE z fa) (tE z fb) σ H Q := by
  obtain ⟨A, ts, ha, hp⟩ := h
  refine ⟨A, ts, ha, ?_⟩
  unfold fBin at hp
  cases ea : fa A with
  | stuck => rw [ea] at hp; exact hp.elim
  | exc c A1 => rw [ea] at hp; exact hp
  | ok d A1 =>
    rw [ea] at hp
    simp only [Ou.bind_ok] at hp
    intro v H1 h1
    refine ⟨A1, (v, d) :: ts, h1, ?_⟩
    cases eb : fb A1 with
    | stuck => rw [eb] at hp; exact hp.elim
    | exc c A2 =>
      rw [eb] at hp
      exact fun H' h' => hp H' h'.drop
    | ok e A2 =>
      rw [eb] at hp
      simp only [Ou.bind_ok] at hp
      intro u H2 h2
      cases eg : g d e A2 with
      | none => rw [eg] at hp; exact hp.elim
      | some d' =>
        rw [eg] at hp
        exact hd σ A2 ts H2 v u d e d' h2 eg Q hp
theorem qe_bin {op : Operator} {a b : Expr} {pos : Pos} {r : R2} {g : D → D → Sl → Option D} {fa fb : FE} (ho : OpR X (binaryOp op) r) (hd : OpD z r g) (ha : PE X a (tE z fa)) (hb : PE X b (tE z fb)) : PE X (.BinOp a op b pos) (tE z (fBin g fa fb)) :=
  PE.imp (pe_op ho ha hb) fun _ _ _ h => bin_go hd h
theorem qe_cmp {op : CmpOp} {a b : Expr} {pos : Pos} {r : R2} {g : D → D → Sl → Option D} {fa fb : FE} (ho : OpR X (compareOp op) r) (hd : OpD z r g) (ha : PE X a (tE z fa)) (hb : PE X b (tE z fb)) (hm : behindInMarks op b = false) : PE X (.Compare a [op] [b] pos) (tE z (fBin g fa fb)) :=
  PE.imp (pe_cmpR ho ha hb hm) fun _ _ _ h => bin_go hd h
theorem qe_ix {a b : Expr} {pos : Pos} {r : R2} {g : D → D → Sl → Option D} {fa fb : FE} (ho : IxR X r) (hd : OpD z r g) (ha : PE X a (tE z fa)) (hb : PE X b (tE z fb)) (hs : PlainIx b) : PE X (.Subscript a b pos) (tE z (fBin g fa fb)) :=
  PE.imp (pe_ix ho ha hb hs) fun _ _ _ h => bin_go hd h
def fUn (g : D → Sl → Option D) (fa : FE) : FE := fun A => (fa A).bind fun d A1 => match g d A1 with
  | some r => .ok r A1
  | none => .stuck
def gNeg : D → Sl → Option D
  | .int i, _ => some (.int (-i))
  | _, _ => none
theorem qe_neg {a : Expr} {pos : Pos} {fa : FE} (ha : PE X a (tE z fa)) : PE X (.UnaryOp .USub a pos) (tE z (fUn gNeg fa)) := by
  refine PE.imp (pe_un un_neg ha) fun σ H Q ⟨A, ts, hA, hp⟩ => ⟨A, ts, hA, ?_⟩
  unfold fUn at hp
  cases ea : fa A with
  | stuck => rw [ea] at hp; exact hp.elim
  | exc c A1 => rw [ea] at hp; exact hp
  | ok d A1 =>
    rw [ea] at hp
    simp only [Ou.bind_ok] at hp
    intro v H1 h1
    cases d <;> simp only [gNeg] at hp <;> try exact hp.elim
    rename_i i
    exact ⟨i, h1.int, hp _ _ (h1.drop.pint _)⟩

/-! ### ints -/
def g2I (C : Int → Int → Bool) (g : Int → Int → D) : D → D → Sl → Option D
  | .int i, .int j, _ => if C i j = true then some (g i j) else none
  | _, _, _ => none
theorem g2I_some {C : Int → Int → Bool} {g : Int → Int → D} {d e : D} {A : Sl} {d' : D} (h : g2I C g d e A = some d') : ∃ i j, d = .int i ∧ e = .int j ∧ C i j = true ∧ d' = g i j := by
  unfold g2I at h
  split at h
  · rename_i i j
    by_cases hc : C i j = true
    · rw [if_pos hc] at h; cases h; exact ⟨i, j, rfl, rfl, hc, rfl⟩
    · rw [if_neg hc] at h; cases h
  · cases h
theorem opd_I {P : Int → Int → Prop} {C : Int → Int → Bool} {g : Int → Int → Int} (hC : ∀ i j, C i j = true → P i j) : OpD z (rI P fun i j => .int (g i j)) (g2I C fun i j => .int (g i j)) := by
  intro σ A ts H v u d e d' h hg Q q
  obtain ⟨i, j, rfl, rfl, hc, rfl⟩ := g2I_some hg
  exact ⟨i, j, h.drop.int, h.int, hC i j hc, q _ _ (h.drop.drop.pint _)⟩
theorem opd_I0 {C : Int → Int → Bool} {g : Int → Int → Int} : OpD z (rI0 fun i j => .int (g i j)) (g2I C fun i j => .int (g i j)) := by
  intro σ A ts H v u d e d' h hg Q q
  obtain ⟨i, j, rfl, rfl, hc, rfl⟩ := g2I_some hg
  exact ⟨i, j, h.drop.int, h.int, q _ _ (h.drop.drop.pint _)⟩
theorem opd_B0 {C : Int → Int → Bool} {g : Int → Int → Bool} : OpD z (rI0 fun i j => .bl (g i j)) (g2I C fun i j => .bl (g i j)) := by
  intro σ A ts H v u d e d' h hg Q q
  obtain ⟨i, j, rfl, rfl, hc, rfl⟩ := g2I_some hg
  exact ⟨i, j, h.drop.int, h.int, q _ _ (h.drop.drop.pbl _)⟩
def yes2 : Int → Int → Bool := fun _ _ => true
def cMul : Int → Int → Bool := fun i j => decide (i.natAbs < 2 ^ 64) || decide (j.natAbs < 2 ^ 64)
def cDiv : Int → Int → Bool := fun i j => decide (0 < j) && decide (j.natAbs < 2 ^ 400)
def cMod : Int → Int → Bool := fun i j => decide (0 < j)
def cPow : Int → Int → Bool := fun i j => decide (0 ≤ j) && decide (j ≤ 1000000) && decide (i.natAbs < 2 ^ 64)
def gMinus := g2I yes2 fun i j => .int (i - j)
def gMul := g2I cMul fun i j => .int (i * j)
def gDiv := g2I cDiv fun i j => .int (i / j)
def gMod := g2I cMod fun i j => .int (i % j)
def gPow := g2I cPow fun i j => .int (i ^ j.toNat)
def gLt := g2I yes2 fun i j => .bl (decide (i < j))
def gLe := g2I yes2 fun i j => .bl (decide (i ≤ j))
def gGt := g2I yes2 fun i j => .bl (decide (j < i))
def gGe := g2I yes2 fun i j => .bl (decide (j ≤ i))
theorem opd_sub : OpD z (rI0 fun i j => .int (i - j)) gMinus := opd_I0
theorem opd_mul : OpD z (rI CMul fun i j => .int (i * j)) gMul := opd_I fun i j h => by
  unfold cMul at h
  rw [Bool.or_eq_true, decide_eq_true_iff, decide_eq_true_iff] at h
  rcases h with h | h
  · exact .inl (by omega)
  · exact .inr (by omega)
theorem opd_div : OpD z (rI CDivW fun i j => .int (i / j)) gDiv := opd_I fun i j h => by
  unfold cDiv at h
  rw [Bool.and_eq_true, decide_eq_true_iff, decide_eq_true_iff] at h
  exact wide_div h.1 h.2 (by decide) (by decide)
theorem opd_mod : OpD z (rI (fun _ j => 0 < j) fun i j => .int (i % j)) gMod := opd_I fun i j h => of_decide_eq_true h
theorem opd_pow : OpD z (rI CPow fun i j => .int (i ^ j.toNat)) gPow := opd_I fun i j h => by
  unfold cPow at h
  simp only [Bool.and_eq_true, decide_eq_true_iff] at h
  exact ⟨h.1.1, h.1.2, h.2⟩
theorem opd_lt : OpD z (rI0 fun i j => .bl (decide (i < j))) gLt := opd_B0
theorem opd_le : OpD z (rI0 fun i j => .bl (decide (i ≤ j))) gLe := opd_B0
theorem opd_gt : OpD z (rI0 fun i j => .bl (decide (j < i))) gGt := opd_B0
theorem opd_ge : OpD z (rI0 fun i j => .bl (decide (j ≤ i))) gGe := opd_B0

/-! ### == of data -/
mutual
def dat : D → PyData
  | .non => .none | .bl b => .bool b | .int i => .int i | .str x => .str x
  | .tup ds => .tuple (dats ds) | .lst ds => .list (dats ds) | .mu ds => .list (dats ds) | .fro ds => .list (dats ds)
  | .fdi .. => .dict [] | .mdi .. => .dict [] | .al _ => .dict [] | .exc _ => .dict [] | .obj .. => .dict [] | .ty _ => .dict []
def dats : List D → List PyData
  | [] => []
  | d :: ds => dat d :: dats ds
end
theorem dats_map : ∀ ds : List D, dats ds = ds.map dat
  | [] => by simp [dats]
  | d :: ds => by simp [dats, dats_map ds]
def okD (d : D) : Bool := SeqAt.shaped (dat d)
section
variable {K : Fw} {G H : Hp}
mutual
theorem R.dp (g : Same G H) : ∀ {v : V} {d : D} {L : List Addr}, R K G H v d L → (dat d).canLay0 = true → Dp K H v (dat d)
  | _, _, _, .non, _ => by rw [dat]; exact .non
  | _, _, _, .bl b, _ => by rw [dat]; exact .bl b
  | _, _, _, .int i, _ => by rw [dat]; exact .int i
  | _, _, _, .str x, _ => by rw [dat]; exact .str x
  | _, _, _, .ty x, h => by rw [dat] at h; simp [PyData.canLay0] at h
  | _, _, _, .tup q r, h => by rw [dat]; exact .tup (.inl (.inl (g _ _ q))) (Rs.dp g r (by rw [dat] at h; simpa [PyData.canLay0] using h))
  | _, _, _, .lst q r, h => by rw [dat]; exact .lst (.inl (.inl (g _ _ q))) (Rs.dp g r (by rw [dat] at h; simpa [PyData.canLay0] using h))
  | _, _, _, .fro q r, h => by rw [dat]; exact .lst (sq_l g q) (Rs.dp g r (by rw [dat] at h; simpa [PyData.canLay0] using h))
  | _, _, _, .mu e n r, h => by rw [dat]; exact .lst (.inl (.inl e)) (Rs.dp g r (by rw [dat] at h; simpa [PyData.canLay0] using h))
  | _, _, _, .fdi q o k r, h => by rw [dat] at h; simp [PyData.canLay0] at h
  | _, _, _, .mdi e n o k r, h => by rw [dat] at h; simp [PyData.canLay0] at h
theorem Rs.dp (g : Same G H) : ∀ {v : List V} {d : List D} {L : List Addr}, Rs K G H v d L → PyData.canLayAll0 (dats d) = true → DpAll K H v (dats d)
  | _, _, _, .nil, _ => by rw [dats]; exact .nil
  | _, _, _, .cons r t, h => by
    rw [dats, PyData.canLayAll0, Bool.and_eq_true] at h
    rw [dats]
    exact .cons (R.dp g r h.1) (Rs.dp g t h.2)
end
theorem okD_lay {d : D} (h : okD d = true) : (dat d).canLay0 = true := SeqAt.canLay_of_shaped h
theorem okD_al {A : Sl} {d : D} (h : okD (see A d) = true) : ∀ j, see A d ≠ .al j := fun j e => by
  rw [e] at h
  have := okD_lay h
  rw [dat] at this
  simp [PyData.canLay0] at this
end
def gEq (d e : D) (A : Sl) : Option D := if (okD (see A d) && okD (see A e)) = true then some (.bl (PyData.eqv (dat (see A d)) (dat (see A e)))) else none
def gNe (d e : D) (A : Sl) : Option D := if (okD (see A d) && okD (see A e)) = true then some (.bl (!PyData.eqv (dat (see A d)) (dat (see A e)))) else none
theorem opd_eq : OpD z (rEqD z.K) gEq := by
  intro σ A ts H v u d e d' h hg Q q
  unfold gEq at hg
  by_cases hk : (okD (see A d) && okD (see A e)) = true
  · rw [if_pos hk] at hg
    cases hg
    rw [Bool.and_eq_true] at hk
    obtain ⟨G, L, L', gh, r1, r2, _⟩ := h.look2 (okD_al hk.2) (okD_al hk.1)
    exact ⟨_, _, r2.dp gh (okD_lay hk.1), r1.dp gh (okD_lay hk.2), hk.1, hk.2, q _ _ (h.drop.drop.pbl _)⟩
  · rw [if_neg hk] at hg; cases hg
theorem opd_ne : OpD z (rNeD z.K) gNe := by
  intro σ A ts H v u d e d' h hg Q q
  unfold gNe at hg
  by_cases hk : (okD (see A d) && okD (see A e)) = true
  · rw [if_pos hk] at hg
    cases hg
    rw [Bool.and_eq_true] at hk
    obtain ⟨G, L, L', gh, r1, r2, _⟩ := h.look2 (okD_al hk.2) (okD_al hk.1)
    exact ⟨_, _, r2.dp gh (okD_lay hk.1), r1.dp gh (okD_lay hk.2), hk.1, hk.2, q _ _ (h.drop.drop.pbl _)⟩
  · rw [if_neg hk] at hg; cases hg
/-- x is None, of data that is no own object -/
def gIsN (d e : D) (A : Sl) : Option D := match e with
  | .non => match see A d with
    | .non => some (.bl true)
    | .al _ => none
    | _ => some (.bl false)
  | _ => none
def gNotN (d e : D) (A : Sl) : Option D := match e with
  | .non => match see A d with
    | .non => some (.bl false)
    | .al _ => none
    | _ => some (.bl true)
  | _ => none
theorem opd_isN : OpD z (fun x y H Q => y = .non ∧ Q (.bl (decide (x = .non))) H) gIsN := by
  intro σ A ts H v u d e d' h hg Q q
  unfold gIsN at hg
  split at hg
  · refine ⟨h.non, ?_⟩
    have hn : ∀ j, see A d ≠ .al j := fun j z => by rw [z] at hg; cases hg
    obtain ⟨G, L, gh, r, _⟩ := h.drop.look hn
    have key : d' = .bl (decide (v = .non)) := by
      revert hg
      generalize see A d = dd at r hn
      cases r <;> intro hg <;> simp_all
    rw [key] at q
    exact q _ _ (h.drop.drop.pbl _)
  · cases hg
theorem opd_notN : OpD z (fun x y H Q => y = .non ∧ Q (.bl (!decide (x = .non))) H) gNotN := by
  intro σ A ts H v u d e d' h hg Q q
  unfold gNotN at hg
  split at hg
  · refine ⟨h.non, ?_⟩
    have hn : ∀ j, see A d ≠ .al j := fun j z => by rw [z] at hg; cases hg
    obtain ⟨G, L, gh, r, _⟩ := h.drop.look hn
    have key : d' = .bl (!decide (v = .non)) := by
      revert hg
      generalize see A d = dd at r hn
      cases r <;> intro hg <;> simp_all
    rw [key] at q
    exact q _ _ (h.drop.drop.pbl _)
  · cases hg

/-! ### lists and tuples that are read -/
def lsOf : D → Option (List D)
  | .lst ds => some ds | .mu ds => some ds | .fro ds => some ds
  | _ => none
def sqOf : D → Option (List D)
  | .lst ds => some ds | .mu ds => some ds | .fro ds => some ds | .tup ds => some ds
  | _ => none
section
variable {K : Fw} {G H : Hp} {v : V} {d : D} {L : List Addr} {ds : List D} {A : Sl}
theorem R.list (g : Same G H) (r : R K G H v d L) (h : lsOf d = some ds) : ∃ a xs L', v = .ref a ∧ SqL K H a xs ∧ Rs K G H xs ds L' := by
  cases r <;> simp only [lsOf] at h <;> try cases h
  · rename_i q r; exact ⟨_, _, _, rfl, .inl (.inl (g _ _ q)), r⟩
  · rename_i q r; exact ⟨_, _, _, rfl, sq_l g q, r⟩
  · rename_i e n r; exact ⟨_, _, _, rfl, .inl (.inl e), r⟩
theorem R.seq (g : Same G H) (r : R K G H v d L) (h : sqOf d = some ds) : ∃ a xs L', v = .ref a ∧ (SqL K H a xs ∨ SqT K H a xs) ∧ Rs K G H xs ds L' := by
  cases r <;> simp only [sqOf] at h <;> try cases h
  · rename_i q r; exact ⟨_, _, _, rfl, .inr (.inl (.inl (g _ _ q))), r⟩
  · rename_i q r; exact ⟨_, _, _, rfl, .inl (.inl (.inl (g _ _ q))), r⟩
  · rename_i q r; exact ⟨_, _, _, rfl, .inl (sq_l g q), r⟩
  · rename_i e n r; exact ⟨_, _, _, rfl, .inl (.inl (.inl e)), r⟩
theorem lsOf_al (h : lsOf (see A d) = some ds) : ∀ j, see A d ≠ .al j := fun j e => by rw [e] at h; cases h
theorem sqOf_al (h : sqOf (see A d) = some ds) : ∀ j, see A d ≠ .al j := fun j e => by rw [e] at h; cases h
theorem sublist_nil {L : List Addr} (h : L.Sublist []) : L = [] := List.sublist_nil.mp h
theorem Rs.atI {xs : List V} {i : Int} {e : D} (r : Rs K G H xs ds L) (h : atI ds i = some e) : ∃ w Li, atI xs i = some w ∧ R K G H w e Li := by
  unfold L2.atI at h ⊢
  rw [r.length]
  cases hi : ixN ds.length i with
  | none => rw [hi] at h; cases h
  | some j =>
    rw [hi] at h
    obtain ⟨w, Li, h1, h2, _⟩ := r.getD (i := j) (d := e) h
    exact ⟨w, Li, h1, h2⟩
end
def gIx (d e : D) (A : Sl) : Option D := match e with
  | .int i => match see A d with
    | .str x => if x.length ≤ sizeLine then (atI x.cps.toList i).map fun c => .str ⟨#[c]⟩ else none
    | s => match sqOf s with
      | some ds => match atI ds i with
        | some e => if isF e = true then some e else none
        | none => none
      | none => none
  | _ => none
theorem opd_ix : OpD z (rIx z.K) gIx := by
  intro σ A ts H v u d e d' h hg Q q
  unfold gIx at hg
  split at hg
  · rename_i i
    have eu := h.int
    split at hg
    · rename_i x hx
      have hn : ∀ j, see A d ≠ .al j := fun j z => by rw [z] at hx; cases hx
      obtain ⟨G, L, gh, r, _⟩ := h.drop.look hn
      rw [hx] at r
      cases r
      split at hg
      · rename_i hl
        cases hc : atI x.cps.toList i with
        | none => rw [hc] at hg; cases hg
        | some c =>
          rw [hc] at hg
          cases hg
          exact .inr (.inr ⟨x, i, c, rfl, eu, hl, hc, q _ _ (h.drop.drop.pstr _)⟩)
      · cases hg
    · split at hg
      · rename_i ds hs
        split at hg
        · rename_i e he
          split at hg
          · rename_i hf
            cases hg
            obtain ⟨G, L, gh, r, back⟩ := h.drop.look (sqOf_al hs)
            obtain ⟨a, xs, L', ev, sq, rs⟩ := r.seq gh hs
            obtain ⟨w, Li, h1, h2⟩ := rs.atI he
            rw [h2.isF hf] at h2
            have fin := q _ _ (back w _ h2)
            rcases sq with sq | sq
            · exact .inl ⟨a, xs, i, w, ev, eu, sq, h1, fin⟩
            · exact .inr (.inl ⟨a, xs, i, w, ev, eu, sq, h1, fin⟩)
          · cases hg
        · cases hg
      · cases hg
  · cases hg
end
end Ab
end
section
namespace Ab
open PySem PySem.Spec PyProof.Rows L2

/-! ### in, not in -/
section
variable {X : Cx}
def rInT (K : PySem.W.Frag) : R2 := fun x y H Q => ∃ d ds, Dp K H x d ∧ Dp K H y (.tuple ds) ∧ SeqAt.shaped d = true ∧ SeqAt.shaped (.tuple ds) = true ∧ Q (.bl (ds.any fun z => PyData.eqv z d)) H
def rNotInT (K : PySem.W.Frag) : R2 := fun x y H Q => ∃ d ds, Dp K H x d ∧ Dp K H y (.tuple ds) ∧ SeqAt.shaped d = true ∧ SeqAt.shaped (.tuple ds) = true ∧ Q (.bl (!ds.any fun z => PyData.eqv z d)) H
theorem op_inT (hu : X.A.units + 65 < cLine) : OpR X (compareOp .In) (rInT X.K) := by
  intro pins s σ H x y v u Q I rx ry h
  obtain ⟨d, ds, hd, he, sd, se, q⟩ := h
  obtain ⟨as, r1⟩ := Dp.reads I d x v hd rx
  obtain ⟨bs, r2⟩ := Dp.reads I (.tuple ds) y u he ry
  exact SeqAt.in_tuple_reads r2 r1 (SeqAt.canLay_of_shaped se) (SeqAt.canLay_of_shaped sd) (room_in_shaped sd hu) ⟨.bl _, H, I, rfl, q⟩
theorem op_notInT (hu : X.A.units + 65 < cLine) : OpR X (compareOp .NotIn) (rNotInT X.K) := by
  intro pins s σ H x y v u Q I rx ry h
  obtain ⟨d, ds, hd, he, sd, se, q⟩ := h
  obtain ⟨as, r1⟩ := Dp.reads I d x v hd rx
  obtain ⟨bs, r2⟩ := Dp.reads I (.tuple ds) y u he ry
  exact SeqAt.notIn_tuple_reads r2 r1 (SeqAt.canLay_of_shaped se) (SeqAt.canLay_of_shaped sd) (room_in_shaped sd hu) ⟨.bl _, H, I, rfl, q⟩
def rInS : R2 := fun x y H Q => ∃ (c : Nat) (z : Str), x = .str ⟨#[c]⟩ ∧ y = .str z ∧ Q (.bl (decide (c ∈ z.cps.toList))) H
def rNotInS : R2 := fun x y H Q => ∃ (c : Nat) (z : Str), x = .str ⟨#[c]⟩ ∧ y = .str z ∧ Q (.bl (!decide (c ∈ z.cps.toList))) H
def rInA (K : PySem.W.Frag) : R2 := fun x y H Q => rInD K x y H Q ∨ rInT K x y H Q ∨ rInS x y H Q
def rNotInA (K : PySem.W.Frag) : R2 := fun x y H Q => rNotInD K x y H Q ∨ rNotInT K x y H Q ∨ rNotInS x y H Q
theorem op_inA (hu : X.A.units + 65 < cLine) : OpR X (compareOp .In) (rInA X.K) := (op_inD hu).or ((op_inT hu).or op_in_sign)
theorem op_notInA (hu : X.A.units + 65 < cLine) : OpR X (compareOp .NotIn) (rNotInA X.K) := (op_notInD hu).or ((op_notInT hu).or op_notIn_sign)
end
/-- d within e: the answer -/
def inB (d e : D) (A : Sl) : Option Bool := match see A e with
  | .str z => match d with
    | .str ⟨⟨[c]⟩⟩ => some (decide (c ∈ z.cps.toList))
    | _ => none
  | s => match sqOf s with
    | some ds => if (okD (see A d) && okD s) = true then some ((dats ds).any fun z => PyData.eqv z (dat (see A d))) else none
    | none => none
def gIn (d e : D) (A : Sl) : Option D := (inB d e A).map .bl
def gNotIn (d e : D) (A : Sl) : Option D := (inB d e A).map fun b => .bl (!b)
theorem dat_seq {d : D} {ds : List D} (h : sqOf d = some ds) : dat d = .list (dats ds) ∨ dat d = .tuple (dats ds) := by
  cases d <;> simp only [sqOf] at h <;> cases h <;> simp [dat]
section
variable {z : Z}
theorem inB_go {σ : L2.St} {A : Sl} {ts : Ts} {H : Hp} {v u : V} {d e : D} {b : Bool} (h : z.A σ A ((u, e) :: (v, d) :: ts) H) (hg : inB d e A = some b) :
    (∃ x ds, Dp z.K H v x ∧ (Dp z.K H u (.list ds) ∧ SeqAt.shaped (.list ds) = true ∨ Dp z.K H u (.tuple ds) ∧ SeqAt.shaped (.tuple ds) = true) ∧ SeqAt.shaped x = true ∧ b = ds.any fun z => PyData.eqv z x) ∨
      ∃ (c : Nat) (w : Str), v = .str ⟨#[c]⟩ ∧ u = .str w ∧ b = decide (c ∈ w.cps.toList) := by
  unfold inB at hg
  split at hg
  · rename_i w hw
    split at hg
    · rename_i c
      cases hg
      obtain ⟨G, L, gh, r, _⟩ := h.look (fun j z => by rw [z] at hw; cases hw)
      rw [hw] at r
      cases r
      exact .inr ⟨c, w, h.drop.str, rfl, rfl⟩
    · cases hg
  · split at hg
    · rename_i ds hs
      by_cases hk : (okD (see A d) && okD (see A e)) = true
      · rw [if_pos hk] at hg
        cases hg
        rw [Bool.and_eq_true] at hk
        obtain ⟨G, L, L', gh, r1, r2, _⟩ := h.look2 (okD_al hk.2) (okD_al hk.1)
        have d1 := r1.dp gh (okD_lay hk.2)
        have s1 : SeqAt.shaped (dat (see A e)) = true := hk.2
        refine .inl ⟨_, dats ds, r2.dp gh (okD_lay hk.1), ?_, hk.1, rfl⟩
        rcases dat_seq hs with q | q <;> rw [q] at d1 s1
        · exact .inl ⟨d1, s1⟩
        · exact .inr ⟨d1, s1⟩
      · rw [if_neg hk] at hg; cases hg
    · cases hg
theorem opd_in : OpD z (rInA z.K) gIn := by
  intro σ A ts H v u d e d' h hg Q q
  unfold gIn at hg
  cases hb : inB d e A with
  | none => rw [hb] at hg; cases hg
  | some b =>
    rw [hb] at hg
    cases hg
    have fin := q _ _ (h.drop.drop.pbl b)
    rcases inB_go h hb with ⟨x, ds, h1, h2 | h2, h3, rfl⟩ | ⟨c, w, e1, e2, rfl⟩
    · exact .inl ⟨x, ds, h1, h2.1, h3, h2.2, fin⟩
    · exact .inr (.inl ⟨x, ds, h1, h2.1, h3, h2.2, fin⟩)
    · exact .inr (.inr ⟨c, w, e1, e2, fin⟩)
theorem opd_notIn : OpD z (rNotInA z.K) gNotIn := by
  intro σ A ts H v u d e d' h hg Q q
  unfold gNotIn at hg
  cases hb : inB d e A with
  | none => rw [hb] at hg; cases hg
  | some b =>
    rw [hb] at hg
    cases hg
    have fin := q _ _ (h.drop.drop.pbl (!b))
    rcases inB_go h hb with ⟨x, ds, h1, h2 | h2, h3, rfl⟩ | ⟨c, w, e1, e2, rfl⟩
    · exact .inl ⟨x, ds, h1, h2.1, h3, h2.2, fin⟩
    · exact .inr (.inl ⟨x, ds, h1, h2.1, h3, h2.2, fin⟩)
    · exact .inr (.inr ⟨c, w, e1, e2, fin⟩)

end
/-! ### one value opened: what is known of it, and how one goes on -/
section
variable {K : Fw} {B : Bs} {G H : Hp} {σ : L2.St} {A : Sl} {ts : Ts} {vs : List V} {d e : D} {ds : List D} {p : Addr} {u v : V} {L : List Addr}
theorem isFs_noAl : ∀ {ds : List D}, isFs ds = true → noAl ds = true
  | [], _ => rfl
  | d :: ds, h => by
    rw [isFs, Bool.and_eq_true] at h
    have ih : noAl ds = true := isFs_noAl h.2
    unfold noAl at ih ⊢
    rw [List.all_cons, ih, Bool.and_true]
    cases d <;> first | rfl | (have := h.1; simp [isF] at this)
/-- the state goes on with a value w that is told e -/
def Fin (K : Fw) (B : Bs) (σ : L2.St) (A : Sl) (ts : Ts) (H G : Hp) : Prop :=
  ∀ w e H' G' L', Same H H' → Same G G' → Same G' H' → (∀ a, H a ≠ none → G a = none → G' a = none) → R K G' H' w e L' → L'.Nodup → (∀ a ∈ L', H a = none) → Abs K B σ A ((w, e) :: ts) H'
theorem Abs.fin (h : Abs K B σ A ts H) : ∃ G, Same G H ∧ Fin K B σ A ts H G := by
  obtain ⟨G, L1, L2, gd, tm, sl, nd, ow⟩ := h
  exact ⟨G, gd.gh, fun w e H' G' L' he g1 g2 g3 r rn rf => step_core gd tm sl nd ow he g1 g2 g3 r rn rf⟩
theorem Abs.open (h : Abs K B σ A ((v, d) :: ts) H) (hn : ∀ j, see A d ≠ .al j) : ∃ G L, Same G H ∧ R K G H v (see A d) L ∧ Fin K B σ A ts H G := by
  obtain ⟨G, L1, L2, gd, tm, sl, nd, ow⟩ := id h
  obtain ⟨L, r⟩ := tm.look sl hn
  obtain ⟨M, tm2, sM⟩ : ∃ M, Tms K σ G H ts M ∧ M.Sublist L1 := by
    cases tm with
    | cons r t => exact ⟨_, t, List.sublist_append_right _ _⟩
    | al e t => exact ⟨_, t, .refl _⟩
  have sub : (M ++ L2).Sublist (L1 ++ L2) := List.Sublist.append_right sM _
  exact ⟨G, L, gd.gh, r, fun w e H' G' L' he g1 g2 g3 r rn rf => step_core gd tm2 sl (sub.nodup nd) (fun a ha => ow a (sub.subset ha)) he g1 g2 g3 r rn rf⟩
theorem Abs.open2 (h : Abs K B σ A ((u, e) :: (v, d) :: ts) H) (h1 : ∀ j, see A e ≠ .al j) (h2 : ∀ j, see A d ≠ .al j) :
    ∃ G L L', Same G H ∧ R K G H u (see A e) L ∧ R K G H v (see A d) L' ∧ Fin K B σ A ts H G := by
  obtain ⟨G, L1, L2, gd, tm, sl, nd, ow⟩ := id h
  obtain ⟨L, r⟩ := tm.look sl h1
  obtain ⟨M, tm2, sM⟩ : ∃ M, Tms K σ G H ((v, d) :: ts) M ∧ M.Sublist L1 := by
    cases tm with
    | cons r t => exact ⟨_, t, List.sublist_append_right _ _⟩
    | al e t => exact ⟨_, t, .refl _⟩
  obtain ⟨L', r'⟩ := tm2.look sl h2
  obtain ⟨M', tm3, sM'⟩ : ∃ M', Tms K σ G H ts M' ∧ M'.Sublist M := by
    cases tm2 with
    | cons r t => exact ⟨_, t, List.sublist_append_right _ _⟩
    | al e t => exact ⟨_, t, .refl _⟩
  have sub : (M' ++ L2).Sublist (L1 ++ L2) := List.Sublist.append_right (sM'.trans sM) _
  exact ⟨G, L, L', gd.gh, r, r', fun w e H' G' L' he g1 g2 g3 r rn rf => step_core gd tm3 sl (sub.nodup nd) (fun a ha => ow a (sub.subset ha)) he g1 g2 g3 r rn rf⟩
theorem Fin.known (f : Fin K B σ A ts H G) (g : Same G H) (r : R K G H v d []) : Abs K B σ A ((v, d) :: ts) H :=
  f v d H G [] (fun _ _ e => e) (fun _ _ e => e) g (fun _ _ e => e) r List.nodup_nil fun _ z => nomatch z
theorem gp_none (g : Same G H) (hp : H p = none) : G p = none := by
  cases q : G p with
  | none => rfl
  | some o => rw [g p o q] at hp; cases hp
theorem same_upd2 {o : HO} (g : Same G H) : Same (upd G p o) (upd H p o) := fun a x e => by
  by_cases m : a = p
  · subst m; rw [upd_same] at e ⊢; exact e
  · rw [upd_ne m] at e ⊢; exact g a x e
theorem Fin.tup (f : Fin K B σ A ts H G) (g : Same G H) (r : Rs K G H vs ds []) (hp : H p = none) : Abs K B σ A ((.ref p, .tup ds) :: ts) (upd H p (.tup vs)) := by
  have g4 : Same G (upd G p (.tup vs)) := same_new (gp_none g hp)
  exact f _ _ _ (upd G p (.tup vs)) [] (same_new hp) g4 (same_upd2 g) (fun a ha hn => (upd_ne (fun z => ha (by rw [z]; exact hp))).trans hn) (.tup upd_same (r.free g4)) List.nodup_nil fun _ z => nomatch z
theorem Fin.lst (f : Fin K B σ A ts H G) (g : Same G H) (r : Rs K G H vs ds []) (hp : H p = none) : Abs K B σ A ((.ref p, .mu ds) :: ts) (upd H p (.lst vs)) :=
  f _ _ _ G [p] (same_new hp) (fun _ _ e => e) (g.trans (same_new hp)) (fun _ _ hn => hn) (.mu upd_same (gp_none g hp) (r.free fun _ _ e => e)) (by simp) fun a ha => by rw [List.mem_singleton.mp ha]; exact hp
theorem R.seq2 (g : Same G H) (r : R K G H v d L) (h : sqOf d = some ds) : ∃ a xs L', v = .ref a ∧ Rs K G H xs ds L' ∧ ((lsOf d = some ds ∧ SqL K H a xs) ∨ (d = .tup ds ∧ SqT K H a xs ∧ (L' = [] → R K G H v d []))) := by
  cases r <;> simp only [sqOf] at h <;> try cases h
  · rename_i q r; exact ⟨_, _, _, rfl, r, .inr ⟨rfl, .inl (.inl (g _ _ q)), fun e => by subst e; exact .tup q r⟩⟩
  · rename_i q r; exact ⟨_, _, _, rfl, r, .inl ⟨rfl, .inl (.inl (g _ _ q))⟩⟩
  · rename_i q r; exact ⟨_, _, _, rfl, r, .inl ⟨rfl, sq_l g q⟩⟩
  · rename_i e n r; exact ⟨_, _, _, rfl, r, .inl ⟨rfl, .inl (.inl e)⟩⟩
/-- lists that are tracked as such (not the script) -/
def exOf : D → Option (List D)
  | .lst ds => some ds | .mu ds => some ds
  | _ => none
theorem exOf_al (h : exOf (see A d) = some ds) : ∀ j, see A d ≠ .al j := fun j e => by rw [e] at h; cases h
theorem R.ex (g : Same G H) (r : R K G H v d L) (h : exOf d = some ds) : ∃ a xs L', v = .ref a ∧ H a = some (.lst xs) ∧ Rs K G H xs ds L' := by
  cases r <;> simp only [exOf] at h <;> try cases h
  · rename_i q r; exact ⟨_, _, _, rfl, g _ _ q, r⟩
  · rename_i e n r; exact ⟨_, _, _, rfl, e, r⟩
theorem Rs.take : ∀ {vs : List V} {ds : List D} (n : Nat), Rs K G H vs ds [] → Rs K G H (vs.take n) (ds.take n) []
  | _, _, 0, _ => .nil
  | [], [], _ + 1, _ => .nil
  | v :: vs, d :: ds, n + 1, r => by
    generalize hL : ([] : List Addr) = L0 at r
    cases r with
    | cons r t =>
      obtain ⟨e1, e2⟩ := List.append_eq_nil_iff.mp hL.symm
      subst e1; subst e2
      exact Rs.cons r (Rs.take n t)
theorem Rs.drop : ∀ {vs : List V} {ds : List D} (n : Nat), Rs K G H vs ds [] → Rs K G H (vs.drop n) (ds.drop n) []
  | _, _, 0, r => r
  | [], [], _ + 1, _ => .nil
  | v :: vs, d :: ds, n + 1, r => by
    generalize hL : ([] : List Addr) = L0 at r
    cases r with
    | cons r t =>
      obtain ⟨e1, e2⟩ := List.append_eq_nil_iff.mp hL.symm
      subst e1; subst e2
      exact Rs.drop n t
theorem Rs.cat {ws : List V} {es : List D} (r : Rs K G H vs ds []) (s : Rs K G H ws es []) : Rs K G H (vs ++ ws) (ds ++ es) [] := r.app s
theorem Rs.rep (r : Rs K G H vs ds []) : ∀ n : Nat, Rs K G H (List.replicate n vs).flatten (List.replicate n ds).flatten []
  | 0 => .nil
  | n + 1 => by
    rw [List.replicate_succ, List.replicate_succ, List.flatten_cons, List.flatten_cons]
    exact r.cat (Rs.rep r n)
end

/-! ### + -/
def gAdd (d e : D) (A : Sl) : Option D := match see A d, see A e with
  | .int i, .int j => some (.int (i + j))
  | .str x, .str y => if x.length + y.length ≤ sizeLine then some (.str (x ++ y)) else none
  | .tup ds, .tup es => if isFs ds = true ∧ isFs es = true ∧ ds.length + es.length ≤ sizeLine then some (.tup (ds ++ es)) else none
  | s, t => match exOf s, exOf t with
    | some ds, some es => if isFs ds = true ∧ isFs es = true ∧ ds.length + es.length ≤ sizeLine then some (.mu (ds ++ es)) else none
    | _, _ => none
def rAddStr : R2 := fun x y H Q => ∃ i j, x = .str i ∧ y = .str j ∧ i.length + j.length ≤ sizeLine ∧ Q (.str (i ++ j)) H
def rAddA (K : PySem.W.Frag) : R2 := fun x y H Q => rI0 (fun i j => .int (i + j)) x y H Q ∨ rAddStr x y H Q ∨ rCatA K x y H Q ∨ rCat x y H Q
theorem op_addA {X : Cx} : OpR X (binaryOp .Add) (rAddA X.K) := op_add.or (op_add_str.or (op_catA.or op_cat))
section
variable {z : Z}
theorem opd_add : OpD z (rAddA z.K) gAdd := by
  intro σ A ts H v u d e d' h hg Q q
  have key : ∀ {x y : D}, see A d = x → see A e = y → (∀ j, x ≠ .al j) → (∀ j, y ≠ .al j) → ∃ G L L', Same G H ∧ R z.K G H u y L ∧ R z.K G H v x L' ∧ Fin z.K z.B σ A ts H G := by
    intro x y e1 e2 n1 n2
    obtain ⟨G, L, L', gh, r1, r2, f⟩ := h.open2 (by rw [e2]; exact n2) (by rw [e1]; exact n1)
    exact ⟨G, L, L', gh, e2 ▸ r1, e1 ▸ r2, f⟩
  unfold gAdd at hg
  split at hg
  · rename_i i j h1 h2
    cases hg
    obtain ⟨G, L, L', gh, r1, r2, f⟩ := key h1 h2 (fun _ z => nomatch z) (fun _ z => nomatch z)
    cases r1; cases r2
    exact .inl ⟨i, j, rfl, rfl, q _ _ (f.known gh (.int _))⟩
  · rename_i x y h1 h2
    split at hg
    · rename_i hl
      cases hg
      obtain ⟨G, L, L', gh, r1, r2, f⟩ := key h1 h2 (fun _ z => nomatch z) (fun _ z => nomatch z)
      cases r1; cases r2
      exact .inr (.inl ⟨x, y, rfl, rfl, hl, q _ _ (f.known gh (.str _))⟩)
    · cases hg
  · rename_i ds es h1 h2
    split at hg
    · rename_i hl
      cases hg
      obtain ⟨G, L, L', gh, r1, r2, f⟩ := key h1 h2 (fun _ z => nomatch z) (fun _ z => nomatch z)
      cases r1 with | tup q1 s1 => cases r2 with | tup q2 s2 =>
      have e1 := s1.isFs hl.2.1
      have e2 := s2.isFs hl.1
      subst e1; subst e2
      refine .inr (.inr (.inl ⟨_, _, _, _, rfl, rfl, .inl (.inl (gh _ _ q2)), .inl (.inl (gh _ _ q1)), by rw [s1.length, s2.length]; exact hl.2.2, fun e => ?_, fun _ e => ?_, fun _ _ p hp => ?_⟩))
      · subst e
        have e3 : ds = [] := by have := s2.length; simpa using this.symm
        subst e3
        exact q _ _ (f.known gh (.tup q1 s1))
      · subst e
        have e3 : es = [] := by have := s1.length; simpa using this.symm
        subst e3
        rw [List.append_nil] at q
        exact q _ _ (f.known gh (.tup q2 s2))
      · exact q _ _ (f.tup gh (s2.cat s1) hp)
    · cases hg
  · split at hg
    · rename_i ds es h1 h2
      split at hg
      · rename_i hl
        cases hg
        obtain ⟨G, L, L', gh, r1, r2, f⟩ := h.open2 (exOf_al h2) (exOf_al h1)
        obtain ⟨a, xs, M, rfl, k1, s1⟩ := r2.ex gh h1
        obtain ⟨b, ys, M', rfl, k2, s2⟩ := r1.ex gh h2
        have e1 := s1.isFs hl.1
        have e2 := s2.isFs hl.2.1
        subst e1; subst e2
        exact .inr (.inr (.inr ⟨a, b, xs, ys, rfl, rfl, k1, k2, by rw [s1.length, s2.length]; exact hl.2.2, fun p hp => q _ _ (f.lst gh (s1.cat s2) hp)⟩))
      · cases hg
    · cases hg

/-! ### * -/
def gMulA (d e : D) (A : Sl) : Option D := match d, e with
  | .int i, .int j => if cMul i j = true then some (.int (i * j)) else none
  | d, .int k => match exOf (see A d) with
    | some ds => if isFs ds = true ∧ k.natAbs < 2 ^ 62 ∧ ds.length * k.toNat ≤ sizeLine then some (.mu (List.replicate k.toNat ds).flatten) else none
    | none => none
  | _, _ => none
def rMulA : R2 := fun x y H Q => rI CMul (fun i j => .int (i * j)) x y H Q ∨ rRep x y H Q
theorem op_mulA {X : Cx} : OpR X (binaryOp .Mult) rMulA := op_mul.or op_rep
theorem opd_mulA : OpD z rMulA gMulA := by
  intro σ A ts H v u d e d' h hg Q q
  unfold gMulA at hg
  split at hg
  · rename_i i j
    split at hg
    · rename_i hc
      cases hg
      refine .inl ⟨i, j, h.drop.int, h.int, ?_, q _ _ (h.drop.drop.pint _)⟩
      unfold cMul at hc
      rw [Bool.or_eq_true, decide_eq_true_iff, decide_eq_true_iff] at hc
      rcases hc with hc | hc
      · exact .inl (by omega)
      · exact .inr (by omega)
    · cases hg
  · rename_i k _
    split at hg
    · rename_i ds hs
      split at hg
      · rename_i hl
        cases hg
        have eu := h.int
        obtain ⟨G, L, gh, r, f⟩ := h.drop.open (exOf_al hs)
        obtain ⟨a, xs, M, rfl, k1, s1⟩ := r.ex gh hs
        have e1 := s1.isFs hl.1
        subst e1
        exact .inr ⟨a, k, xs, rfl, eu, k1, by omega, by omega, by rw [s1.length]; exact hl.2.2, fun p hp => q _ _ (f.lst gh (s1.rep _) hp)⟩
      · cases hg
    · cases hg
  · cases hg

/-! ### slices -/
abbrev FO := Sl → Ou (Option Int)
def pO (z : Z) (o : Ou (Option Int)) (σ : L2.St) (ts : Ts) (Q : Option Int → Hp → Prop) : Prop := match o with
  | .ok b A' => ∀ H', z.A σ A' ts H' → Q b H'
  | .exc c A' => ∀ H', z.A σ A' ts H' → z.W (z.cl c) none σ H'
  | .stuck => False
def tO (z : Z) (f : FO) : TO := fun σ H Q => ∃ A ts, z.A σ A ts H ∧ pO z (f A) σ ts Q
variable {X : Cx}
theorem PO.imp {e : Option Expr} {t t' : TO} (h : PO X e t) (hi : ∀ σ H Q, t' σ H Q → t σ H Q) : PO X e t' := ⟨fun pins s σ H Q I w => h.run pins s σ H Q I (hi σ H Q w)⟩
def fNoPart : FO := fun A => .ok none A
def fPart (f : FE) : FO := fun A => (f A).bind fun d A1 => match d with
  | .int i => .ok (some i) A1
  | _ => .stuck
theorem qo_none : PO X none (tO z fNoPart) := PO.imp po_none fun σ H Q ⟨A, ts, ha, hp⟩ => hp _ ha
theorem qo_some {e : Expr} {f : FE} (h : PE X e (tE z f)) : PO X (some e) (tO z (fPart f)) := PO.imp (po_some h) fun σ H Q ⟨A, ts, ha, hp⟩ => ⟨A, ts, ha, by
  unfold fPart at hp
  cases ea : f A with
  | stuck => rw [ea] at hp; exact hp.elim
  | exc c A1 => rw [ea] at hp; exact hp
  | ok d A1 =>
    rw [ea] at hp
    simp only [Ou.bind_ok] at hp
    intro v H1 h1
    cases d <;> try exact hp.elim
    exact ⟨_, h1.int, hp _ h1.drop⟩⟩
def cutG {α : Type} (xs : List α) (lo hi : Option Int) : List α := (xs.drop (HT.sIx xs.length 0 lo)).take (HT.sIx xs.length xs.length hi - HT.sIx xs.length 0 lo)
def gSl (d : D) (lo hi : Option Int) (A : Sl) : Option D := match see A d with
  | .str x => if x.length ≤ sizeLine then some (.str (cutS x lo hi)) else none
  | .tup ds => if isFs ds = true then some (.tup (cutG ds lo hi)) else none
  | s => match lsOf s with
    | some ds => if isFs ds = true then some (.mu (cutG ds lo hi)) else none
    | none => none
def fSl (fe : FE) (fl fh : FO) : FE := fun A => (fe A).bind fun d A1 => (fl A1).bind fun l A2 => (fh A2).bind fun h A3 => match gSl d l h A3 with
  | some r => .ok r A3
  | none => .stuck
def rSlAny (K : PySem.W.Frag) : V → Option Int → Option Int → Hp → VK → Prop := fun x lo hi H Q => rSlL K x lo hi H Q ∨ rSlA K x lo hi H Q ∨ rSlS x lo hi H Q
theorem sl_any : SlR X (rSlAny X.K) := sl_list.or (sl_tupA.or sl_str)
theorem sld_any {σ : L2.St} {A : Sl} {ts : Ts} {H : Hp} {v : V} {d d' : D} {lo hi : Option Int} (h : z.A σ A ((v, d) :: ts) H) (hg : gSl d lo hi A = some d') (Q : VK) (q : ∀ w H', z.A σ A ((w, d') :: ts) H' → Q w H') : rSlAny z.K v lo hi H Q := by
  unfold gSl at hg
  split at hg
  · rename_i x hx
    split at hg
    · rename_i hl
      cases hg
      obtain ⟨G, L, gh, r, f⟩ := h.open (fun j z => by rw [z] at hx; cases hx)
      rw [hx] at r
      cases r
      exact .inr (.inr ⟨x, rfl, hl, q _ _ (f.known gh (.str _))⟩)
    · cases hg
  · rename_i ds hx
    split at hg
    · rename_i hl
      cases hg
      obtain ⟨G, L, gh, r, f⟩ := h.open (fun j z => by rw [z] at hx; cases hx)
      rw [hx] at r
      cases r with | tup q1 s1 =>
      have e1 := s1.isFs hl
      subst e1
      refine .inr (.inl ⟨_, _, rfl, .inl (.inl (gh _ _ q1)), fun e => ?_, fun _ p hp => ?_⟩)
      · have e2 : cutG ds lo hi = ds := by
          unfold cutG
          rw [← s1.length, e.1, e.2, List.drop_zero, s1.length, Nat.sub_zero, List.take_length]
        rw [e2] at q
        exact q _ _ (f.known gh (.tup q1 s1))
      · refine q _ _ (f.tup gh ?_ hp)
        unfold cutV cutG
        rw [s1.length]
        exact (s1.drop _).take _
    · cases hg
  · split at hg
    · rename_i ds hs
      split at hg
      · rename_i hl
        cases hg
        obtain ⟨G, L, gh, r, f⟩ := h.open (lsOf_al hs)
        obtain ⟨a, xs, M, rfl, k1, s1⟩ := r.list gh hs
        have e1 := s1.isFs hl
        subst e1
        refine .inl ⟨a, xs, rfl, k1, fun p hp => q _ _ (f.lst gh ?_ hp)⟩
        unfold cutV cutG
        rw [s1.length]
        exact (s1.drop _).take _
      · cases hg
    · cases hg
theorem qe_slice {e : Expr} {lo hi : Option Expr} {fe : FE} {fl fh : FO} {pos p2 : Pos} (hK : X.K = z.K) (he : PE X e (tE z fe)) (hl : PO X lo (tO z fl)) (hh : PO X hi (tO z fh)) : PE X (.Subscript e (.Slice lo hi none p2) pos) (tE z (fSl fe fl fh)) := by
  refine PE.imp (pe_slice sl_any he hl hh) fun σ H Q ⟨A, ts, ha, hp⟩ => ⟨A, ts, ha, ?_⟩
  unfold fSl at hp
  cases ea : fe A with
  | stuck => rw [ea] at hp; exact hp.elim
  | exc c A1 => rw [ea] at hp; exact hp
  | ok d A1 =>
    rw [ea] at hp
    simp only [Ou.bind_ok] at hp
    intro v H1 h1
    refine ⟨A1, (v, d) :: ts, h1, ?_⟩
    cases eb : fl A1 with
    | stuck => rw [eb] at hp; exact hp.elim
    | exc c A2 => rw [eb] at hp; exact fun H' h' => hp H' h'.drop
    | ok l A2 =>
      rw [eb] at hp
      simp only [Ou.bind_ok] at hp
      intro H2 h2
      refine ⟨A2, (v, d) :: ts, h2, ?_⟩
      cases ec : fh A2 with
      | stuck => rw [ec] at hp; exact hp.elim
      | exc c A3 => rw [ec] at hp; exact fun H' h' => hp H' h'.drop
      | ok hh A3 =>
        rw [ec] at hp
        simp only [Ou.bind_ok] at hp
        intro H3 h3
        cases eg : gSl d l hh A3 with
        | none => rw [eg] at hp; exact hp.elim
        | some d' =>
          rw [eg] at hp
          rw [hK]
          exact sld_any h3 eg Q hp
end
end Ab
end
section
namespace Ab
open PySem PySem.Spec PyProof.Rows L2

/-! ### argument lists -/
def fNil : FA := fun A => .ok [] A
def fCons (f : FE) (g : FA) : FA := fun A => (f A).bind fun d A1 => (g A1).bind fun ds A2 => .ok (d :: ds) A2
section
variable {z : Z} {X : Cx}
theorem qa_nil : PA X [] (tA z fNil) := PA.imp pa_nil fun σ H Q ⟨A, ts, ha, hp⟩ => hp [] _ rfl ha
theorem qa_cons {e : Expr} {es : List Expr} {f : FE} {g : FA} (ha : PE X e (tE z f)) (hr : PA X es (tA z g)) (hs : starEach (e :: es) X.env = (false, eval e X.env) :: starEach es X.env := by rfl) : PA X (e :: es) (tA z (fCons f g)) := by
  refine PA.imp (pa_cons ha hr hs) fun σ H Q ⟨A, ts, hA, hp⟩ => ⟨A, ts, hA, ?_⟩
  unfold fCons at hp
  cases ea : f A with
  | stuck => rw [ea] at hp; exact hp.elim
  | exc c A1 => rw [ea] at hp; exact hp
  | ok d A1 =>
    rw [ea] at hp
    simp only [Ou.bind_ok] at hp
    intro v H1 h1
    refine ⟨A1, (v, d) :: ts, h1, ?_⟩
    cases eb : g A1 with
    | stuck => rw [eb] at hp; exact hp.elim
    | exc c A2 => rw [eb] at hp; exact fun H' h' => hp H' h'.drop
    | ok ds A2 =>
      rw [eb] at hp
      intro vs H2 hl h2
      refine hp (v :: vs) H2 (by simp [hl]) (h2.perm ?_)
      simpa using List.perm_middle
/-! ### an argument list whose aliases are frozen -/
def closeL : List D → Sl → Option (List D × Sl)
  | [], A => some ([], A)
  | d :: ds, A => match d with
    | .al i => match A[i]? with
      | some (some t) => match closeL ds (A.set i (some (fz t))) with
        | some (es, A') => some (fz t :: es, A')
        | none => none
      | _ => none
    | d => match closeL ds A with
      | some (es, A') => some (d :: es, A')
      | none => none
theorem fz_al : ∀ d : D, (∀ i, d ≠ .al i) → ∀ i, fz d ≠ .al i := by
  intro d h i e
  cases d <;> simp only [fz] at e <;> first | exact h _ rfl | exact nomatch e
theorem noAl_cons {d : D} {ds : List D} (h : ∀ i, d ≠ .al i) (h2 : noAl ds = true) : noAl (d :: ds) = true := by
  unfold noAl at h2 ⊢
  rw [List.all_cons, h2, Bool.and_true]
  cases d <;> first | rfl | exact absurd rfl (h _)
/-- what a slot bears is no alias -/
theorem Abs.slot_al {K : Fw} {B : Bs} {σ : L2.St} {A : Sl} {ts : Ts} {H : Hp} {i : Nat} {d : D} (h : Abs K B σ A ts H) (e : A[i]? = some (some d)) : ∀ j, d ≠ .al j := fun j q => by
  obtain ⟨G, L1, L2, gd, tm, sl, nd, ow⟩ := h
  obtain ⟨v, Li, L', _, r, _, _⟩ := sl.take e
  subst q
  exact r.not_al
theorem Abs.close {K : Fw} {B : Bs} {σ : L2.St} {H : Hp} : ∀ {ds : List D} {vs : List V} {A : Sl} {ts : Ts} {es : List D} {A' : Sl}, vs.length = ds.length → Abs K B σ A (vs.zip ds ++ ts) H → closeL ds A = some (es, A') →
    Abs K B σ A' (vs.zip es ++ ts) H ∧ vs.length = es.length ∧ noAl es = true
  | [], [], A, ts, es, A', _, h, hc => by
    simp only [closeL] at hc
    cases hc
    exact ⟨h, rfl, rfl⟩
  | d :: ds, v :: vs, A, ts, es, A', hl, h, hc => by
    have go : ∀ {d' : D} {A1 : Sl} {es1 : List D}, (∀ i, d' ≠ .al i) → Abs K B σ A1 ((v, d') :: (vs.zip ds ++ ts)) H → closeL ds A1 = some (es1, A') → Abs K B σ A' ((v :: vs).zip (d' :: es1) ++ ts) H ∧ (v :: vs).length = (d' :: es1).length ∧ noAl (d' :: es1) = true := by
      intro d' A1 es1 nd h1 hc1
      have h2 : Abs K B σ A1 (vs.zip ds ++ (v, d') :: ts) H := h1.perm (by simpa using (List.perm_middle (l₁ := vs.zip ds) (a := (v, d')) (l₂ := ts)).symm)
      obtain ⟨h3, l3, n3⟩ := Abs.close (by simpa using hl) h2 hc1
      exact ⟨h3.perm (by simpa using List.perm_middle), by simp [l3], noAl_cons nd n3⟩
    unfold closeL at hc
    split at hc
    · rename_i i
      split at hc
      · rename_i t et
        split at hc
        · rename_i es1 A1 e1
          cases hc
          have h1 := h.frz et
          exact go (fz_al t (h.slot_al et)) h1 e1
        · cases hc
      · cases hc
    · rename_i hna
      split at hc
      · rename_i es1 A1 e1
        cases hc
        exact go (fun i q => hna i q) h e1
      · cases hc
  | [], _ :: _, _, _, _, _, hl, _, _ => by simp at hl
  | _ :: _, [], _, _, _, _, hl, _, _ => by simp at hl

/-! ### displays -/
def fTup (fa : FA) : FE := fun A => (fa A).bind fun ds A1 => match closeL ds A1 with
  | some (es, A2) => if es.length ≤ sizeLine then .ok (.tup es) A2 else .stuck
  | none => .stuck
def fLst (fa : FA) : FE := fun A => (fa A).bind fun ds A1 => match closeL ds A1 with
  | some (es, A2) => if es.length ≤ sizeLine then .ok (.mu es) A2 else .stuck
  | none => .stuck
theorem qe_tup {es : List Expr} {k : Nat} {pos : Pos} {fa : FA} (h : PA X es (tA z fa)) : PE X (.Tuple es k pos) (tE z (fTup fa)) := by
  refine PE.imp (pe_tup h) fun σ H Q ⟨A, ts, hA, hp⟩ => ⟨A, ts, hA, ?_⟩
  unfold fTup at hp
  cases ea : fa A with
  | stuck => rw [ea] at hp; exact hp.elim
  | exc c A1 => rw [ea] at hp; exact hp
  | ok ds A1 =>
    rw [ea] at hp
    simp only [Ou.bind_ok] at hp
    intro vs H1 hl h1
    split at hp
    · rename_i es' A2 ec
      obtain ⟨h2, l2, n2⟩ := h1.close hl ec
      split at hp
      · rename_i hz
        exact ⟨by rw [l2]; exact hz, fun p hpn => hp _ _ (h2.tup l2 n2 hpn)⟩
      · exact hp.elim
    · exact hp.elim
theorem qe_lst {es : List Expr} {pos : Pos} {fa : FA} (h : PA X es (tA z fa)) : PE X (.List es pos) (tE z (fLst fa)) := by
  refine PE.imp (pe_lst h) fun σ H Q ⟨A, ts, hA, hp⟩ => ⟨A, ts, hA, ?_⟩
  unfold fLst at hp
  cases ea : fa A with
  | stuck => rw [ea] at hp; exact hp.elim
  | exc c A1 => rw [ea] at hp; exact hp
  | ok ds A1 =>
    rw [ea] at hp
    simp only [Ou.bind_ok] at hp
    intro vs H1 hl h1
    split at hp
    · rename_i es' A2 ec
      obtain ⟨h2, l2, n2⟩ := h1.close hl ec
      split at hp
      · rename_i hz
        exact ⟨by rw [l2]; exact hz, fun p hpn => hp _ _ (h2.lst l2 n2 hpn)⟩
      · exact hp.elim
    · exact hp.elim

/-! ### calls of built-ins by values -/
def CallD (z : Z) (r : List V → Hp → VK → Prop) (g : List D → Sl → Option D) : Prop :=
  ∀ (σ : L2.St) (A : Sl) (ts : Ts) (H : Hp) (vs : List V) (ds : List D) (d' : D), vs.length = ds.length → z.A σ A (vs.zip ds ++ ts) H → g ds A = some d' → ∀ Q : VK, (∀ w H', z.A σ A ((w, d') :: ts) H' → Q w H') → r vs H Q
def fCB (g : List D → Sl → Option D) (fa : FA) : FE := fun A => (fa A).bind fun ds A1 => match g ds A1 with
  | some d => .ok d A1
  | none => .stuck
theorem cb_go {r : List V → Hp → VK → Prop} {g : List D → Sl → Option D} {fa : FA} (hd : CallD z r g) {σ : L2.St} {H : Hp} {Q : VK} (h : tE z (fCB g fa) σ H Q) : tCB r (tA z fa) σ H Q := by
  obtain ⟨A, ts, hA, hp⟩ := h
  refine ⟨A, ts, hA, ?_⟩
  unfold fCB at hp
  cases ea : fa A with
  | stuck => rw [ea] at hp; exact hp.elim
  | exc c A1 => rw [ea] at hp; exact hp
  | ok ds A1 =>
    rw [ea] at hp
    simp only [Ou.bind_ok] at hp
    intro vs H1 hl h1
    split at hp
    · rename_i d eg
      exact hd _ _ _ _ _ _ _ hl h1 eg Q hp
    · exact hp.elim
theorem qe_callB {id : String} {x : Str} {e : Expr} {es : List Expr} {p pos : Pos} {r : List V → Hp → VK → Prop} {g : List D → Sl → Option D} {fa : FA} (hc : CallR X (.builtin id) r) (hd : CallD z r g) (hg : Gl X x) (hm : X.mg x = none) (hv : bootBuiltins x = some (.builtin id))
    (ha : PA X (e :: es) (tA z fa)) (hn : x ≠ "__name__" := by decide) (hdb : (x == ("__debug__" : Str)) = false := by decide) (he : starEach (e :: es) X.env = (false, eval e X.env) :: starEach es X.env := by rfl)
    (hpl : (backTo pos (starEach es X.env)).any (·.1) = false := by rfl) : PE X (.Call (.Name x p) (e :: es) [] pos) (tE z (fCB g fa)) := PE.imp (pe_callB hc hg hm hv ha hn hdb he hpl) fun _ _ _ h => cb_go hd h
theorem qe_callTy {T : String} {x : Str} {e : Expr} {es : List Expr} {p pos : Pos} {r : List V → Hp → VK → Prop} {g : List D → Sl → Option D} {fa : FA} (hc : CallR X (.type T) r) (hd : CallD z r g) (hg : Gl X x) (hm : X.mg x = none) (hv : bootBuiltins x = some (.type T))
    (ha : PA X (e :: es) (tA z fa)) (hn : x ≠ "__name__" := by decide) (hdb : (x == ("__debug__" : Str)) = false := by decide) (he : starEach (e :: es) X.env = (false, eval e X.env) :: starEach es X.env := by rfl)
    (hpl : (backTo pos (starEach es X.env)).any (·.1) = false := by rfl) : PE X (.Call (.Name x p) (e :: es) [] pos) (tE z (fCB g fa)) := PE.imp (pe_callTy hc hg hm hv ha hn hdb he hpl) fun _ _ _ h => cb_go hd h
/-- one argument -/
theorem call1 {vs : List V} {ds : List D} {d : D} (hl : vs.length = ds.length) (e : ds = [d]) : ∃ v, vs = [v] := by
  subst e
  match vs, hl with
  | [v], _ => exact ⟨v, rfl⟩
theorem call2 {vs : List V} {ds : List D} {d e : D} (hl : vs.length = ds.length) (h : ds = [d, e]) : ∃ v u, vs = [v, u] := by
  subst h
  match vs, hl with
  | [v, u], _ => exact ⟨v, u, rfl⟩
/-! len -/
def gLen (ds : List D) (A : Sl) : Option D := match ds with
  | [d] => match see A d with
    | .str x => if x.length ≤ sizeLine then some (.int x.length) else none
    | s => match sqOf s with
      | some es => some (.int es.length)
      | none => none
  | _ => none
theorem cd_len : CallD z (fun xs H Q => ∃ x n, xs = [x] ∧ LenV z.K x H n ∧ Q (.int n) H) gLen := by
  intro σ A ts H vs ds d' hl h hg Q q
  unfold gLen at hg
  split at hg
  · rename_i d
    obtain ⟨v, rfl⟩ := call1 hl rfl
    have h : z.A σ A ((v, d) :: ts) H := h
    split at hg
    · rename_i x hx
      split at hg
      · rename_i hz
        cases hg
        obtain ⟨G, L, gh, r, f⟩ := h.open (fun j z => by rw [z] at hx; cases hx)
        rw [hx] at r; cases r
        exact ⟨_, _, rfl, ⟨hz, rfl⟩, q _ _ (f.known gh (.int _))⟩
      · cases hg
    · split at hg
      · rename_i es hs
        cases hg
        obtain ⟨G, L, gh, r, f⟩ := h.open (sqOf_al hs)
        obtain ⟨a, xs, M, rfl, rs, k⟩ := r.seq2 gh hs
        refine ⟨_, es.length, rfl, ?_, q _ _ (f.known gh (.int _))⟩
        rcases k with ⟨_, k⟩ | ⟨_, k, _⟩
        · exact .inl ⟨xs, k, rs.length.symm⟩
        · exact .inr ⟨xs, k, rs.length.symm⟩
      · cases hg
  · cases hg
/-! tuple(x), list(x) of lists and tuples -/
def gTuple (ds : List D) (A : Sl) : Option D := match ds with
  | [d] => match sqOf (see A d) with
    | some es => if isFs es = true then some (.tup es) else none
    | none => none
  | _ => none
theorem cd_tuple : CallD z (fun xs H Q => ∃ p ys, xs = [.ref p] ∧ ((SqL z.K H p ys ∧ ∀ l, H l = none → Q (.ref l) (upd H l (.tup ys))) ∨ (SqT z.K H p ys ∧ Q (.ref p) H))) gTuple := by
  intro σ A ts H vs ds d' hl h hg Q q
  unfold gTuple at hg
  split at hg
  · rename_i d
    obtain ⟨v, rfl⟩ := call1 hl rfl
    have h : z.A σ A ((v, d) :: ts) H := h
    split at hg
    · rename_i es hs
      split at hg
      · rename_i hf
        cases hg
        obtain ⟨G, L, gh, r, f⟩ := h.open (sqOf_al hs)
        obtain ⟨a, xs, M, rfl, rs, k⟩ := r.seq2 gh hs
        have e1 := rs.isFs hf
        subst e1
        refine ⟨a, xs, rfl, ?_⟩
        rcases k with ⟨_, k⟩ | ⟨ek, k, kr⟩
        · exact .inl ⟨k, fun l hln => q _ _ (f.tup gh rs hln)⟩
        · rw [ek] at kr
          exact .inr ⟨k, q _ _ (f.known gh (kr rfl))⟩
      · cases hg
    · cases hg
  · cases hg
def gList (ds : List D) (A : Sl) : Option D := match ds with
  | [d] => match sqOf (see A d) with
    | some es => if isFs es = true then some (.mu es) else none
    | none => none
  | _ => none
theorem cd_list : CallD z (fun xs H Q => ∃ p ys, xs = [.ref p] ∧ (SqL z.K H p ys ∨ SqT z.K H p ys) ∧ ∀ l, H l = none → Q (.ref l) (upd H l (.lst ys))) gList := by
  intro σ A ts H vs ds d' hl h hg Q q
  unfold gList at hg
  split at hg
  · rename_i d
    obtain ⟨v, rfl⟩ := call1 hl rfl
    have h : z.A σ A ((v, d) :: ts) H := h
    split at hg
    · rename_i es hs
      split at hg
      · rename_i hf
        cases hg
        obtain ⟨G, L, gh, r, f⟩ := h.open (sqOf_al hs)
        obtain ⟨a, xs, M, rfl, rs, k⟩ := r.seq2 gh hs
        have e1 := rs.isFs hf
        subst e1
        refine ⟨a, xs, rfl, ?_, fun l hln => q _ _ (f.lst gh rs hln)⟩
        rcases k with ⟨_, k⟩ | ⟨_, k, _⟩
        · exact .inl k
        · exact .inr k
      · cases hg
    · cases hg
  · cases hg
/-! min, max of two ints; int(bool), int(int) -/
def gMin2 (ds : List D) (A : Sl) : Option D := match ds with
  | [.int i, .int j] => some (.int (if j < i then j else i))
  | _ => none
def gMax2 (ds : List D) (A : Sl) : Option D := match ds with
  | [.int i, .int j] => some (.int (if j > i then j else i))
  | _ => none
theorem cd_min2 : CallD z (fun xs H Q => ∃ i j, xs = [.int i, .int j] ∧ Q (.int (if j < i then j else i)) H) gMin2 := by
  intro σ A ts H vs ds d' hl h hg Q q
  unfold gMin2 at hg
  split at hg
  · rename_i i j
    cases hg
    obtain ⟨v, u, rfl⟩ := call2 hl rfl
    have h : z.A σ A ((v, .int i) :: (u, .int j) :: ts) H := h
    rw [h.int, h.drop.int]
    exact ⟨i, j, rfl, q _ _ (h.drop.drop.pint _)⟩
  · cases hg
theorem cd_max2 : CallD z (fun xs H Q => ∃ i j, xs = [.int i, .int j] ∧ Q (.int (if j > i then j else i)) H) gMax2 := by
  intro σ A ts H vs ds d' hl h hg Q q
  unfold gMax2 at hg
  split at hg
  · rename_i i j
    cases hg
    obtain ⟨v, u, rfl⟩ := call2 hl rfl
    have h : z.A σ A ((v, .int i) :: (u, .int j) :: ts) H := h
    rw [h.int, h.drop.int]
    exact ⟨i, j, rfl, q _ _ (h.drop.drop.pint _)⟩
  · cases hg
/-! isinstance against a built-in class -/
def tyN : D → Option String
  | .non => some "NoneType" | .bl _ => some "bool" | .int _ => some "int" | .str _ => some "str"
  | .tup _ => some "tuple" | .lst _ => some "list" | .mu _ => some "list"
  | _ => none
def gIsi (ds : List D) (A : Sl) : Option D := match ds with
  | [d, .ty n] => match tyN (see A d) with
    | some m => (kitB m n).map .bl
    | none => none
  | _ => none
theorem tyN_al {A : Sl} {d : D} {n : String} (h : tyN (see A d) = some n) : ∀ j, see A d ≠ .al j := fun j e => by rw [e] at h; cases h
theorem R.tyOf {K : Fw} {G H : Hp} {v : V} {d : D} {L : List Addr} {n : String} (g : Same G H) (r : R K G H v d L) (h : tyN d = some n) : TyOf K H v (.type n) := by
  cases r <;> simp only [tyN] at h <;> cases h
  · exact .non
  · exact .bl _
  · exact .int _
  · exact .str _
  · rename_i q _; exact .tup (g _ _ q)
  · rename_i q _; exact .lst (g _ _ q)
  · rename_i e _ _; exact .lst e
theorem cd_isi : CallD z (rIsi z.K) gIsi := by
  intro σ A ts H vs ds d' hl h hg Q q
  unfold gIsi at hg
  split at hg
  · rename_i d n
    obtain ⟨v, u, rfl⟩ := call2 hl rfl
    have h : z.A σ A ((v, d) :: (u, .ty n) :: ts) H := h
    split at hg
    · rename_i m hm
      cases hk : kitB m n with
      | none => rw [hk] at hg; cases hg
      | some b =>
        rw [hk] at hg
        cases hg
        obtain ⟨G, L, gh, r, f⟩ := h.open (tyN_al hm)
        obtain ⟨G2, L2', gh2, r2, f2⟩ := h.drop.open (fun j z => by cases z)
        cases r2
        exact ⟨v, _, _, _, b, rfl, .ty n, .base (r.tyOf gh hm), kit_ty hk, q _ _ (f2.known gh2 (.bl _))⟩
    · cases hg
  · cases hg

/-! ### what a def does: by a plain function of told values -/
inductive Ro where
  | ok (d : D) | exc (c : Str) | stuck
/-- the promise: known arguments ds, the outcome F ds; what comes is new where it is not known -/
def spF (K : Fw) (cl : Str → Value) (n : Nat) (F : List D → Ro) : Sp := fun vs H Q E => ∃ G ds, Same G H ∧ ds.length = n ∧ Rs K G G vs ds [] ∧ match F ds with
  | .ok r => ∀ v H' G' L, Same H H' → Same G G' → Same G' H' → (∀ a, H a ≠ none → G a = none → G' a = none) → R K G' H' v r L → L.Nodup → (∀ a ∈ L, H a = none) → Q v H'
  | .exc c => ∀ H', Same H H' → E (cl c) none H'
  | .stuck => False
/-- all aliases and all that is owned frozen -/
def isScal : D → Bool
  | .non => true | .bl _ => true | .int _ => true | .str _ => true
  | _ => false
/-- .. but where the answer is a scalar, slots keep what they own -/
def fCall (F : List D → Ro) (fa : FA) : FE := fun A => (fa A).bind fun ds A1 => match closeL ds A1 with
  | some (es, A2) => match F (fzs es) with
    | .ok r => if isScal r = true then .ok r A1 else .ok r A2
    | .exc c => .exc c A1
    | .stuck => .stuck
  | none => .stuck
theorem R.scal {K : Fw} {G H : Hp} {v : V} {d : D} {L : List Addr} (r : R K G H v d L) (h : isScal d = true) : ∀ G' H', R K G' H' v d [] := by
  cases r <;> first | exact fun _ _ => .non | exact fun _ _ => .bl _ | exact fun _ _ => .int _ | exact fun _ _ => .str _ | (simp [isScal] at h)
theorem Rs.unown {K : Fw} {G H H' : Hp} {vs : List V} {ds : List D} (r : Rs K G H vs ds []) : Rs K G H' vs ds [] := r.free fun _ _ e => e
theorem fzs_length (ds : List D) : (fzs ds).length = ds.length := by rw [fzs_map, List.length_map]
/-- the arguments of a call, all frozen: what they are and how one goes on -/
theorem Abs.args {K : Fw} {B : Bs} {σ : L2.St} {A : Sl} {ts : Ts} {H : Hp} {vs : List V} {es : List D} (hl : vs.length = es.length) (hn : noAl es = true) (h : Abs K B σ A (vs.zip es ++ ts) H) :
    ∃ G, Same G H ∧ Rs K G H vs (fzs es) [] ∧ Fin K B σ A ts H G ∧ Abs K B σ A ts H := by
  obtain ⟨G, L1, L2, gd, tm, sl, nd, ow⟩ := h
  obtain ⟨La, Lb, rs, t, rfl⟩ := tm.split hl hn
  have oa : ∀ a ∈ La, G a = none ∧ H a ≠ none := rs.own
  have g1 : Same G (grab G H La) := grab_same fun a ha => (oa a ha).1
  have ap : ∀ a ∈ Lb ++ L2, a ∉ La := fun a ha hb => by
    rw [List.append_assoc] at nd
    exact (List.nodup_append.mp nd).2.2 a hb a ha rfl
  have gd' := gd.grab oa fun a ha => ow a (List.mem_append_left _ (List.mem_append_left _ ha))
  have t' : Tms K σ (grab G H La) H ts Lb := t.mono g1 fun a ha => ⟨rfl, grab_keep (ap a (List.mem_append_left _ ha)) (t.own a ha).1⟩
  have s' : Sls K (grab G H La) H σ A L2 := sl.mono g1 fun a ha => ⟨rfl, grab_keep (ap a (List.mem_append_right _ ha)) (sl.own a ha).1⟩
  have nd' : (Lb ++ L2).Nodup := by rw [List.append_assoc] at nd; exact (List.nodup_append.mp nd).2.1
  have ow' : ∀ a ∈ Lb ++ L2, Own B a := fun a ha => ow a (by rw [List.append_assoc]; exact List.mem_append_right _ ha)
  exact ⟨grab G H La, gd'.gh, Rs.fzs g1 rs fun a ha => grab_in ha, fun w e H' G' L' he g1 g2 g3 r rn rf => step_core gd' t' s' nd' ow' he g1 g2 g3 r rn rf, grab G H La, Lb, L2, gd', t', s', nd', ow'⟩
/-- the reading of a call, for a wish about exceptions W -/
theorem call_go {n : Nat} {F : List D → Ro} {fa : FA} (hlen : ∀ ds, F ds ≠ .stuck → ds.length = n) {σ : L2.St} {H : Hp} {Q : VK} (h : tE z (fCall F fa) σ H Q) : tCallS (spF z.K z.cl n F) (WE z.W) (tA z fa) σ H Q := by
  obtain ⟨A, ts, hA, hp⟩ := h
  refine ⟨A, ts, hA, ?_⟩
  unfold fCall at hp
  cases ea : fa A with
  | stuck => rw [ea] at hp; exact hp.elim
  | exc c A1 => rw [ea] at hp; exact hp
  | ok ds A1 =>
    rw [ea] at hp
    simp only [Ou.bind_ok] at hp
    intro vs H1 hl h1
    split at hp
    · rename_i es A2 ec
      obtain ⟨h2, l2, n2⟩ := h1.close hl ec
      obtain ⟨G, gh, rs, f, ab⟩ := h2.args l2 n2
      cases eF : F (fzs es) with
      | stuck => rw [eF] at hp; exact hp.elim
      | exc c =>
        rw [eF] at hp
        refine ⟨G, fzs es, gh, hlen _ (by rw [eF]; exact fun z => nomatch z), rs.unown, ?_⟩
        rw [eF]
        exact fun H' he => hp H' (h1.dropn.same he)
      | ok r =>
        rw [eF] at hp
        refine ⟨G, fzs es, gh, hlen _ (by rw [eF]; exact fun z => nomatch z), rs.unown, ?_⟩
        rw [eF]
        intro v H' G' L he g1 g2 g3 rr rn rf
        simp only at hp
        split at hp
        · rename_i hs
          exact hp v H' ((h1.dropn.same he).scal fun G2 => rr.scal hs G2 H')
        · exact hp v H' (f v r H' G' L he g1 g2 g3 rr rn rf)
    · exact hp.elim
theorem qe_call {k n : Nat} {f : Addr} {fd : FuncData} {ps : List Str} {F : List D → Ro} {fa : FA} {x : Str} {e : Expr} {es : List Expr} {p pos : Pos} (hlen : ∀ ds, F ds ≠ .stuck → ds.length = n) (hK : X.K = z.K) (tk : Takes X z.W)
    (Fk : FnOk X.prog X.w X.K X.mg X.base (L2.CX X.prog X.w) k f fd ps (spF z.K z.cl n F)) (hr : Room k X.A) (hg : Gl X x) (hm : X.mg x = some (.ref f)) (hk : PySem.W.keepIn X.K (.ref f) = true) (hb : L2.Binds X.K fd ps [])
    (ha : PA X (e :: es) (tA z fa)) (hdb : (x == ("__debug__" : Str)) = false := by decide) (he : starEach (e :: es) X.env = (false, eval e X.env) :: starEach es X.env := by rfl) (hpl : (backTo pos (starEach es X.env)).any (·.1) = false := by rfl) :
    PE X (.Call (.Name x p) (e :: es) [] pos) (tE z (fCall F fa)) :=
  PE.imp (pe_callS Fk hr hg hm hk hb (fun σ => passAt tk σ) ha hdb he hpl) fun σ H Q h => call_go hlen h
end
end Ab
end
section
namespace Ab
open PySem PySem.Spec PyProof.Rows L2

/-! ### tests -/
def fB (f : FE) : FT := fun A => (f A).bind fun d A1 => match d with
  | .bl b => .ok b A1
  | _ => .stuck
def fAnd (f g : FT) : FT := fun A => (f A).bind fun b A1 => if b = true then g A1 else .ok false A1
def fOr (f g : FT) : FT := fun A => (f A).bind fun b A1 => if b = true then .ok true A1 else g A1
def fNot (f : FT) : FT := fun A => (f A).bind fun b A1 => .ok (!b) A1
def fAndV (f g : FE) : FE := fun A => (f A).bind fun d A1 => match d with
  | .bl b => if b = true then g A1 else .ok (.bl false) A1
  | _ => .stuck
def fOrV (f g : FE) : FE := fun A => (f A).bind fun d A1 => match d with
  | .bl b => if b = true then .ok (.bl true) A1 else g A1
  | _ => .stuck
def fNotV (f : FE) : FE := fun A => (f A).bind fun d A1 => match d with
  | .bl b => .ok (.bl (!b)) A1
  | _ => .stuck
section
variable {z : Z} {X : Cx} {a b : Expr} {rest : List Expr} {pos : Pos} {fa fb : FE} {ga gb : FT}
theorem b_go {σ : L2.St} {H : Hp} {Q : Bool → Hp → Prop} (h : tT z (fB fa) σ H Q) : tB (tE z fa) σ H Q := by
  obtain ⟨A, ts, hA, hp⟩ := h
  refine ⟨A, ts, hA, ?_⟩
  unfold fB at hp
  cases ea : fa A with
  | stuck => rw [ea] at hp; exact hp.elim
  | exc c A1 => rw [ea] at hp; exact hp
  | ok d A1 =>
    rw [ea] at hp
    simp only [Ou.bind_ok] at hp
    intro v H1 h1
    cases d <;> first | exact hp.elim | exact ⟨_, h1.bl, hp _ h1.drop⟩
theorem qt_val (h : PE X a (tE z fa)) (he : ∀ whole, isTrue a X.env whole = (do let v ← whole; standAt a.pos; holding [v] (truthy v)) := by intro _; rfl) : PT X a (tT z (fB fa)) := PT.imp (pt_val h he) fun _ _ _ h => b_go h
/-- a comparison as a test -/
theorem qt_cmp {op : CmpOp} {r : R2} {g : D → D → Sl → Option D} (ho : OpR X (compareOp op) r) (hd : OpD z r g) (ha : PE X a (tE z fa)) (hb : PE X b (tE z fb)) (hm : behindInMarks op b = false) : PT X (.Compare a [op] [b] pos) (tT z (fB (fBin g fa fb))) := by
  refine PT.imp (pt_cmpR ho ha hb hm) fun σ H Q h => ?_
  have h2 := b_go h
  exact bin_go (Q := fun x H' => ∃ k, x = .bl k ∧ Q k H') hd (show tE z (fBin g fa fb) σ H fun x H' => ∃ k, x = .bl k ∧ Q k H' from h2)
theorem qt_not (h : PT X a (tT z ga)) : PT X (.UnaryOp .Not a pos) (tT z (fNot ga)) := PT.imp (pt_not h) fun σ H Q ⟨A, ts, hA, hp⟩ => ⟨A, ts, hA, by
  unfold fNot at hp
  cases ea : ga A with
  | stuck => rw [ea] at hp; exact hp.elim
  | exc c A1 => rw [ea] at hp; exact hp
  | ok d A1 => rw [ea] at hp; exact hp⟩
theorem and_go {σ : L2.St} {H : Hp} {Q : Bool → Hp → Prop} (h : tT z (fAnd ga gb) σ H Q) : tAnd (tT z ga) (tT z gb) σ H Q := by
  obtain ⟨A, ts, hA, hp⟩ := h
  refine ⟨A, ts, hA, ?_⟩
  unfold fAnd at hp
  cases ea : ga A with
  | stuck => rw [ea] at hp; exact hp.elim
  | exc c A1 => rw [ea] at hp; exact hp
  | ok d A1 =>
    rw [ea] at hp
    intro H1 h1
    cases d with
    | true => exact ⟨A1, ts, h1, hp⟩
    | false => exact hp _ h1
theorem or_go {σ : L2.St} {H : Hp} {Q : Bool → Hp → Prop} (h : tT z (fOr ga gb) σ H Q) : tOr (tT z ga) (tT z gb) σ H Q := by
  obtain ⟨A, ts, hA, hp⟩ := h
  refine ⟨A, ts, hA, ?_⟩
  unfold fOr at hp
  cases ea : ga A with
  | stuck => rw [ea] at hp; exact hp.elim
  | exc c A1 => rw [ea] at hp; exact hp
  | ok d A1 =>
    rw [ea] at hp
    intro H1 h1
    cases d with
    | true => exact hp _ h1
    | false => exact ⟨A1, ts, h1, hp⟩
theorem PW.imp {e : Expr} {t t' : TT} (h : PW X e t) (hi : ∀ σ H Q, t' σ H Q → t σ H Q) : PW X e t' := ⟨fun wh pins s σ H Q I w => h.run wh pins s σ H Q I (hi σ H Q w)⟩
theorem qw_and1 (h : PT X a (tT z ga)) : PW X (.BoolOp .And [a] pos) (tT z ga) := pw_and1 h
theorem qw_or1 (h : PT X a (tT z ga)) : PW X (.BoolOp .Or [a] pos) (tT z ga) := pw_or1 h
theorem qw_and (h : PT X a (tT z ga)) (hb : PW X (.BoolOp .And (b :: rest) pos) (tT z gb)) : PW X (.BoolOp .And (a :: b :: rest) pos) (tT z (fAnd ga gb)) := PW.imp (pw_and h hb) fun _ _ _ h => and_go h
theorem qw_or (h : PT X a (tT z ga)) (hb : PW X (.BoolOp .Or (b :: rest) pos) (tT z gb)) : PW X (.BoolOp .Or (a :: b :: rest) pos) (tT z (fOr ga gb)) := PW.imp (pw_or h hb) fun _ _ _ h => or_go h
theorem qe_one {op} (h : PE X a (tE z fa)) : PE X (.BoolOp op [a] pos) (tE z fa) := pe_one h
theorem qe_and (h : PE X a (tE z fa)) (hb : PE X (.BoolOp .And (b :: rest) pos) (tE z fb)) : PE X (.BoolOp .And (a :: b :: rest) pos) (tE z (fAndV fa fb)) := PE.imp (pe_and h hb) fun σ H Q ⟨A, ts, hA, hp⟩ => ⟨A, ts, hA, by
  unfold fAndV at hp
  cases ea : fa A with
  | stuck => rw [ea] at hp; exact hp.elim
  | exc c A1 => rw [ea] at hp; exact hp
  | ok d A1 =>
    rw [ea] at hp
    simp only [Ou.bind_ok] at hp
    intro v H1 h1
    cases d <;> try exact hp.elim
    rename_i b
    refine ⟨b, h1.bl, ?_⟩
    cases b with
    | true => exact ⟨A1, ts, h1.drop, hp⟩
    | false => exact hp _ _ (h1.drop.pbl _)⟩
theorem qe_or (h : PE X a (tE z fa)) (hb : PE X (.BoolOp .Or (b :: rest) pos) (tE z fb)) : PE X (.BoolOp .Or (a :: b :: rest) pos) (tE z (fOrV fa fb)) := PE.imp (pe_or h hb) fun σ H Q ⟨A, ts, hA, hp⟩ => ⟨A, ts, hA, by
  unfold fOrV at hp
  cases ea : fa A with
  | stuck => rw [ea] at hp; exact hp.elim
  | exc c A1 => rw [ea] at hp; exact hp
  | ok d A1 =>
    rw [ea] at hp
    simp only [Ou.bind_ok] at hp
    intro v H1 h1
    cases d <;> try exact hp.elim
    rename_i b
    refine ⟨b, h1.bl, ?_⟩
    cases b with
    | true => exact hp _ _ (h1.drop.pbl _)
    | false => exact ⟨A1, ts, h1.drop, hp⟩⟩
theorem qe_not (h : PE X a (tE z fa)) : PE X (.UnaryOp .Not a pos) (tE z (fNotV fa)) := PE.imp (pe_not h) fun σ H Q ⟨A, ts, hA, hp⟩ => ⟨A, ts, hA, by
  unfold fNotV at hp
  cases ea : fa A with
  | stuck => rw [ea] at hp; exact hp.elim
  | exc c A1 => rw [ea] at hp; exact hp
  | ok d A1 =>
    rw [ea] at hp
    simp only [Ou.bind_ok] at hp
    intro v H1 h1
    cases d <;> try exact hp.elim
    exact ⟨_, h1.bl, hp _ _ (h1.drop.pbl _)⟩⟩
end

/-! ### statements -/
def pS (z : Z) (o : Ou Fl) (D : Ends) (ts : Ts) : Prop := match o with
  | .ok .next A' => ∀ σ' H', z.A σ' A' ts H' → D.nx σ' H'
  | .ok .brk A' => ∀ σ' H', z.A σ' A' ts H' → D.bk σ' H'
  | .ok .cont A' => ∀ σ' H', z.A σ' A' ts H' → D.ct σ' H'
  | .ok (.ret d) A' => ∀ v σ' H', z.A σ' A' ((v, d) :: ts) H' → D.rt v H'
  | .exc c A' => ∀ σ' H', z.A σ' A' ts H' → z.W (z.cl c) none σ' H'
  | .stuck => False
def tS (z : Z) (f : FS) : TS := fun D σ H => ∃ A ts, z.A σ A ts H ∧ Cl ts ∧ pS z (f A) D ts
def fSeq (f g : FS) : FS := fun A => (f A).bind fun r A1 => match r with
  | .next => g A1
  | r => .ok r A1
def fNext : FS := fun A => .ok .next A
def fBrk : FS := fun A => .ok .brk A
def fCont : FS := fun A => .ok .cont A
def fIf (c : FT) (f g : FS) : FS := fun A => (c A).bind fun b A1 => if b = true then f A1 else g A1
def fDrop (f : FE) : FS := fun A => (f A).bind fun _ A1 => .ok .next A1
/-- a value for a slot: an alias is frozen -/
def closeD (d : D) (A : Sl) : Option (D × Sl) := match d with
  | .al i => match A[i]? with
    | some (some t) => some (fz t, A.set i (some (fz t)))
    | _ => none
  | d => some (d, A)
def fAsg (i : Nat) (f : FE) : FS := fun A => (f A).bind fun d A1 => match closeD d A1 with
  | some (e, A2) => .ok .next (A2.set i (some e))
  | none => .stuck
/-- .. and what comes new is frozen at once -/
def fAsgF (i : Nat) (f : FE) : FS := fun A => (f A).bind fun d A1 => match closeD d A1 with
  | some (e, A2) => .ok .next (A2.set i (some (fz e)))
  | none => .stuck
/-- x = y, y's own handed over -/
def fAsgM (i : Nat) (f : FE) : FS := fun A => (f A).bind fun d A1 => match d with
  | .al j => match A1[j]? with
    | some (some t) => .ok .next ((A1.set j none).set i (some t))
    | _ => .stuck
  | d => .ok .next (A1.set i (some d))
def fRet (f : FE) : FS := fun A => (f A).bind fun d A1 => match d with
  | .al i => match A1[i]? with
    | some (some t) => .ok (.ret t) (A1.set i none)
    | _ => .stuck
  | d => .ok (.ret d) A1
def fRetN : FS := fun A => .ok (.ret .non) A
section
variable {z : Z} {X : Cx} {st : Stmt} {rest : List Stmt} {e : Expr} {pos : Pos} {f g : FS} {fe : FE} {ft : FT}
theorem pS_stuck {D : Ends} {ts : Ts} (h : pS z .stuck D ts) : False := h
theorem qs_nil : PSs X [] (tS z fNext) := PSs.imp pss_nil fun D σ H ⟨A, ts, hA, c, hp⟩ => hp _ _ hA
theorem qs_cons (h1 : PS X st (tS z f)) (h2 : PSs X rest (tS z g)) : PSs X (st :: rest) (tS z (fSeq f g)) := by
  refine PSs.imp (pss_cons h1 h2) fun D σ H ⟨A, ts, hA, c, hp⟩ => ⟨A, ts, hA, c, ?_⟩
  unfold fSeq at hp
  cases ea : f A with
  | stuck => rw [ea] at hp; exact (pS_stuck hp).elim
  | exc c A1 => rw [ea] at hp; exact hp
  | ok r A1 =>
    rw [ea] at hp
    simp only [Ou.bind_ok] at hp
    cases r with
    | next => exact fun σ' H' h' => ⟨A1, ts, h', c, hp⟩
    | brk => exact hp
    | cont => exact hp
    | ret d => exact hp
theorem qs_one (h1 : PS X st (tS z f)) : PSs X [st] (tS z f) := pss_one h1
theorem qs_pass : PS X (.Pass pos) (tS z fNext) := PS.imp ps_pass fun D σ H ⟨A, ts, hA, c, hp⟩ => hp _ _ hA
theorem qs_brk : PS X (.Break pos) (tS z fBrk) := PS.imp ps_break fun D σ H ⟨A, ts, hA, c, hp⟩ => hp _ _ hA
theorem qs_cont : PS X (.Continue pos) (tS z fCont) := PS.imp ps_continue fun D σ H ⟨A, ts, hA, c, hp⟩ => hp _ _ hA
theorem qs_doc {x j pos pos'} : PS X (.Expr (.Constant (.str x) j pos) pos') (tS z fNext) := PS.imp ps_doc fun D σ H ⟨A, ts, hA, c, hp⟩ => hp _ _ hA
theorem qs_if {c : Expr} {a b : List Stmt} (hc : PT X c (tT z ft)) (ha : PSs X a (tS z f)) (hb : PSs X b (tS z g)) : PS X (.If c a b pos) (tS z (fIf ft f g)) := by
  refine PS.imp (ps_if hc ha hb) fun D σ H ⟨A, ts, hA, cl, hp⟩ => ⟨A, ts, hA, ?_⟩
  unfold fIf at hp
  cases ea : ft A with
  | stuck => rw [ea] at hp; exact (pS_stuck hp).elim
  | exc c A1 => rw [ea] at hp; exact fun H' h' => hp σ H' h'
  | ok b A1 =>
    rw [ea] at hp
    simp only [Ou.bind_ok] at hp
    intro H1 h1
    cases b with
    | true => exact ⟨A1, ts, h1, cl, hp⟩
    | false => exact ⟨A1, ts, h1, cl, hp⟩
theorem qs_expr (he : PE X e (tE z fe)) (hs : swapsWith e none pos.line X.env = pure false := by rfl) : PS X (.Expr e pos) (tS z (fDrop fe)) := by
  refine PS.imp (ps_expr he hs) fun D σ H ⟨A, ts, hA, c, hp⟩ => ⟨A, ts, hA, ?_⟩
  unfold fDrop at hp
  cases ea : fe A with
  | stuck => rw [ea] at hp; exact (pS_stuck hp).elim
  | exc c A1 => rw [ea] at hp; exact fun H' h' => hp σ H' h'
  | ok d A1 => rw [ea] at hp; exact fun v H' h' => hp σ H' h'.drop
theorem Abs.closeD {K : Fw} {B : Bs} {σ : L2.St} {A A' : Sl} {ts : Ts} {H : Hp} {v : V} {d d' : D} (h : Abs K B σ A ((v, d) :: ts) H) (hc : Ab.closeD d A = some (d', A')) : Abs K B σ A' ((v, d') :: ts) H ∧ ∀ i, d' ≠ .al i := by
  unfold Ab.closeD at hc
  split at hc
  · split at hc
    · rename_i et
      cases hc
      exact ⟨h.frz et, fz_al _ (h.slot_al et)⟩
    · cases hc
  · rename_i hna
    cases hc
    exact ⟨h, fun i q => hna i q⟩
theorem asg_go {i : Nat} {D : Ends} {σ : L2.St} {H : Hp} (h : tS z (fAsg i fe) D σ H) : tAsg (tE z fe) (gName i) D σ H := by
  obtain ⟨A, ts, hA, c, hp⟩ := h
  refine ⟨A, ts, hA, ?_⟩
  unfold fAsg at hp
  cases ea : fe A with
  | stuck => rw [ea] at hp; exact (pS_stuck hp).elim
  | exc c A1 => rw [ea] at hp; exact fun H' h' => hp σ H' h'
  | ok d A1 =>
    rw [ea] at hp
    simp only [Ou.bind_ok] at hp
    intro v H1 h1
    split at hp
    · rename_i e A2 ec
      obtain ⟨h2, n2⟩ := h1.closeD ec
      exact hp _ _ (h2.set n2 c)
    · exact (pS_stuck hp).elim
theorem asgF_go {i : Nat} {D : Ends} {σ : L2.St} {H : Hp} (h : tS z (fAsgF i fe) D σ H) : tAsg (tE z fe) (gName i) D σ H := by
  obtain ⟨A, ts, hA, c, hp⟩ := h
  refine ⟨A, ts, hA, ?_⟩
  unfold fAsgF at hp
  cases ea : fe A with
  | stuck => rw [ea] at hp; exact (pS_stuck hp).elim
  | exc c A1 => rw [ea] at hp; exact fun H' h' => hp σ H' h'
  | ok d A1 =>
    rw [ea] at hp
    simp only [Ou.bind_ok] at hp
    intro v H1 h1
    split at hp
    · rename_i e A2 ec
      obtain ⟨h2, n2⟩ := h1.closeD ec
      exact hp _ _ ((h2.fz n2).set (fz_al _ n2) c)
    · exact (pS_stuck hp).elim
theorem asgM_go {i : Nat} {D : Ends} {σ : L2.St} {H : Hp} (h : tS z (fAsgM i fe) D σ H) : tAsg (tE z fe) (gName i) D σ H := by
  obtain ⟨A, ts, hA, c, hp⟩ := h
  refine ⟨A, ts, hA, ?_⟩
  unfold fAsgM at hp
  cases ea : fe A with
  | stuck => rw [ea] at hp; exact (pS_stuck hp).elim
  | exc c A1 => rw [ea] at hp; exact fun H' h' => hp σ H' h'
  | ok d A1 =>
    rw [ea] at hp
    simp only [Ou.bind_ok] at hp
    intro v H1 h1
    split at hp
    · split at hp
      · rename_i et
        exact hp _ _ ((h1.move et).set (h1.slot_al et) c)
      · exact (pS_stuck hp).elim
    · rename_i hna
      exact hp _ _ (h1.set (fun j q => hna j q) c)
theorem qs_setM {i : Nat} {x : Str} {pos' : Pos} (hN : X.N.Nodup) (hi : X.N[i]? = some x) (hx : Loc X.env.scope x) (he : PE X e (tE z fe)) (hs : swapsWith e (some (.Name x pos')) pos.line X.env = pure false := by rfl) (hf : X.fn x = true ∨ X.env.scope.names.lookup x = some .local := by first | exact .inl rfl | exact .inr rfl | assumption) :
    PS X (.Assign [.Name x pos'] e pos) (tS z (fAsgM i fe)) := PS.imp (ps_set hN hi hx he hs hf) fun _ _ _ h => asgM_go h
theorem qs_set {i : Nat} {x : Str} {pos' : Pos} (hN : X.N.Nodup) (hi : X.N[i]? = some x) (hx : Loc X.env.scope x) (he : PE X e (tE z fe)) (hs : swapsWith e (some (.Name x pos')) pos.line X.env = pure false := by rfl) (hf : X.fn x = true ∨ X.env.scope.names.lookup x = some .local := by first | exact .inl rfl | exact .inr rfl | assumption) :
    PS X (.Assign [.Name x pos'] e pos) (tS z (fAsg i fe)) := PS.imp (ps_set hN hi hx he hs hf) fun _ _ _ h => asg_go h
theorem qs_setF {i : Nat} {x : Str} {pos' : Pos} (hN : X.N.Nodup) (hi : X.N[i]? = some x) (hx : Loc X.env.scope x) (he : PE X e (tE z fe)) (hs : swapsWith e (some (.Name x pos')) pos.line X.env = pure false := by rfl) (hf : X.fn x = true ∨ X.env.scope.names.lookup x = some .local := by first | exact .inl rfl | exact .inr rfl | assumption) :
    PS X (.Assign [.Name x pos'] e pos) (tS z (fAsgF i fe)) := PS.imp (ps_set hN hi hx he hs hf) fun _ _ _ h => asgF_go h
theorem qs_ret (he : PE X e (tE z fe)) : PS X (.Return (some e) pos) (tS z (fRet fe)) := by
  refine PS.imp (ps_ret he) fun D σ H ⟨A, ts, hA, c, hp⟩ => ⟨A, ts, hA, ?_⟩
  unfold fRet at hp
  cases ea : fe A with
  | stuck => rw [ea] at hp; exact (pS_stuck hp).elim
  | exc c A1 => rw [ea] at hp; exact fun H' h' => hp σ H' h'
  | ok d A1 =>
    rw [ea] at hp
    simp only [Ou.bind_ok] at hp
    intro v H1 h1
    split at hp
    · split at hp
      · rename_i et
        exact hp _ _ _ (h1.move et)
      · exact (pS_stuck hp).elim
    · exact hp _ _ _ h1
theorem qs_retN : PS X (.Return none pos) (tS z fRetN) := PS.imp ps_retN fun D σ H ⟨A, ts, hA, c, hp⟩ => hp _ _ _ hA.pnon
end

/-! ### targets -/
inductive Tg where
  | nm (i : Nat) | tu (is : List Nat)
def gNames : List Nat → TGs
  | [] => gNil
  | i :: r => gCons (gName i) (gNames r)
def Tg.read (K : PySem.W.Frag) : Tg → TG
  | .nm i => gName i
  | .tu is => gTup K is.length (gNames is)
def Tg.own : Tg → List Nat
  | .nm i => [i]
  | .tu is => is
def setAll : List Nat → List D → Sl → Option Sl
  | [], [], A => some A
  | i :: is, d :: ds, A => setAll is ds (A.set i (some d))
  | _, _, _ => none
def Tg.set : Tg → D → Sl → Option Sl
  | .nm i, d, A => match d with
    | .al _ => none
    | d => some (A.set i (some d))
  | .tu is, .tup ds, A => if isFs ds = true then setAll is ds A else none
  | .tu _, _, _ => none
/-- what a target stores: the slots outside stay -/
def SameOff (own : List Nat) (σ σ' : L2.St) : Prop := σ'.length = σ.length ∧ ∀ i, i ∉ own → σ'[i]? = σ[i]?
theorem SameOff.refl {own : List Nat} {σ : L2.St} : SameOff own σ σ := ⟨rfl, fun _ _ => rfl⟩
theorem SameOff.set {own : List Nat} {σ σ' : L2.St} {i : Nat} {o : Option V} (h : SameOff own σ σ') (hi : i ∈ own) : SameOff own σ (σ'.set i o) :=
  ⟨by simp [h.1], fun j hj => by
    have ne : i ≠ j := fun e => hj (by rw [← e]; exact hi)
    rw [List.getElem?_set_ne ne]; exact h.2 j hj⟩
section
variable {z : Z} {X : Cx}
theorem names_go : ∀ {is : List Nat} {ds : List D} {vs : List V} {A A' : Sl} {ts : Ts} {H : Hp} {σ : L2.St} {Q : L2.St → Hp → Prop}, vs.length = ds.length → isFs ds = true → z.A σ A (vs.zip ds ++ ts) H → Cl ts → setAll is ds A = some A' →
    (∀ σ', z.A σ' A' ts H → SameOff is σ σ' → Q σ' H) → gNames is vs σ H Q
  | [], [], vs, A, A', ts, H, σ, Q, hl, hf, h, c, hs, q => by
    have e : vs = [] := by simpa using hl
    subst e
    simp only [setAll] at hs
    cases hs
    exact ⟨rfl, q σ h .refl⟩
  | i :: is, d :: ds, v :: vs, A, A', ts, H, σ, Q, hl, hf, h, c, hs, q => by
    simp only [setAll] at hs
    rw [isFs, Bool.and_eq_true] at hf
    have nd : ∀ j, d ≠ .al j := fun j e => by rw [e] at hf; simp [isF] at hf
    refine ⟨v, vs, rfl, ?_⟩
    have cl : Cl (vs.zip ds ++ ts) := fun p hp => by
      rcases List.mem_append.mp hp with m | m
      · intro j e
        have := List.of_mem_zip m
        have fs := isFs_noAl hf.2
        unfold noAl at fs
        have := List.all_eq_true.mp fs _ this.2
        rw [e] at this
        exact nomatch this
      · exact c p m
    have h1 := Abs.set (i := i) (d := d) (v := v) (ts := vs.zip ds ++ ts) h nd cl
    refine names_go (by simpa using hl) hf.2 h1 c hs fun σ' h' so => q σ' h' ?_
    refine ⟨so.1.trans (by simp), fun j hj => ?_⟩
    rw [so.2 j (fun m => hj (List.mem_cons_of_mem _ m)), List.getElem?_set_ne (fun e : i = j => hj (by rw [← e]; exact List.mem_cons_self))]
  | _ :: _, [], _, _, _, _, _, _, _, _, _, _, _, hs, _ => by simp [setAll] at hs
  | [], _ :: _, _, _, _, _, _, _, _, _, _, _, _, hs, _ => by simp [setAll] at hs
  | _ :: _, _ :: _, [], _, _, _, _, _, _, hl, _, _, _, _, _ => by simp at hl
theorem tg_go {t : Tg} {d : D} {v : V} {A A' : Sl} {ts : Ts} {H : Hp} {σ : L2.St} {Q : L2.St → Hp → Prop} (h : z.A σ A ((v, d) :: ts) H) (c : Cl ts) (hs : t.set d A = some A') (q : ∀ σ', z.A σ' A' ts H → SameOff t.own σ σ' → Q σ' H) : t.read z.K v σ H Q := by
  cases t with
  | nm i =>
    have nd : ∀ j, d ≠ .al j := fun j e => by rw [e] at hs; simp [Tg.set] at hs
    have e : A' = A.set i (some d) := by
      unfold Tg.set at hs
      cases d <;> first | exact (Option.some.inj hs).symm | exact nomatch hs
    subst e
    exact q _ (h.set nd c) (SameOff.refl.set (by simp [Tg.own]))
  | tu is =>
    cases d <;> simp only [Tg.set] at hs <;> try cases hs
    rename_i ds
    split at hs
    · rename_i hf
      obtain ⟨G, L1, L2, gd, tm, sl, nd, ow⟩ := id h
      cases tm with
      | cons r t =>
        rename_i La Lb
        cases r with
        | tup q1 s1 =>
          rename_i a xs
          have e1 := s1.isFs hf
          subst e1
          have hlen : ∀ {is : List Nat} {ds : List D} {A A' : Sl}, setAll is ds A = some A' → is.length = ds.length := by
            intro is
            induction is with
            | nil => intro ds A A' h; cases ds <;> simp_all [setAll]
            | cons i is ih => intro ds A A' h; cases ds with
              | nil => simp [setAll] at h
              | cons d ds => simp only [setAll] at h; simp [ih h]
          refine ⟨_, xs, rfl, .inl (.inl (gd.gh _ _ q1)), by rw [s1.length]; exact (hlen hs).symm, ?_⟩
          have h2 : z.A σ A (xs.zip ds ++ ts) H := by
            have join : ∀ {vs : List V} {ds : List D}, isFs ds = true → Rs z.K G H vs ds [] → Tms z.K σ G H ts Lb → Tms z.K σ G H (vs.zip ds ++ ts) Lb := by
              intro vs
              induction vs with
              | nil => intro ds _ r t; simpa using t
              | cons v vs ih =>
                intro ds hf r t
                generalize hL : ([] : List Addr) = L0 at r
                cases r with
                | cons r rs =>
                  obtain ⟨e1, e2⟩ := List.append_eq_nil_iff.mp hL.symm
                  subst e1; subst e2
                  rw [isFs, Bool.and_eq_true] at hf
                  have := Tms.cons r (ih hf.2 rs t)
                  simpa using this
            exact ⟨G, Lb, L2, gd, join hf s1 t, sl, by simpa using nd, fun a ha => ow a (by simpa using ha)⟩
          exact names_go s1.length hf h2 c hs q
    · cases hs
theorem qg_name {i : Nat} {x : Str} {pos : Pos} (hN : X.N.Nodup) (hi : X.N[i]? = some x) (hx : Loc X.env.scope x) (hf : X.fn x = true ∨ X.env.scope.names.lookup x = some .local := by first | exact .inl rfl | exact .inr rfl | assumption) : PG X (.Name x pos) ((Tg.nm i).read X.K) := pg_name hN hi hx hf
theorem qgs_nil : PGs X [] (gNames []) := pgs_nil
theorem qgs_cons {i : Nat} {is : List Nat} {x : Str} {pos : Pos} {es : List Expr} (hN : X.N.Nodup) (hi : X.N[i]? = some x) (hx : Loc X.env.scope x) (h2 : PGs X es (gNames is)) (hf : X.fn x = true ∨ X.env.scope.names.lookup x = some .local := by first | exact .inl rfl | exact .inr rfl | assumption)
    (hs : (assignEach (.Name x pos :: es) X.env).map (·.2) = assign (.Name x pos) X.env :: (assignEach es X.env).map (·.2) := by rfl) : PGs X (.Name x pos :: es) (gNames (i :: is)) := pgs_cons (pg_name hN hi hx hf) h2 hs
theorem qg_tup {es : List Expr} {k : Nat} {pos : Pos} {is : List Nat} (hc : X.calm = true) (h : PGs X es (gNames is)) (hn : (assignEach es X.env).length = is.length := by rfl) (hst : (assignEach es X.env).findIdx? (·.1) = none := by rfl) : PG X (.Tuple es k pos) ((Tg.tu is).read X.K) := pg_tup hc h hn hst
/-- a, b = e -/
def fAsgT (t : Tg) (f : FE) : FS := fun A => (f A).bind fun d A1 => match closeD d A1 with
  | some (e, A2) => match t.set (fz e) A2 with
    | some A3 => .ok .next A3
    | none => .stuck
  | none => .stuck
theorem qs_asgT {tg e : Expr} {t : Tg} {fe : FE} {pos : Pos} (hK : X.K = z.K) (he : PE X e (tE z fe)) (hg : PG X tg (t.read X.K)) (hs : swapsWithSole [tg] e pos.line X.env = pure false := by rfl) (hw : swappedStores [tg] e X.env = pure none := by rfl)
    (h1 : (assignEach [tg] X.env).map (·.2) = [assign tg X.env] := by rfl) : PS X (.Assign [tg] e pos) (tS z (fAsgT t fe)) := by
  refine PS.imp (ps_asg he hg hs hw h1) fun D σ H ⟨A, ts, hA, c, hp⟩ => ⟨A, ts, hA, ?_⟩
  unfold fAsgT at hp
  cases ea : fe A with
  | stuck => rw [ea] at hp; exact (pS_stuck hp).elim
  | exc c A1 => rw [ea] at hp; exact fun H' h' => hp σ H' h'
  | ok d A1 =>
    rw [ea] at hp
    simp only [Ou.bind_ok] at hp
    intro v H1 h1
    split at hp
    · rename_i e A2 ec
      obtain ⟨h2, n2⟩ := h1.closeD ec
      split at hp
      · rename_i A3 es
        rw [hK]
        exact tg_go (h2.fz n2) c es fun σ' h' _ => hp _ _ h'
      · exact (pS_stuck hp).elim
    · exact (pS_stuck hp).elim
end
end Ab
end
section
namespace Ab
open PySem PySem.Spec PyProof.Rows L2

/-! ### what is walked -/
structure ItD (z : Z) (J : It) (tmp : Ts) (ds : List D) : Prop where
  go : ∀ (σ : L2.St) (A : Sl) (ts : Ts) (H : Hp) (i : Nat), z.A σ A (tmp ++ ts) H → i < ds.length → J.go i H
  yld : ∀ (σ : L2.St) (A : Sl) (ts : Ts) (H : Hp) (i : Nat) (x : V) (H' : Hp) (d : D), z.A σ A (tmp ++ ts) H → ds[i]? = some d → J.yld i H x H' → z.A σ A ((x, d) :: (tmp ++ ts)) H'
  stop : ∀ (σ : L2.St) (A : Sl) (ts : Ts) (H : Hp) (i : Nat), z.A σ A (tmp ++ ts) H → ds.length ≤ i → J.stop i H
abbrev FI := Sl → Ou (List D)
def pI (z : Z) (o : Ou (List D)) (σ : L2.St) (ts : Ts) (R : It → Hp → Prop) : Prop := match o with
  | .ok ds A' => ∀ J tmp H', Cl tmp → ItD z J tmp ds → z.A σ A' (tmp ++ ts) H' → R J H'
  | .exc c A' => ∀ H', z.A σ A' ts H' → z.W (z.cl c) none σ H'
  | .stuck => False
def tI (z : Z) (f : FI) : TI := fun σ H R => ∃ A ts, z.A σ A ts H ∧ pI z (f A) σ ts R
def iterOf : D → Option (List D)
  | .lst ds => some ds | .fro ds => some ds
  | .tup ds => if isFs ds = true then some ds else none
  | .str x => some (x.cps.toList.map fun c => .str ⟨#[c]⟩)
  | _ => none
/-- the items of a value: it is frozen -/
def fIt (fe : FE) : FI := fun A => (fe A).bind fun d A1 => match closeD d A1 with
  | some (e, A2) => match iterOf (fz e) with
    | some ds => .ok ds A2
    | none => .stuck
  | none => .stuck
section
variable {z : Z} {X : Cx}
theorem itd_list {a : Addr} {d : D} {ds : List D} (hd : d = .lst ds ∨ d = .fro ds) : ItD z (Itl z.K a) [(.ref a, d)] ds := by
  have key : ∀ (σ : L2.St) (A : Sl) (ts : Ts) (H : Hp), z.A σ A ([(.ref a, d)] ++ ts) H → ∃ G xs, Same G H ∧ SqL z.K H a xs ∧ Rs z.K G H xs ds [] ∧ Fin z.K z.B σ A ([(.ref a, d)] ++ ts) H G := by
    intro σ A ts H h
    obtain ⟨G, L1, L2, gd, tm, sl, nd, ow⟩ := id h
    refine ⟨G, ?_⟩
    have f : Fin z.K z.B σ A ([(.ref a, d)] ++ ts) H G := fun w e H' G' L' he g1 g2 g3 r rn rf => step_core gd tm sl nd ow he g1 g2 g3 r rn rf
    cases tm with
    | cons r t =>
      rcases hd with rfl | rfl
      · cases r with | lst q rs => exact ⟨_, gd.gh, .inl (.inl (gd.gh _ _ q)), rs, f⟩
      · cases r with | fro q rs => exact ⟨_, gd.gh, sq_l gd.gh q, rs, f⟩
    | al e t => rcases hd with q | q <;> cases q
  refine ⟨fun σ A ts H i h hi => ?_, fun σ A ts H i x H' e h he hy => ?_, fun σ A ts H i h hi => ?_⟩
  · obtain ⟨G, xs, gh, sq, rs, f⟩ := key σ A ts H h
    have hl : i < xs.length := by rw [rs.length]; exact hi
    exact ⟨xs, xs[i], sq, List.getElem?_eq_getElem hl⟩
  · obtain ⟨G, xs, gh, sq, rs, f⟩ := key σ A ts H h
    obtain ⟨rfl, hx⟩ := hy
    exact f.known gh (rs.nil_get (hx xs sq) he)
  · obtain ⟨G, xs, gh, sq, rs, f⟩ := key σ A ts H h
    exact ⟨xs, sq, by rw [rs.length]; exact hi⟩
theorem itd_tup {a : Addr} {ds : List D} (hf : isFs ds = true) : ItD z (Itt z.K a) [(.ref a, .tup ds)] ds := by
  have key : ∀ (σ : L2.St) (A : Sl) (ts : Ts) (H : Hp), z.A σ A ([(.ref a, .tup ds)] ++ ts) H → ∃ G xs, Same G H ∧ SqT z.K H a xs ∧ Rs z.K G H xs ds [] ∧ Fin z.K z.B σ A ([(.ref a, .tup ds)] ++ ts) H G := by
    intro σ A ts H h
    obtain ⟨G, L1, L2, gd, tm, sl, nd, ow⟩ := id h
    refine ⟨G, ?_⟩
    have f : Fin z.K z.B σ A ([(.ref a, .tup ds)] ++ ts) H G := fun w e H' G' L' he g1 g2 g3 r rn rf => step_core gd tm sl nd ow he g1 g2 g3 r rn rf
    cases tm with
    | cons r t =>
      cases r with
      | tup q rs =>
        have e1 := rs.isFs hf
        subst e1
        exact ⟨_, gd.gh, .inl (.inl (gd.gh _ _ q)), rs, f⟩
  refine ⟨fun σ A ts H i h hi => ?_, fun σ A ts H i x H' e h he hy => ?_, fun σ A ts H i h hi => ?_⟩
  · obtain ⟨G, xs, gh, sq, rs, f⟩ := key σ A ts H h
    have hl : i < xs.length := by rw [rs.length]; exact hi
    exact ⟨xs, xs[i], sq, List.getElem?_eq_getElem hl⟩
  · obtain ⟨G, xs, gh, sq, rs, f⟩ := key σ A ts H h
    obtain ⟨rfl, hx⟩ := hy
    exact f.known gh (rs.nil_get (hx xs sq) he)
  · obtain ⟨G, xs, gh, sq, rs, f⟩ := key σ A ts H h
    exact ⟨xs, sq, by rw [rs.length]; exact hi⟩
theorem itd_str {x : Str} : ItD z (Its x) [] (x.cps.toList.map fun c => .str ⟨#[c]⟩) := by
  refine ⟨fun σ A ts H i h hi => ?_, fun σ A ts H i v H' e h he hy => ?_, fun σ A ts H i h hi => ?_⟩
  · show i < x.cps.size
    simpa using hi
  · obtain ⟨rfl, c, hc, rfl⟩ := hy
    have e2 : e = .str ⟨#[c]⟩ := by
      rw [List.getElem?_map, Array.getElem?_toList, hc] at he
      exact (Option.some.inj he).symm
    subst e2
    exact h.pstr _
  · show x.cps.size ≤ i
    simpa using hi
theorem itd_range {lo : Int} {n : Nat} : ItD z (Itr lo n) [] ((List.range n).map fun i => .int (lo + (i : Nat))) := by
  refine ⟨fun σ A ts H i h hi => ?_, fun σ A ts H i v H' e h he hy => ?_, fun σ A ts H i h hi => ?_⟩
  · show i < n
    simpa using hi
  · obtain ⟨rfl, rfl⟩ := hy
    have hi : i < n := by
      have := (List.getElem?_eq_some_iff.mp he).1
      simpa using this
    have e2 : e = .int (lo + (i : Nat)) := by
      rw [List.getElem?_map, List.getElem?_range hi] at he
      exact (Option.some.inj he).symm
    subst e2
    exact h.pint _
  · show n ≤ i
    simpa using hi
theorem qi_it {tg l : Expr} {fe : FE} (hK : X.K = z.K) (hl : PE X l (tE z fe)) : PI X tg l (tI z (fIt fe)) := by
  refine ⟨fun pins s σ H R I w => ?_⟩
  obtain ⟨A, ts, hA, hp⟩ := w
  unfold fIt at hp
  cases ea : fe A with
  | stuck => rw [ea] at hp; exact (show False from hp).elim
  | exc c A1 =>
    rw [ea] at hp
    refine (pi_list hl).run pins s σ H R I ⟨A, ts, hA, ?_⟩
    rw [ea]; exact hp
  | ok d A1 =>
    rw [ea] at hp
    simp only [Ou.bind_ok] at hp
    split at hp
    · rename_i e A2 ec
      split at hp
      · rename_i ds ei
        have fin : ∀ v H1, z.A σ A1 ((v, d) :: ts) H1 → z.A σ A2 ((v, fz e) :: ts) H1 := fun v H1 h1 => by
          obtain ⟨h2, n2⟩ := h1.closeD ec
          exact h2.fz n2
        cases ef : fz e <;> rw [ef] at ei fin <;> simp only [iterOf] at ei <;> try cases ei
        · -- a text
          rename_i x
          refine (pi_str hl).run pins s σ H R I ⟨A, ts, hA, ?_⟩
          rw [ea]
          intro v H1 h1
          have h2 := fin v H1 h1
          exact ⟨x, h2.str, hp _ [] _ (fun _ m => nomatch m) itd_str h2.drop⟩
        · -- a tuple
          rename_i es
          split at ei
          · rename_i hf
            cases ei
            refine (pi_tup hl).run pins s σ H R I ⟨A, ts, hA, ?_⟩
            rw [ea]
            intro v H1 h1
            have h2 := fin v H1 h1
            obtain ⟨G, L, gh, r, _⟩ := h2.open (fun j q => by cases q)
            cases r with
            | tup q rs =>
              rw [hK]
              exact ⟨_, rfl, ⟨_, .inl (.inl (gh _ _ q))⟩, hp _ [(_, .tup ds)] _ (fun p m j e => by rw [List.mem_singleton.mp m] at e; cases e) (itd_tup hf) h2⟩
          · cases ei
        · -- a list
          refine (pi_list hl).run pins s σ H R I ⟨A, ts, hA, ?_⟩
          rw [ea]
          intro v H1 h1
          have h2 := fin v H1 h1
          obtain ⟨G, L, gh, r, _⟩ := h2.open (fun j q => by cases q)
          cases r with
          | lst q rs =>
            rw [hK]
            exact ⟨_, rfl, ⟨_, .inl (.inl (gh _ _ q))⟩, hp _ [(_, .lst ds)] _ (fun p m j e => by rw [List.mem_singleton.mp m] at e; cases e) (itd_list (.inl rfl)) h2⟩
        · -- the script
          refine (pi_list hl).run pins s σ H R I ⟨A, ts, hA, ?_⟩
          rw [ea]
          intro v H1 h1
          have h2 := fin v H1 h1
          obtain ⟨G, L, gh, r, _⟩ := h2.open (fun j q => by cases q)
          cases r with
          | fro q rs =>
            rw [hK]
            exact ⟨_, rfl, ⟨_, sq_l gh q⟩, hp _ [(_, .fro ds)] _ (fun p m j e => by rw [List.mem_singleton.mp m] at e; cases e) (itd_list (.inr rfl)) h2⟩
      · exact (show False from hp).elim
    · exact (show False from hp).elim
/-- range(n) -/
def fRange (fa : FE) : FI := fun A => (fa A).bind fun d A1 => match d with
  | .int n => if n.natAbs < 2 ^ 62 then .ok ((List.range n.toNat).map fun i => .int (i : Nat)) A1 else .stuck
  | _ => .stuck
theorem qi_range {tg a : Expr} {fa : FE} {p pos : Pos} (hg : Gl X "range") (hm : X.mg "range" = none) (ha : PE X a (tE z fa)) (hs : starEach [a] X.env = [(false, eval a X.env)] := by rfl) (hs2 : starEach [a] X.env = (false, eval a X.env) :: starEach [] X.env := by rfl) :
    PI X tg (.Call (.Name "range" p) [a] [] pos) (tI z (fRange fa)) := by
  refine ⟨fun pins s σ H R I w => (pi_range1 hg hm (pa_cons ha pa_nil hs2) hs).run pins s σ H R I ?_⟩
  obtain ⟨A, ts, hA, hp⟩ := w
  refine ⟨A, ts, hA, ?_⟩
  unfold fRange at hp
  cases ea : fa A with
  | stuck => rw [ea] at hp; exact (show False from hp).elim
  | exc c A1 => rw [ea] at hp; exact hp
  | ok d A1 =>
    rw [ea] at hp
    simp only [Ou.bind_ok] at hp
    intro v H1 h1
    cases d <;> try exact (show False from hp).elim
    rename_i n
    simp only at hp
    split at hp
    · rename_i hn
      refine ⟨n, by rw [h1.int], by omega, by omega, hp _ [] _ (fun _ m => nomatch m) ?_ h1.drop⟩
      have := itd_range (z := z) (lo := 0) (n := n.toNat)
      simpa using this
    · exact (show False from hp).elim

/-! ### for -/
def forL (t : Tg) (fb : FS) : List D → Sl → Ou Fl
  | [], A => .ok .next A
  | d :: ds, A => match t.set d A with
    | none => .stuck
    | some A1 => match fb A1 with
      | .ok .next A2 => forL t fb ds A2
      | .ok .cont A2 => forL t fb ds A2
      | .ok .brk A2 => .ok .next A2
      | .ok (.ret d) A2 => .ok (.ret d) A2
      | .exc c A2 => .exc c A2
      | .stuck => .stuck
def fFor (fi : FI) (t : Tg) (fb : FS) : FS := fun A => (fi A).bind fun ds A1 => forL t fb ds A1
theorem Abs.dropMid {K : Fw} {B : Bs} {σ : L2.St} {A : Sl} {tmp ts : Ts} {H : Hp} {p : V × D} (h : Abs K B σ A (p :: (tmp ++ ts)) H) : Abs K B σ A (p :: ts) H :=
  (h.perm (by simpa using (List.perm_middle (l₁ := tmp) (a := p) (l₂ := ts)).symm) : Abs K B σ A (tmp ++ p :: ts) H).dropn
theorem Cl.app {tmp ts : Ts} (c1 : Cl tmp) (c2 : Cl ts) : Cl (tmp ++ ts) := fun p hp => (List.mem_append.mp hp).elim (c1 p) (c2 p)
theorem qs_for {tg iter : Expr} {body : List Stmt} {t : Tg} {fi : FI} {fb : FS} {pos : Pos} (hp : PassesOwn (model X.prog X.w) X.A X.env X.xe) (hc : X.calm = true) (hK : X.K = z.K) (hi : PI X tg iter (tI z fi)) (hg : PG X tg (t.read X.K)) (hb : PSs X body (tS z fb))
    (hs : ∀ x, foldedSetIterable iter X.env x = pure x := by intro _; rfl) : PS X (.For tg iter body [] pos) (tS z (fFor fi t fb)) := by
  refine PS.imp (ps_for hp hc hi hg hb hs) fun D σ H ⟨A, ts, hA, c, hq⟩ => ⟨A, ts, hA, ?_⟩
  unfold fFor at hq
  cases ea : fi A with
  | stuck => rw [ea] at hq; exact (pS_stuck hq).elim
  | exc c A1 => rw [ea] at hq; exact fun H' h' => hq σ H' h'
  | ok ds A1 =>
    rw [ea] at hq
    simp only [Ou.bind_ok] at hq
    intro J tmp H1 ctmp it h1
    refine ⟨fun i m σ' H' => ∃ A', z.A σ' A' (tmp ++ ts) H' ∧ m = ds.length - i ∧ i ≤ ds.length ∧ pS z (forL t fb (ds.drop i) A') D ts, ⟨_, A1, h1, rfl, Nat.zero_le _, hq⟩, fun i m σ' H' hW => ?_⟩
    obtain ⟨A', h', rfl, hi, hpost⟩ := hW
    by_cases hlt : i < ds.length
    · refine .inr ⟨it.go σ' A' ts H' i h' hlt, fun σ2 H2 => ∃ A2, z.A σ2 A2 (tmp ++ ts) H2 ∧ pS z (forL t fb (ds.drop (i + 1)) A2) D ts, fun σ2 H2 ⟨A2, h2, q2⟩ => ⟨ds.length - (i + 1), by omega, A2, h2, rfl, hlt, q2⟩, fun x H2 hy => ?_⟩
      have hget : ds[i]? = some ds[i] := List.getElem?_eq_getElem hlt
      have h2 := it.yld σ' A' ts H' i x H2 ds[i] h' hget hy
      have hdrop : ds.drop i = ds[i] :: ds.drop (i + 1) := List.drop_eq_getElem_cons hlt
      rw [hdrop] at hpost
      unfold forL at hpost
      cases es : t.set ds[i] A' with
      | none => rw [es] at hpost; exact (pS_stuck hpost).elim
      | some A3 =>
        rw [es] at hpost
        simp only at hpost
        rw [hK]
        refine tg_go h2 (ctmp.app c) es fun σ3 h3 _ => ⟨A3, tmp ++ ts, h3, ctmp.app c, ?_⟩
        cases eb : fb A3 with
        | stuck => rw [eb] at hpost; exact (pS_stuck hpost).elim
        | exc c4 A4 => rw [eb] at hpost; exact fun σ5 H5 h5 => hpost σ5 H5 h5.dropn
        | ok r A4 =>
          rw [eb] at hpost
          cases r with
          | next => exact fun σ5 H5 h5 => ⟨A4, h5, hpost⟩
          | cont => exact fun σ5 H5 h5 => ⟨A4, h5, hpost⟩
          | brk => exact fun σ5 H5 h5 => hpost σ5 H5 h5.dropn
          | ret d => exact fun v σ5 H5 h5 => hpost v σ5 H5 h5.dropMid
    · have e : i = ds.length := by omega
      subst e
      rw [List.drop_length] at hpost
      exact .inl ⟨it.stop σ' A' ts H' _ h' (Nat.le_refl _), hpost σ' H' h'.dropn⟩

/-! ### while -/
def whileN (c : FT) (fb : FS) : Nat → Sl → Ou Fl
  | 0, _ => .stuck
  | n + 1, A => match c A with
    | .ok true A1 => match fb A1 with
      | .ok .next A2 => whileN c fb n A2
      | .ok .cont A2 => whileN c fb n A2
      | .ok .brk A2 => .ok .next A2
      | .ok (.ret d) A2 => .ok (.ret d) A2
      | .exc c A2 => .exc c A2
      | .stuck => .stuck
    | .ok false A1 => .ok .next A1
    | .exc c A1 => .exc c A1
    | .stuck => .stuck
def fWhile (n : Nat) (c : FT) (fb : FS) : FS := fun A => whileN c fb n A
theorem qs_while {n : Nat} {c : Expr} {body : List Stmt} {ft : FT} {fb : FS} {pos : Pos} (hp : PassesOwn (model X.prog X.w) X.A X.env X.xe) (hc : PT X c (tT z ft)) (hb : PSs X body (tS z fb)) : PS X (.While c body [] pos) (tS z (fWhile n ft fb)) := by
  refine PS.imp (ps_while hp hc hb) fun D σ H ⟨A, ts, hA, cl, hq⟩ => ?_
  refine ⟨fun m σ' H' => ∃ A', z.A σ' A' ts H' ∧ pS z (whileN ft fb m A') D ts, ⟨n, A, hA, hq⟩, fun m σ' H' ⟨A', h', hpost⟩ => ⟨A', ts, h', ?_⟩⟩
  cases m with
  | zero => exact (pS_stuck hpost).elim
  | succ m =>
    unfold whileN at hpost
    cases ea : ft A' with
    | stuck => rw [ea] at hpost; exact (pS_stuck hpost).elim
    | exc c A1 => rw [ea] at hpost; exact fun H1 h1 => hpost σ' H1 h1
    | ok b A1 =>
      rw [ea] at hpost
      intro H1 h1
      cases b with
      | false => exact hpost σ' H1 h1
      | true =>
        simp only at hpost
        refine ⟨fun σ2 H2 => ∃ A2, z.A σ2 A2 ts H2 ∧ pS z (whileN ft fb m A2) D ts, fun σ2 H2 ⟨A2, h2, q2⟩ => ⟨m, Nat.lt_succ_self m, A2, h2, q2⟩, A1, ts, h1, cl, ?_⟩
        cases eb : fb A1 with
        | stuck => rw [eb] at hpost; exact (pS_stuck hpost).elim
        | exc c4 A4 => rw [eb] at hpost; exact hpost
        | ok r A4 =>
          rw [eb] at hpost
          cases r with
          | next => exact fun σ5 H5 h5 => ⟨A4, h5, hpost⟩
          | cont => exact fun σ5 H5 h5 => ⟨A4, h5, hpost⟩
          | brk => exact hpost
          | ret d => exact hpost
end
end Ab
end
section
namespace Ab
open PySem PySem.Spec PyProof.Rows L2

/-! ### an owned list rewritten -/
section
variable {K : Fw} {B : Bs} {G H : Hp} {σ : L2.St} {A : Sl} {ts : Ts} {p : Addr} {v y : V} {xs xs' : List V} {ds es : List D} {e : D} {Lt L2 L' : List Addr}
theorem mut_core (gd : Gd B G H) (tm : Tms K σ G H ts Lt) (sl : Sls K G H σ A L2) (hp : H p = some (.lst xs)) (gp : G p = none) (rs : Rs K G H xs' es L') (nd : (((p :: L') ++ Lt) ++ L2).Nodup) (ow : ∀ a ∈ ((p :: L') ++ Lt) ++ L2, Own B a) :
    Abs K B σ A ((.ref p, .mu es) :: ts) (upd H p (.lst xs')) := by
  have np : p ∉ (L' ++ Lt) ++ L2 := (List.nodup_cons.mp nd).1
  have old : ∀ a ∈ (L' ++ Lt) ++ L2, G a = none := fun a ha => by
    rcases List.mem_append.mp ha with m | m
    · exact ((List.mem_append.mp m).elim (rs.own a) (tm.own a)).1
    · exact (sl.own a m).1
  have keep : ∀ a ∈ (L' ++ Lt) ++ L2, upd H p (.lst xs') a = H a ∧ G a = none := fun a ha => ⟨upd_ne (fun q => np (by rw [← q]; exact ha)), old a ha⟩
  have ownp : Own B p := ow p List.mem_cons_self
  refine ⟨G, (p :: L') ++ Lt, L2, ⟨fun a o h => ?_, gd.bg, fun a o hx h => ?_, gd.sep, fun a ha => ?_⟩, .cons (.mu upd_same gp (rs.mono (fun _ _ e => e) fun a ha => keep a (by simp [ha]))) (tm.mono (fun _ _ e => e) fun a ha => keep a (by simp [ha])), sl.mono (fun _ _ e => e) fun a ha => keep a (by simp [ha]), nd, ow⟩
  · have : a ≠ p := fun q => by rw [q, gp] at h; cases h
    rw [upd_ne this]; exact gd.gh a o h
  · have : a ≠ p := fun q => by
      subst q
      rcases ownp with n | n
      · rw [n] at h; cases h
      · exact hx n
    rw [upd_ne this]; exact gd.bh a o hx h
  · by_cases q : a = p
    · rw [q, upd_same]; exact fun z => nomatch z
    · rw [upd_ne q]; exact gd.alive a ha
/-- an item more -/
theorem Abs.app (h : Abs K B σ A ((y, e) :: (v, .mu ds) :: ts) H) (he : ∀ i, e ≠ .al i) : ∃ p xs, v = .ref p ∧ H p = some (.lst xs) ∧ xs.length = ds.length ∧ Abs K B σ A ((v, .mu (ds ++ [e])) :: ts) (upd H p (.lst (xs ++ [y]))) := by
  obtain ⟨G, L1, L2, gd, tm, sl, nd, ow⟩ := h
  cases tm with
  | al _ _ => exact absurd rfl (he _)
  | cons r tm =>
    cases tm with
    | cons r2 t =>
      rename_i Le Lp Lt
      cases r2 with
      | mu q gp rs =>
        rename_i p xs L
        have pp : ((Le ++ ((p :: L) ++ Lt)) ++ L2).Perm (((p :: (L ++ Le)) ++ Lt) ++ L2) := by
          refine List.Perm.append_right _ ?_
          rw [List.cons_append, List.cons_append]
          refine List.perm_middle.trans (List.Perm.cons _ ?_)
          rw [← List.append_assoc]
          exact List.Perm.append_right _ List.perm_append_comm
        refine ⟨p, xs, rfl, q, rs.length, mut_core gd t sl q gp (L' := L ++ Le) (rs.app (by simpa using Rs.one r)) (nodup_perm pp nd) fun a ha => ow a (pp.mem_iff.mpr ha)⟩
/-- the items of another list more (it is read; its items are known) -/
theorem Abs.ext (h : Abs K B σ A ((y, .lst es) :: (v, .mu ds) :: ts) H) : ∃ p xs b zs, v = .ref p ∧ y = .ref b ∧ H p = some (.lst xs) ∧ H b = some (.lst zs) ∧ xs.length = ds.length ∧ zs.length = es.length ∧ Abs K B σ A ((v, .mu (ds ++ es)) :: ts) (upd H p (.lst (xs ++ zs))) := by
  obtain ⟨G, L1, L2, gd, tm, sl, nd, ow⟩ := h
  cases tm with
  | cons r tm =>
    cases r with
    | lst qb rb =>
      rename_i b zs
      cases tm with
      | cons r2 t =>
        rename_i Lp Lt
        cases r2 with
        | mu q gp rs =>
          rename_i p xs L
          exact ⟨p, xs, b, zs, rfl, rfl, q, gd.gh _ _ qb, rs.length, rb.length, mut_core gd t sl q gp (L' := L) (by simpa using rs.app rb) (by simpa using nd) (by simpa using ow)⟩
/-- emptied -/
theorem Abs.clr (h : Abs K B σ A ((v, .mu ds) :: ts) H) : ∃ p xs, v = .ref p ∧ H p = some (.lst xs) ∧ Abs K B σ A ((v, .mu []) :: ts) (upd H p (.lst [])) := by
  obtain ⟨G, L1, L2, gd, tm, sl, nd, ow⟩ := h
  cases tm with
  | cons r2 t =>
    rename_i Lp Lt
    cases r2 with
    | mu q gp rs =>
      rename_i p xs L
      have sb : (((p :: []) ++ Lt) ++ L2).Sublist (((p :: L) ++ Lt) ++ L2) := List.Sublist.append_right (List.Sublist.append_right ((List.nil_sublist L).cons₂ p) _) _
      exact ⟨p, xs, rfl, q, mut_core gd t sl q gp (L' := []) .nil (sb.nodup nd) fun a ha => ow a (sb.subset ha)⟩
theorem Rs.setAt : ∀ {xs : List V} {ds : List D} {L : List Addr} {j : Nat}, Rs K G H xs ds L → R K G H y e L' → j < ds.length → ∃ M N, Rs K G H (xs.set j y) (ds.set j e) M ∧ M.Perm (L' ++ N) ∧ N.Sublist L
  | _, _, _, j, .nil, _, hj => by simp at hj
  | _, _, _, 0, .cons (L := La) (L' := Lb) r t, re, _ => ⟨L' ++ Lb, Lb, .cons re t, .refl _, List.sublist_append_right _ _⟩
  | _, _, _, j + 1, .cons (L := La) (L' := Lb) r t, re, hj => by
    obtain ⟨M, N, h1, h2, h3⟩ := Rs.setAt (j := j) t re (by simpa using hj)
    refine ⟨La ++ M, La ++ N, .cons r h1, ?_, List.Sublist.append_left h3 _⟩
    refine (List.Perm.append_left _ h2).trans ?_
    rw [← List.append_assoc, ← List.append_assoc]
    exact List.Perm.append_right _ List.perm_append_comm
/-- an item replaced -/
theorem Abs.setAt {j : Nat} (h : Abs K B σ A ((y, e) :: (v, .mu ds) :: ts) H) (he : ∀ i, e ≠ .al i) (hj : j < ds.length) : ∃ p xs, v = .ref p ∧ H p = some (.lst xs) ∧ xs.length = ds.length ∧ Abs K B σ A ((v, .mu (ds.set j e)) :: ts) (upd H p (.lst (xs.set j y))) := by
  obtain ⟨G, L1, L2, gd, tm, sl, nd, ow⟩ := h
  cases tm with
  | al _ _ => exact absurd rfl (he _)
  | cons r tm =>
    cases tm with
    | cons r2 t =>
      rename_i Le Lp Lt
      cases r2 with
      | mu q gp rs =>
        rename_i p xs L
        obtain ⟨M, N, h1, h2, h3⟩ := rs.setAt r hj
        have pp : ((Le ++ ((p :: L) ++ Lt)) ++ L2).Perm (((p :: (Le ++ L)) ++ Lt) ++ L2) := by
          refine List.Perm.append_right _ ?_
          rw [List.cons_append, List.cons_append]
          refine List.perm_middle.trans (List.Perm.cons _ ?_)
          rw [List.append_assoc]
        have sb : (((p :: (Le ++ N)) ++ Lt) ++ L2).Sublist (((p :: (Le ++ L)) ++ Lt) ++ L2) := List.Sublist.append_right (List.Sublist.append_right ((List.Sublist.append_left h3 _).cons₂ p) _) _
        have p2 : (((p :: M) ++ Lt) ++ L2).Perm (((p :: (Le ++ N)) ++ Lt) ++ L2) := List.Perm.append_right _ (List.Perm.append_right _ (List.Perm.cons _ h2))
        exact ⟨p, xs, rfl, q, rs.length, mut_core gd t sl q gp h1 (nodup_perm p2.symm (sb.nodup (nodup_perm pp nd))) fun a ha => ow a (pp.mem_iff.mpr (sb.subset (p2.mem_iff.mp ha)))⟩
/-- back into the slot -/
theorem Abs.put {i : Nat} {d : D} (h : Abs K B σ A ((v, d) :: ts) H) (hd : ∀ j, d ≠ .al j) (e : A[i]? = some none) (ev : σ[i]? = some (some v)) : Abs K B σ (A.set i (some d)) ts H := by
  obtain ⟨G, L1, L2, gd, tm, sl, nd, ow⟩ := h
  cases tm with
  | al _ _ => exact absurd rfl (hd _)
  | cons r t =>
    rename_i La Lb
    obtain ⟨L', s, p⟩ := sl.put e ev r
    have pp : (Lb ++ L').Perm ((La ++ Lb) ++ L2) := by
      refine (List.Perm.append_left _ p).trans ?_
      rw [← List.append_assoc]
      exact List.Perm.append_right _ List.perm_append_comm
    exact ⟨G, Lb, L', gd, t, s, nodup_perm pp.symm nd, fun a ha => ow a (pp.mem_iff.mp ha)⟩
theorem Abs.al_at {i : Nat} (h : Abs K B σ A ((v, .al i) :: ts) H) : σ[i]? = some (some v) := by
  obtain ⟨G, L1, L2, gd, tm, sl, nd, ow⟩ := h
  cases tm with
  | al e _ => exact e
  | cons r _ => exact r.not_al.elim
end

/-! ### methods that change a slot's list: x.append(e), x.extend(e), x.clear(); x[i] = e -/
def slotL (i : Nat) (A : Sl) : Option (List D) := match A[i]? with
  | some (some (.mu ds)) => some ds
  | _ => none
theorem slotL_get {i : Nat} {A : Sl} {ds : List D} (h : slotL i A = some ds) : A[i]? = some (some (.mu ds)) := by
  unfold slotL at h
  split at h
  · rename_i e; cases h; exact e
  · cases h
def fApp (i : Nat) (fe : FE) : FE := fun A => match slotL i A with
  | none => .stuck
  | some _ => (fe A).bind fun e A2 => match closeD e A2 with
    | none => .stuck
    | some (e', A3) => match slotL i A3 with
      | some ds => if ds.length < sizeLine then .ok .non (A3.set i (some (.mu (ds ++ [e'])))) else .stuck
      | none => .stuck
/-- extend by a list whose items are known -/
def fExt (i : Nat) (fe : FE) : FE := fun A => match slotL i A with
  | none => .stuck
  | some _ => (fe A).bind fun e A2 => match closeD e A2 with
    | none => .stuck
    | some (e', A3) => match slotL i A3, fz e' with
      | some ds, .lst es => if ds.length + es.length ≤ sizeLine then .ok .non (A3.set i (some (.mu (ds ++ es)))) else .stuck
      | _, _ => .stuck
def fClr (i : Nat) : FE := fun A => match slotL i A with
  | some _ => .ok .non (A.set i (some (.mu [])))
  | none => .stuck
/-- x[k] = e -/
def fSetI (i : Nat) (fk fe : FE) : FS := fun A => (fe A).bind fun e A1 => match closeD e A1 with
  | none => .stuck
  | some (e', A2) => match slotL i A2 with
    | none => .stuck
    | some _ => (fk A2).bind fun k A3 => match k, slotL i A3 with
      | .int k, some ds => match ixN ds.length k with
        | some j => .ok .next (A3.set i (some (.mu (ds.set j e'))))
        | none => .stuck
      | _, _ => .stuck
section
variable {z : Z} {X : Cx} {o e : Expr} {fo fe : FE}
theorem tyV_lst {K : PySem.W.Frag} {H : Hp} {p : Addr} {xs : List V} (h : H p = some (.lst xs)) : tyV K "list" (.ref p) H := .inl ⟨rfl, xs, .inl (.inl h)⟩
/-- the owned list of a slot -/
theorem Abs.alList {K : Fw} {B : Bs} {σ : L2.St} {A : Sl} {ts : Ts} {H : Hp} {v : V} {i : Nat} {ds : List D} (h : Abs K B σ A ((v, .al i) :: ts) H) (e : A[i]? = some (some (.mu ds))) : ∃ p xs, v = .ref p ∧ H p = some (.lst xs) ∧ xs.length = ds.length := by
  obtain ⟨G, L, gh, r, _⟩ := h.open (d := .al i) (by rw [see_al e]; exact fun j q => nomatch q)
  rw [see_al e] at r
  cases r with
  | mu q _ rs => exact ⟨_, _, rfl, q, rs.length⟩
theorem Abs.slotAl {K : Fw} {B : Bs} {σ : L2.St} {A : Sl} {ts : Ts} {H : Hp} {i : Nat} {ds : List D} (h : Abs K B σ A ts H) (e : A[i]? = some (some (.mu ds))) : ∃ p xs, σ[i]? = some (some (.ref p)) ∧ H p = some (.lst xs) ∧ xs.length = ds.length ∧ Abs K B σ A ((.ref p, .al i) :: ts) H := by
  obtain ⟨v, ev, h1⟩ := h.var e
  have h2 : Abs K B σ A ((v, .al i) :: ts) H := by simpa [isF] using h1
  obtain ⟨p, xs, rfl, hp, hl⟩ := h2.alList e
  exact ⟨p, xs, ev, hp, hl, h2⟩
theorem set_none_get {A : Sl} {i : Nat} {o : Option D} (e : A[i]? = some o) : (A.set i none)[i]? = some none := by
  have := (List.getElem?_eq_some_iff.mp e).1
  simp [this]
/-- where a slot's own list is, another temporary ahead -/
theorem Abs.swapMove {K : Fw} {B : Bs} {σ : L2.St} {A : Sl} {ts : Ts} {H : Hp} {v y : V} {i : Nat} {e d : D} (h : Abs K B σ A ((y, e) :: (v, .al i) :: ts) H) (ed : A[i]? = some (some d)) : Abs K B σ (A.set i none) ((y, e) :: (v, d) :: ts) H :=
  ((h.perm (List.Perm.swap _ _ _)).move ed).perm (List.Perm.swap _ _ _)
theorem app_go {i : Nat} {σ : L2.St} {H : Hp} {Q : VK} (h : tE z (fApp i fe) σ H Q) : tBM z.K "list" rAppend (tVar i) (L2.tCons (tE z fe) L2.tNil) σ H Q := by
  obtain ⟨A, ts, hA, hp⟩ := h
  unfold fApp at hp
  split at hp
  · exact (show False from hp).elim
  · rename_i ds0 e0
    obtain ⟨p0, xs0, ev, hp0, _, h1⟩ := hA.slotAl (slotL_get e0)
    refine ⟨.ref p0, ev, tyV_lst hp0, A, (.ref p0, .al i) :: ts, h1, ?_⟩
    cases eb : fe A with
    | stuck => rw [eb] at hp; exact (show False from hp).elim
    | exc c A2 => rw [eb] at hp; exact fun H' h' => hp H' h'.drop
    | ok e A2 =>
      rw [eb] at hp
      simp only [Ou.bind_ok] at hp
      intro y H2 h2
      split at hp
      · exact (show False from hp).elim
      · rename_i e' A3 ec
        obtain ⟨h3, n3⟩ := h2.closeD ec
        split at hp
        · rename_i ds e3
          split at hp
          · rename_i hl
            obtain ⟨p, xs, q, hp2, hlen, h5⟩ := (h3.swapMove (slotL_get e3)).app n3
            cases q
            have h6 := h5.put (fun j q => nomatch q) (set_none_get (slotL_get e3)) ev
            rw [List.set_set] at h6
            exact ⟨p0, xs, y, rfl, rfl, hp2, by rw [hlen]; exact hl, hp _ _ h6.pnon⟩
          · exact (show False from hp).elim
        · exact (show False from hp).elim
theorem ext_go {i : Nat} {σ : L2.St} {H : Hp} {Q : VK} (h : tE z (fExt i fe) σ H Q) : tBM z.K "list" rExtend (tVar i) (L2.tCons (tE z fe) L2.tNil) σ H Q := by
  obtain ⟨A, ts, hA, hp⟩ := h
  unfold fExt at hp
  split at hp
  · exact (show False from hp).elim
  · rename_i ds0 e0
    obtain ⟨p0, xs0, ev, hp0, _, h1⟩ := hA.slotAl (slotL_get e0)
    refine ⟨.ref p0, ev, tyV_lst hp0, A, (.ref p0, .al i) :: ts, h1, ?_⟩
    cases eb : fe A with
    | stuck => rw [eb] at hp; exact (show False from hp).elim
    | exc c A2 => rw [eb] at hp; exact fun H' h' => hp H' h'.drop
    | ok e A2 =>
      rw [eb] at hp
      simp only [Ou.bind_ok] at hp
      intro y H2 h2
      split at hp
      · exact (show False from hp).elim
      · rename_i e' A3 ec
        obtain ⟨h3, n3⟩ := h2.closeD ec
        split at hp
        · rename_i ds es e3 ef
          split at hp
          · rename_i hl
            have h4 := (h3.swapMove (slotL_get e3)).fz n3
            rw [ef] at h4
            obtain ⟨p, xs, b, zs, q2, rfl, hp2, hb2, hlen, hlz, h5⟩ := h4.ext
            cases q2
            have h6 := h5.put (fun j q => nomatch q) (set_none_get (slotL_get e3)) ev
            rw [List.set_set] at h6
            exact ⟨p0, b, xs, zs, rfl, rfl, hp2, hb2, by rw [hlen, hlz]; exact hl, hp _ _ h6.pnon⟩
          · exact (show False from hp).elim
        · exact (show False from hp).elim
theorem clr_go {i : Nat} {σ : L2.St} {H : Hp} {Q : VK} (h : tE z (fClr i) σ H Q) : tBM0 z.K "list" rClear (tVar i) σ H Q := by
  obtain ⟨A, ts, hA, hp⟩ := h
  unfold fClr at hp
  split at hp
  · rename_i ds e
    obtain ⟨p0, xs0, ev, hp0, _, h1⟩ := hA.slotAl (slotL_get e)
    obtain ⟨p, xs, q, hp2, h5⟩ := (h1.move (slotL_get e)).clr
    cases q
    have h6 := h5.put (fun j q => nomatch q) (set_none_get (slotL_get e)) ev
    rw [List.set_set] at h6
    exact ⟨.ref p0, ev, tyV_lst hp0, p0, xs, rfl, rfl, hp2, hp _ _ h6.pnon⟩
  · exact (show False from hp).elim
theorem ixN_lt {n : Nat} {i : Int} {j : Nat} (h : ixN n i = some j) : j < n := (ixN_seq h).2.1
theorem setI_go {i : Nat} {fk : FE} {D : Ends} {σ : L2.St} {H : Hp} (h : tS z (fSetI i fk fe) D σ H) : tAsg (tE z fe) (gSub (tVar i) (tE z fk) rSetL) D σ H := by
  obtain ⟨A, ts, hA, c, hp⟩ := h
  refine ⟨A, ts, hA, ?_⟩
  unfold fSetI at hp
  cases ea : fe A with
  | stuck => rw [ea] at hp; exact (pS_stuck hp).elim
  | exc c A1 => rw [ea] at hp; exact fun H' h' => hp σ H' h'
  | ok e A1 =>
    rw [ea] at hp
    simp only [Ou.bind_ok] at hp
    intro y H1 h1
    split at hp
    · exact (pS_stuck hp).elim
    · rename_i e' A2 ec
      obtain ⟨h2, n2⟩ := h1.closeD ec
      split at hp
      · exact (pS_stuck hp).elim
      · rename_i ds0 e0
        obtain ⟨p0, xs0, ev, hp0, _, h3⟩ := h2.slotAl (slotL_get e0)
        refine ⟨.ref p0, ev, A2, (.ref p0, .al i) :: (y, e') :: ts, h3, ?_⟩
        cases ek : fk A2 with
        | stuck => rw [ek] at hp; exact (pS_stuck hp).elim
        | exc c A3 => rw [ek] at hp; exact fun H' h' => hp σ H' h'.drop.drop
        | ok k A3 =>
          rw [ek] at hp
          simp only [Ou.bind_ok] at hp
          intro u H3 h4
          split at hp
          · rename_i k ds es
            split at hp
            · rename_i j ej
              have eu := h4.int
              have h5 : z.A σ A3 ((y, e') :: (.ref p0, .al i) :: ts) H3 := h4.drop.perm (List.Perm.swap _ _ _)
              obtain ⟨p, xs, q, hp2, hlen, h6⟩ := (h5.swapMove (slotL_get es)).setAt n2 (ixN_lt ej)
              cases q
              have h7 := h6.put (fun j q => nomatch q) (set_none_get (slotL_get es)) ev
              rw [List.set_set] at h7
              exact ⟨p0, xs, k, j, rfl, eu, hp2, by rw [hlen]; exact ej, hp σ _ h7⟩
            · exact (pS_stuck hp).elim
          · exact (pS_stuck hp).elim
theorem qe_app {i : Nat} {o e : Expr} {apos cpos : Pos} (hK : X.K = z.K) (ho : PE X o (tVar i)) (he : PE X e (tE z fe))
    (hbase : attributeBase o "append" X.env (eval o X.env) = eval o X.env := by rfl)
    (hfew : ((backTo cpos (starEach [e] X.env)).all (fun x => !x.1) && (backToKw cpos (keywordEach [] X.env)).all (fun x => x.1.isSome)
      && decide ([e].length + ([] : List Keyword).length + (if ([] : List Keyword).isEmpty then 0 else 1) < 30)) = true := by rfl)
    (hline : (apos.endLine == cpos.line) = true := by rfl) (hs : starEach [e] X.env = (false, eval e X.env) :: starEach [] X.env := by rfl) (hplain : (backTo cpos (starEach [] X.env)).any (·.1) = false := by rfl) :
    PE X (.Call (.Attribute o "append" apos) [e] [] cpos) (tE z (fApp i fe)) :=
  PE.imp (pe_bm PySem.F.plainAttrs_list PySem.F.slot_list_append PySem.F.type_list_append mt_append ho (pa_cons he pa_nil hs) hbase hfew hline hs hplain) fun _ _ _ h => by rw [hK]; exact app_go h
theorem qe_ext {i : Nat} {o e : Expr} {apos cpos : Pos} (hK : X.K = z.K) (ho : PE X o (tVar i)) (he : PE X e (tE z fe))
    (hbase : attributeBase o "extend" X.env (eval o X.env) = eval o X.env := by rfl)
    (hfew : ((backTo cpos (starEach [e] X.env)).all (fun x => !x.1) && (backToKw cpos (keywordEach [] X.env)).all (fun x => x.1.isSome)
      && decide ([e].length + ([] : List Keyword).length + (if ([] : List Keyword).isEmpty then 0 else 1) < 30)) = true := by rfl)
    (hline : (apos.endLine == cpos.line) = true := by rfl) (hs : starEach [e] X.env = (false, eval e X.env) :: starEach [] X.env := by rfl) (hplain : (backTo cpos (starEach [] X.env)).any (·.1) = false := by rfl) :
    PE X (.Call (.Attribute o "extend" apos) [e] [] cpos) (tE z (fExt i fe)) :=
  PE.imp (pe_bm PySem.F.plainAttrs_list PySem.F.slot_list_extend PySem.F.type_list_extend mt_extend ho (pa_cons he pa_nil hs) hbase hfew hline hs hplain) fun _ _ _ h => by rw [hK]; exact ext_go h
theorem qe_clr {i : Nat} {o : Expr} {apos cpos : Pos} (hK : X.K = z.K) (ho : PE X o (tVar i)) (hbase : attributeBase o "clear" X.env (eval o X.env) = eval o X.env := by rfl) (hline : (apos.endLine == cpos.line) = true := by rfl) :
    PE X (.Call (.Attribute o "clear" apos) [] [] cpos) (tE z (fClr i)) :=
  PE.imp (pe_bm0 PySem.F.plainAttrs_list PySem.F.slot_list_clear PySem.F.type_list_clear mt_clear ho hbase hline) fun _ _ _ h => by rw [hK]; exact clr_go h
theorem qs_setI {i : Nat} {o k e : Expr} {fk : FE} {p pos : Pos} (ho : PE X o (tVar i)) (hk : PE X k (tE z fk)) (he : PE X e (tE z fe))
    (ha : ∀ v, assign (.Subscript o k p) X.env v = (do
      let ov ← holding [v] (eval o X.env)
      let iv ← holding [v, ov] (eval k X.env)
      standAt p
      holding [v, ov, iv] (setItem ov iv v)
      release [v, ov, iv] []) := by intro _; rfl)
    (hs : swapsWithSole [.Subscript o k p] e pos.line X.env = pure false := by rfl) (hw : swappedStores [.Subscript o k p] e X.env = pure none := by rfl)
    (h1 : (assignEach [.Subscript o k p] X.env).map (·.2) = [assign (.Subscript o k p) X.env] := by rfl) : PS X (.Assign [.Subscript o k p] e pos) (tS z (fSetI i fk fe)) :=
  PS.imp (ps_asg he (pg_sub ho hk set_list ha) hs hw h1) fun _ _ _ h => setI_go h
end

/-! ### comprehensions -/
def wipeA (A : Sl) : List Nat → Sl
  | [] => A
  | i :: is => (wipeA A is).set i none
def compL (t : Tg) (ft : FT) (fe : FE) : List D → List D → Sl → Ou (List D)
  | [], acc, A => .ok acc A
  | d :: ds, acc, A => match t.set d A with
    | none => .stuck
    | some A1 => match ft A1 with
      | .ok true A2 => match fe A2 with
        | .ok e A3 => match closeD e A3 with
          | some (e', A4) => if acc.length < sizeLine then compL t ft fe ds (acc ++ [e']) (wipeA A4 t.own) else .stuck
          | none => .stuck
        | _ => .stuck
      | .ok false A2 => compL t ft fe ds acc (wipeA A2 t.own)
      | _ => .stuck
/-- [e for t in .. if c]: behind it the slots of t are told nothing of -/
def fComp (fi : FI) (t : Tg) (ft : FT) (fe : FE) : FE := fun A => (fi A).bind fun ds A1 => match compL t ft fe ds [] (wipeA A1 t.own) with
  | .ok es A2 => .ok (.mu es) (wipeA A2 t.own)
  | _ => .stuck
def fYes : FT := fun A => .ok true A
/-- the temporaries that are no aliases -/
def clsd (ts : Ts) : Ts := ts.filter fun p => match p.2 with | .al _ => false | _ => true
section
variable {K : Fw} {B : Bs} {G H : Hp} {σ σ' : L2.St} {A : Sl} {ts : Ts} {L : List Addr}
theorem clsd_cl : Cl (clsd ts) := fun p hp i e => by
  have := (List.mem_filter.mp hp).2
  rw [e] at this
  exact nomatch this
theorem Tms.clsd (t : Tms K σ G H ts L) : Tms K σ' G H (Ab.clsd ts) L := by
  induction t with
  | nil => exact .nil
  | @cons v d L L' ts r t ih =>
    have : Ab.clsd ((v, d) :: ts) = (v, d) :: Ab.clsd ts := by
      unfold Ab.clsd
      rw [List.filter_cons_of_pos]
      cases d <;> first | rfl | exact r.not_al.elim
    rw [this]
    exact .cons r ih
  | @al v i L ts e t ih =>
    have : Ab.clsd ((v, .al i) :: ts) = Ab.clsd ts := by
      unfold Ab.clsd
      rw [List.filter_cons_of_neg]
      intro z; exact nomatch z
    rw [this]
    exact ih
/-- the aliases of ts speak of σ -/
def AlAt (σ : L2.St) (ts : Ts) : Prop := ∀ v i, (v, D.al i) ∈ ts → σ[i]? = some (some v)
theorem Tms.alAt (t : Tms K σ G H ts L) : AlAt σ ts := by
  induction t with
  | nil => exact fun _ _ h => nomatch h
  | cons r _ ih =>
    intro v i h
    rcases List.mem_cons.mp h with h | h
    · cases h; exact r.not_al.elim
    · exact ih v i h
  | al e _ ih =>
    intro v i h
    rcases List.mem_cons.mp h with h | h
    · cases h; exact e
    · exact ih v i h
theorem Tms.unclsd : ∀ {ts : Ts} {L : List Addr}, Tms K σ' G H (Ab.clsd ts) L → AlAt σ ts → Tms K σ G H ts L
  | [], L, t, _ => by cases t; exact .nil
  | (v, d) :: ts, L, t, a => by
    have a' : AlAt σ ts := fun v i h => a v i (List.mem_cons_of_mem _ h)
    by_cases hd : ∃ i, d = .al i
    · obtain ⟨i, rfl⟩ := hd
      have e : Ab.clsd ((v, .al i) :: ts) = Ab.clsd ts := by
        unfold Ab.clsd
        rw [List.filter_cons_of_neg]
        intro z; exact nomatch z
      rw [e] at t
      exact .al (a v i List.mem_cons_self) (Tms.unclsd t a')
    · have e : Ab.clsd ((v, d) :: ts) = (v, d) :: Ab.clsd ts := by
        unfold Ab.clsd
        rw [List.filter_cons_of_pos]
        cases d <;> first | rfl | exact absurd ⟨_, rfl⟩ hd
      rw [e] at t
      cases t with
      | cons r t => exact .cons r (Tms.unclsd t a')
      | al _ _ => exact absurd ⟨_, rfl⟩ hd
theorem Sls.congr (s : Sls K G H σ A L) : ∀ {σ' : L2.St}, σ'.length = σ.length → (∀ (i : Nat) d, A[i]? = some (some d) → σ'[i]? = σ[i]?) → Sls K G H σ' A L := by
  induction s with
  | nil => intro σ' hl _; have : σ' = [] := by simpa using hl
           subst this; exact .nil
  | skip s ih =>
    intro σ' hl h
    cases σ' with
    | nil => simp at hl
    | cons o σ' => exact .skip (ih (by simpa using hl) fun i d e => by simpa using h (i + 1) d (by simpa using e))
  | cons r s ih =>
    intro σ' hl h
    cases σ' with
    | nil => simp at hl
    | cons o σ' =>
      have e0 := h 0 _ rfl
      simp at e0
      subst e0
      exact .cons r (ih (by simpa using hl) fun i d e => by simpa using h (i + 1) d (by simpa using e))
theorem wipeA_len : ∀ (is : List Nat) (A : Sl), (wipeA A is).length = A.length
  | [], _ => rfl
  | i :: is, A => by simp [wipeA, wipeA_len is A]
theorem wipeA_in : ∀ {is : List Nat} {A : Sl} {i : Nat} {d : D}, (wipeA A is)[i]? = some (some d) → i ∉ is
  | [], _, _, _, _ => fun h => nomatch h
  | j :: is, A, i, d, h => fun m => by
    rcases List.mem_cons.mp m with e | m
    · subst e
      unfold wipeA at h
      rw [List.getElem?_set] at h
      simp at h
    · unfold wipeA at h
      rw [List.getElem?_set] at h
      split at h
      · split at h <;> simp at h
      · exact wipeA_in h m
theorem wipe_off : ∀ (is : List Nat) (σ : L2.St), SameOff is σ (wipe σ is)
  | [], σ => .refl
  | i :: is, σ => by
    have ih := wipe_off is σ
    refine SameOff.set ⟨ih.1, fun j hj => ih.2 j fun m => hj (List.mem_cons_of_mem _ m)⟩ List.mem_cons_self
theorem Abs.wipeA (is : List Nat) (h : Abs K B σ A ts H) : Abs K B σ (Ab.wipeA A is) ts H := by
  induction is with
  | nil => exact h
  | cons i is ih => exact ih.forget
/-- into a block: its own slots told nothing of, no aliases -/
theorem Abs.block {is : List Nat} (h : Abs K B σ A ts H) (so : SameOff is σ σ') : Abs K B σ' (Ab.wipeA A is) (Ab.clsd ts) H := by
  obtain ⟨G, L1, L2, gd, tm, sl, nd, ow⟩ := h.wipeA is
  exact ⟨G, L1, L2, gd, tm.clsd, sl.congr so.1 fun i d e => so.2 i (wipeA_in e), nd, ow⟩
/-- .. and out of it -/
theorem Abs.unblock {is : List Nat} {tmp : Ts} (h : Abs K B σ' A (tmp ++ Ab.clsd ts) H) (ct : Cl tmp) (so : SameOff is σ σ') (al : AlAt σ ts) : Abs K B σ (Ab.wipeA A is) (tmp ++ ts) H := by
  obtain ⟨G, L1, L2, gd, tm, sl, nd, ow⟩ := h.wipeA is
  have e : Ab.clsd (tmp ++ ts) = tmp ++ Ab.clsd ts := by
    unfold Ab.clsd
    rw [List.filter_append]
    congr 1
    refine List.filter_eq_self.mpr fun p hp => ?_
    have := ct p hp
    cases p with
    | mk v d => cases d <;> first | rfl | exact absurd rfl (this _)
  refine ⟨G, L1, L2, gd, Tms.unclsd (by rw [e]; exact tm) fun v i h => ?_, sl.congr so.1.symm fun i d e => (so.2 i (wipeA_in e)).symm, nd, ow⟩
  rcases List.mem_append.mp h with m | m
  · exact absurd rfl (ct _ m i)
  · exact al v i m
theorem SameOff.symm {is : List Nat} (h : SameOff is σ σ') : SameOff is σ' σ := ⟨h.1.symm, fun i hi => (h.2 i hi).symm⟩
theorem SameOff.trans {is : List Nat} {τ : L2.St} (h : SameOff is σ σ') (k : SameOff is σ' τ) : SameOff is σ τ := ⟨k.1.trans h.1, fun i hi => (k.2 i hi).trans (h.2 i hi)⟩
theorem clsd_id {tmp : Ts} (ct : Cl tmp) : Ab.clsd tmp = tmp := List.filter_eq_self.mpr fun p hp => by
  have := ct p hp
  cases p with
  | mk v d => cases d <;> first | rfl | exact absurd rfl (this _)
theorem clsd_app {tmp : Ts} (ct : Cl tmp) : Ab.clsd (tmp ++ ts) = tmp ++ Ab.clsd ts := by
  have e := clsd_id ct
  unfold Ab.clsd at e ⊢
  rw [List.filter_append, e]
theorem wipe_in : ∀ {is : List Nat} {σ : L2.St} {i : Nat}, i ∈ is → i < σ.length → (wipe σ is)[i]? = some none
  | j :: is, σ, i, m, h => by
    unfold wipe
    rw [List.getElem?_set]
    split
    · rename_i e
      subst e
      rw [wipe_length, if_pos h]
    · rename_i ne
      exact wipe_in ((List.mem_cons.mp m).resolve_left fun e => ne e.symm) h
theorem wipe_ext {is : List Nat} {σ σ' : L2.St} (so : SameOff is σ σ') : wipe σ' is = wipe σ is := by
  apply List.ext_getElem?
  intro i
  by_cases hi : i ∈ is
  · by_cases hl : i < σ.length
    · rw [wipe_in hi hl, wipe_in hi (by rw [so.1]; exact hl)]
    · rw [List.getElem?_eq_none (by rw [wipe_length, so.1]; omega), List.getElem?_eq_none (by rw [wipe_length]; omega)]
  · rw [(wipe_off is σ').2 i hi, (wipe_off is σ).2 i hi, so.2 i hi]
end
section
variable {z : Z} {X : Cx}
/-- within a block nothing is raised -/
abbrev Z.q (z : Z) : Z := { z with W := fun _ _ _ _ => False }
theorem comp_go {t : Tg} {fi : FI} {ft : FT} {fe : FE} {σ : L2.St} {H : Hp} {Q : VK} (h : tE z (fComp fi t ft fe) σ H Q) : tLc (tI z fi) (t.read z.K) (tT z.q ft) (tE z.q fe) t.own σ H Q := by
  obtain ⟨A, ts, hA, hp⟩ := h
  refine ⟨A, ts, hA, ?_⟩
  unfold fComp at hp
  cases ea : fi A with
  | stuck => rw [ea] at hp; exact (show False from hp).elim
  | exc c A1 => rw [ea] at hp; exact hp
  | ok ds A1 =>
    rw [ea] at hp
    simp only [Ou.bind_ok] at hp
    intro J tmp H1 ctmp it h1 Dl hD
    have al : AlAt σ ts := by
      obtain ⟨_, _, _, _, tm, _⟩ := h1.dropn
      exact tm.alAt
    have so : SameOff t.own σ (wipe σ t.own) := wipe_off _ _
    -- what a turn's start bears, what is wanted
    let Post : Ou (List D) → Prop := fun o => match o with
      | .ok es A2 => ∀ H', z.A (wipe σ t.own) A2 ((.ref Dl, .mu es) :: (tmp ++ Ab.clsd ts)) H' → Q (.ref Dl) H'
      | _ => False
    have hpost : Post (compL t ft fe ds [] (Ab.wipeA A1 t.own)) := by
      cases ec : compL t ft fe ds [] (Ab.wipeA A1 t.own) with
      | stuck => rw [ec] at hp; exact (show False from hp).elim
      | exc c A2 => rw [ec] at hp; exact (show False from hp).elim
      | ok es A2 =>
        rw [ec] at hp
        intro H' h'
        have h2 : z.A (wipe σ t.own) A2 ([(.ref Dl, .mu es)] ++ Ab.clsd ts) H' := h'.dropMid
        exact hp _ _ (h2.unblock (fun p m j e => by rw [List.mem_singleton.mp m] at e; cases e) so al)
    have h0 : z.A (wipe σ t.own) (Ab.wipeA A1 t.own) (tmp ++ Ab.clsd ts) H1 := by
      have := h1.block so
      rw [clsd_app ctmp] at this
      exact this
    have cT : Cl (tmp ++ Ab.clsd ts) := ctmp.app clsd_cl
    have cTD : ∀ es, Cl (tmp ++ (V.ref Dl, D.mu es) :: Ab.clsd ts) := fun es p hp => by
      rcases List.mem_append.mp hp with m | m
      · exact ctmp p m
      · rcases List.mem_cons.mp m with m | m
        · intro j e; rw [m] at e; cases e
        · exact clsd_cl p m
    refine ⟨fun i m H' => ∃ A' es, z.A (wipe σ t.own) A' ((.ref Dl, .mu es) :: (tmp ++ Ab.clsd ts)) H' ∧ m = ds.length - i ∧ i ≤ ds.length ∧ Post (compL t ft fe (ds.drop i) es A'), ⟨_, Ab.wipeA A1 t.own, [], Abs.lst (vs := []) (ds := []) rfl rfl h0 hD, rfl, Nat.zero_le _, hpost⟩, fun i m H' hW => ?_⟩
    obtain ⟨A', es, h', rfl, hi, hq⟩ := hW
    have hm : z.A (wipe σ t.own) A' (tmp ++ (.ref Dl, .mu es) :: Ab.clsd ts) H' := h'.perm (by simpa using (List.perm_middle (l₁ := tmp) (a := (V.ref Dl, D.mu es)) (l₂ := Ab.clsd ts)).symm)
    by_cases hlt : i < ds.length
    · refine .inr ⟨it.go _ A' _ H' i hm hlt, fun H2 => ∃ A2 es2, z.A (wipe σ t.own) A2 ((.ref Dl, .mu es2) :: (tmp ++ Ab.clsd ts)) H2 ∧ Post (compL t ft fe (ds.drop (i + 1)) es2 A2), fun H2 ⟨A2, es2, h2, q2⟩ => ⟨ds.length - (i + 1), by omega, A2, es2, h2, rfl, hlt, q2⟩, fun x H2 hy => ?_⟩
      have h2 := it.yld _ A' _ H' i x H2 ds[i] hm (List.getElem?_eq_getElem hlt) hy
      have hdrop : ds.drop i = ds[i] :: ds.drop (i + 1) := List.drop_eq_getElem_cons hlt
      rw [hdrop] at hq
      unfold compL at hq
      cases eset : t.set ds[i] A' with
      | none => rw [eset] at hq; exact (show False from hq).elim
      | some A3 =>
        rw [eset] at hq
        simp only at hq
        refine tg_go h2 (cTD es) eset fun σ3 h3 so3 => ⟨wipe_ext (so.trans so3), A3, _, h3, ?_⟩
        have soB : SameOff t.own σ3 (wipe σ t.own) := so3.symm
        cases et : ft A3 with
        | stuck => rw [et] at hq; exact (show False from hq).elim
        | exc c A4 => rw [et] at hq; exact (show False from hq).elim
        | ok b A4 =>
          rw [et] at hq
          intro H3 h4
          cases b with
          | false =>
            rw [if_neg Bool.false_ne_true]
            have h5 : z.A σ3 A4 ((.ref Dl, .mu es) :: (tmp ++ Ab.clsd ts)) H3 := h4.perm List.perm_middle
            have h6 := h5.block soB
            rw [clsd_id (fun p hp => (List.mem_cons.mp hp).elim (fun e j q => by rw [e] at q; cases q) (cT p))] at h6
            exact ⟨_, es, h6, hq⟩
          | true =>
            rw [if_pos rfl]
            simp only at hq
            refine ⟨A4, _, h4, ?_⟩
            cases ee : fe A4 with
            | stuck => rw [ee] at hq; exact (show False from hq).elim
            | exc c A5 => rw [ee] at hq; exact (show False from hq).elim
            | ok e A5 =>
              rw [ee] at hq
              simp only at hq
              intro y H4 h5
              split at hq
              · rename_i e' A6 ecl
                obtain ⟨h6, n6⟩ := h5.closeD ecl
                split at hq
                · rename_i hl
                  have h7 : z.A σ3 A6 ((y, e') :: (.ref Dl, .mu es) :: (tmp ++ Ab.clsd ts)) H4 := h6.perm (List.Perm.cons _ List.perm_middle)
                  obtain ⟨p, xs, q, hp2, hlen, h8⟩ := h7.app n6
                  cases q
                  have h9 := h8.block soB
                  rw [clsd_id (fun p hp => (List.mem_cons.mp hp).elim (fun e j q => by rw [e] at q; cases q) (cT p))] at h9
                  exact ⟨xs, hp2, by rw [hlen]; exact hl, _, _, h9, hq⟩
                · exact (show False from hq).elim
              · exact (show False from hq).elim
    · have e : i = ds.length := by omega
      subst e
      rw [List.drop_length] at hq
      exact .inl ⟨it.stop _ A' _ H' _ hm (Nat.le_refl _), hq H' h'⟩
theorem qe_comp {elt tg iter : Expr} {ifs : List Expr} {scope : Scope} {own : List (Str × Nat)} {pos : Pos} {t : Tg} {fi : FI} {ft : FT} {fe : FE} (hc : X.calm = true) (hN : X.N.Nodup) (hK : X.K = z.K) (ho : own.map (·.2) = t.own) (hi : PI X tg iter (tI z fi)) (ok : BlkOk X.N X.env.scope scope own)
    (hg : ∀ (s : Shared) (H : Hp) (C : Addr) (cl : List (Str × Addr)) (fp : List Addr), PG (X.blk s H scope (compEnvC scope cl C X.env) fp) tg (t.read X.K)) (ht : ∀ (s : Shared) (H : Hp) (C : Addr) (cl : List (Str × Addr)) (fp : List Addr), PTs (X.blk s H scope (compEnvC scope cl C X.env) fp) ifs (tT z.q ft))
    (he : ∀ (s : Shared) (H : Hp) (C : Addr) (cl : List (Str × Addr)) (fp : List Addr), PE (X.blk s H scope (compEnvC scope cl C X.env) fp) elt (tE z.q fe)) (hs : ∀ x, foldedSetIterable iter X.env x = pure x := by intro _; rfl) :
    PE X (.ListComp elt [⟨tg, iter, ifs, 0⟩] scope pos) (tE z (fComp fi t ft fe)) :=
  PE.imp (pe_lc hc hN hi ok hg ht he hs) fun _ _ _ h => by rw [hK, ho]; exact comp_go h
theorem qs_comp {i : Nat} {y : Str} {py : Pos} {elt tg iter : Expr} {ifs : List Expr} {scope : Scope} {own : List (Str × Nat)} {pos spos : Pos} {t : Tg} {fi : FI} {ft : FT} {fe : FE} (hc : X.calm = true) (hN : X.N.Nodup) (hK : X.K = z.K) (ho : own.map (·.2) = t.own) (hy : X.N[i]? = some y) (hyl : X.env.scope.names.lookup y = some .local)
    (hsw : swapsWith (.ListComp elt [⟨tg, iter, ifs, 0⟩] scope pos) (some (.Name y py)) spos.line X.env = pure true) (hi : PI X tg iter (tI z fi)) (ok : BlkOk X.N X.env.scope scope own)
    (hg : ∀ (s : Shared) (H : Hp) (C : Addr) (cl : List (Str × Addr)) (fp : List Addr), PG (X.blk s H scope (compEnvC scope cl C X.env) fp) tg (t.read X.K)) (ht : ∀ (s : Shared) (H : Hp) (C : Addr) (cl : List (Str × Addr)) (fp : List Addr), PTs (X.blk s H scope (compEnvC scope cl C X.env) fp) ifs (tT z.q ft))
    (he : ∀ (s : Shared) (H : Hp) (C : Addr) (cl : List (Str × Addr)) (fp : List Addr), PE (X.blk s H scope (compEnvC scope cl C X.env) fp) elt (tE z.q fe)) (hs : ∀ x, foldedSetIterable iter X.env x = pure x := by intro _; rfl) :
    PS X (.Assign [.Name y py] (.ListComp elt [⟨tg, iter, ifs, 0⟩] scope pos) spos) (tS z (fAsg i (fComp fi t ft fe))) :=
  PS.imp (ps_setLc hc hN hy hyl hsw hi ok hg ht he hs) fun D σ H h => by
    have := asg_go h
    obtain ⟨A, ts, hA, hp⟩ := this
    rw [hK, ho]
    exact comp_go ⟨A, ts, hA, hp⟩
theorem qs_compF {i : Nat} {y : Str} {py : Pos} {elt tg iter : Expr} {ifs : List Expr} {scope : Scope} {own : List (Str × Nat)} {pos spos : Pos} {t : Tg} {fi : FI} {ft : FT} {fe : FE} (hc : X.calm = true) (hN : X.N.Nodup) (hK : X.K = z.K) (ho : own.map (·.2) = t.own) (hy : X.N[i]? = some y) (hyl : X.env.scope.names.lookup y = some .local)
    (hsw : swapsWith (.ListComp elt [⟨tg, iter, ifs, 0⟩] scope pos) (some (.Name y py)) spos.line X.env = pure true) (hi : PI X tg iter (tI z fi)) (ok : BlkOk X.N X.env.scope scope own)
    (hg : ∀ (s : Shared) (H : Hp) (C : Addr) (cl : List (Str × Addr)) (fp : List Addr), PG (X.blk s H scope (compEnvC scope cl C X.env) fp) tg (t.read X.K)) (ht : ∀ (s : Shared) (H : Hp) (C : Addr) (cl : List (Str × Addr)) (fp : List Addr), PTs (X.blk s H scope (compEnvC scope cl C X.env) fp) ifs (tT z.q ft))
    (he : ∀ (s : Shared) (H : Hp) (C : Addr) (cl : List (Str × Addr)) (fp : List Addr), PE (X.blk s H scope (compEnvC scope cl C X.env) fp) elt (tE z.q fe)) (hs : ∀ x, foldedSetIterable iter X.env x = pure x := by intro _; rfl) :
    PS X (.Assign [.Name y py] (.ListComp elt [⟨tg, iter, ifs, 0⟩] scope pos) spos) (tS z (fAsgF i (fComp fi t ft fe))) :=
  PS.imp (ps_setLc hc hN hy hyl hsw hi ok hg ht he hs) fun D σ H h => by
    have := asgF_go h
    obtain ⟨A, ts, hA, hp⟩ := this
    rw [hK, ho]
    exact comp_go ⟨A, ts, hA, hp⟩
theorem qts_nil : PTs X [] (tT z fYes) := ⟨fun pins s σ H Q I ⟨A, ts, hA, hp⟩ => pts_nil.run pins s σ H Q I (hp _ hA)⟩
theorem qts_one {c : Expr} {ft : FT} (h : PT X c (tT z ft)) : PTs X [c] (tT z ft) := pts_one h
end

/-! ### a def -/
def runF (n : Nat) (fb : FS) (ds : List D) : Ro := match fb (ds.map some ++ List.replicate (n - ds.length) none) with
  | .ok (.ret (.al _)) _ => .stuck
  | .ok (.ret d) _ => .ok d
  | .ok .next _ => .ok .non
  | .ok _ _ => .stuck
  | .exc c _ => .exc c
  | .stuck => .stuck
/-- .. for so many parameters alone -/
def defF (k n : Nat) (fb : FS) (ds : List D) : Ro := if ds.length = k then runF n fb ds else .stuck
theorem defF_len {k n : Nat} {fb : FS} (ds : List D) (h : defF k n fb ds ≠ .stuck) : ds.length = k := by
  unfold defF at h
  split at h
  · assumption
  · exact absurd rfl h
section
variable {P : Program} {w : World} {K : PySem.W.Frag} {mg : Str → Option Value} {base : Heap}
theorem sls_start {K : Fw} {G H : Hp} : ∀ {vs : List V} {ds : List D} (m : Nat), Rs K G H vs ds [] → Sls K G H (vs.map some ++ List.replicate m none) (ds.map some ++ List.replicate m none) []
  | [], [], 0, _ => .nil
  | [], [], m + 1, r => by
    rw [List.replicate_succ]
    exact .skip (sls_start m r)
  | v :: vs, d :: ds, m, r => by
    generalize hL : ([] : List Addr) = L0 at r
    cases r with
    | cons r t =>
      obtain ⟨e1, e2⟩ := List.append_eq_nil_iff.mp hL.symm
      subst e1; subst e2
      exact Sls.cons r (sls_start m t)
/-- THE RULE for a def: its body as a term of rules over what is told -/
theorem ok_def {x qual : Str} {st : Stmt} {f : Addr} {fd : FuncData} {N ps : List Str} {k np nn : Nat} {cl : Str → Value} {fb : FS} (hnp : ps.length = np) (hnn : N.length = nn) (F : Fun K x qual st f fd) (S : FnScope N ps (defScope st))
    (hbody : ∀ (cdv : Value) (A : Around) (outer : List Env) (s : Shared) (H : Hp) (E : XK) (B : Bs), Room k (A.deeper (envOfC qual (defScope st) s.heap.objs.size f cdv)) →
      Takes (cxOf (L2.CX P w) P w K mg base N qual (defScope st) f cdv A outer s H E) (fun cls d _ H => E cls d H) →
      PassesOwn (model P w) (cxOf (L2.CX P w) P w K mg base N qual (defScope st) f cdv A outer s H E).A (cxOf (L2.CX P w) P w K mg base N qual (defScope st) f cdv A outer s H E).env (cxOf (L2.CX P w) P w K mg base N qual (defScope st) f cdv A outer s H E).xe →
      PSs (cxOf (L2.CX P w) P w K mg base N qual (defScope st) f cdv A outer s H E) (defBody st) (tS ⟨⟨K, w⟩, B, cl, fun cls d _ H => E cls d H⟩ fb)) :
    FnOk P w K mg base (L2.CX P w) (k + 1) f fd ps (spF ⟨K, w⟩ cl np (defF np nn fb)) := by
  subst hnp; subst hnn
  refine F.okX S (fun vs H Q E h => ?_) (fun cdv A outer s H vs Q E hr h => ?_)
  · obtain ⟨G, ds, _, hl, rs, _⟩ := h
    rw [rs.length]; exact hl
  · obtain ⟨G, ds, gh, hl, rs, h⟩ := h
    refine ⟨_, hbody cdv A outer s H E ⟨G, H, []⟩ hr (takes_of rfl rfl rfl rfl) (passes_of rfl), ds.map some ++ List.replicate (N.length - ds.length) none, [], ?_, (fun _ m => nomatch m), ?_⟩
    · refine ⟨G, [], [], ⟨gh, fun _ _ e => e, fun _ _ _ e => e, fun _ _ _ e => e, (fun _ m => nomatch m)⟩, .nil, ?_, List.nodup_nil, (fun _ m => nomatch m)⟩
      unfold L2.start
      rw [rs.length]
      exact sls_start _ rs.unown
    · unfold defF at h
      rw [if_pos hl] at h
      unfold runF at h
      cases eb : fb (ds.map some ++ List.replicate (N.length - ds.length) none) with
      | stuck => rw [eb] at h; exact (show False from h).elim
      | exc c A' =>
        rw [eb] at h
        intro σ' H' h'
        obtain ⟨G', L1, L2, gd, _⟩ := h'
        exact h H' fun a o e => gd.bh a o (fun m => nomatch m) e
      | ok r A' =>
        rw [eb] at h
        have fin : ∀ {d : D} {v : V} {σ' : L2.St} {H' : Hp}, (∀ v H' G' L, Same H H' → Same G G' → Same G' H' → (∀ a, H a ≠ none → G a = none → G' a = none) → R ⟨K, w⟩ G' H' v d L → L.Nodup → (∀ a ∈ L, H a = none) → Q v H') →
            Abs ⟨K, w⟩ ⟨G, H, []⟩ σ' A' ((v, d) :: []) H' → (∀ j, d ≠ .al j) → Q v H' := by
          intro d v σ' H' hq h' nd
          obtain ⟨G', L1, L2, gd, tm, sl, ndp, ow⟩ := h'
          cases tm with
          | al _ _ => exact absurd rfl (nd _)
          | cons r t =>
            rename_i La Lb
            refine hq v H' G' La (fun a o e => gd.bh a o (fun m => nomatch m) e) gd.bg gd.gh (fun a e1 e2 => gd.sep a (fun m => nomatch m) e1 e2) r ?_ fun a ha => ?_
            · rw [List.append_assoc] at ndp; exact (List.nodup_append.mp ndp).1
            · exact (ow a (List.mem_append_left _ (List.mem_append_left _ ha))).resolve_right fun m => nomatch m
        cases r with
        | next => exact fun σ' H' h' => fin h h'.pnon fun j q => nomatch q
        | brk => exact (show False from h).elim
        | cont => exact (show False from h).elim
        | ret d =>
          intro v σ' H' h'
          cases d <;> first | exact (show False from h).elim | exact fin h h' fun j q => nomatch q
end
end Ab
end
section
namespace Ab
open PySem PySem.Spec PyProof.Rows L2

/-! ### methods by values that change nothing -/
def fMt (g : D → List D → Sl → Option D) (fo : FE) (fa : FA) : FE := fun A => (fo A).bind fun d A1 => (fa A1).bind fun ds A2 => match g d ds A2 with
  | some r => .ok r A2
  | none => .stuck
/-- what the receiver must be, seen ahead of the arguments -/
def fMtL (g : D → List D → Sl → Option D) (fo : FE) (fa : FA) : FE := fun A => (fo A).bind fun d A1 => match lsOf (see A1 d) with
  | none => .stuck
  | some _ => (fa A1).bind fun ds A2 => match g d ds A2 with
    | some r => .ok r A2
    | none => .stuck
def MtD (z : Z) (r : V → List V → Hp → VK → Prop) (g : D → List D → Sl → Option D) : Prop :=
  ∀ (σ : L2.St) (A : Sl) (ts : Ts) (H : Hp) (v : V) (d : D) (vs : List V) (ds : List D) (d' : D), vs.length = ds.length → z.A σ A (vs.zip ds ++ (v, d) :: ts) H → g d ds A = some d' → ∀ Q : VK, (∀ w H', z.A σ A ((w, d') :: ts) H' → Q w H') → r v vs H Q
section
variable {z : Z} {X : Cx}
theorem mtL_go {r : V → List V → Hp → VK → Prop} {g : D → List D → Sl → Option D} {fo : FE} {fa : FA} (hd : MtD z r g) {σ : L2.St} {H : Hp} {Q : VK} (h : tE z (fMtL g fo fa) σ H Q) : tBM z.K "list" r (tE z fo) (tA z fa) σ H Q := by
  obtain ⟨A, ts, hA, hp⟩ := h
  refine ⟨A, ts, hA, ?_⟩
  unfold fMtL at hp
  cases ea : fo A with
  | stuck => rw [ea] at hp; exact (show False from hp).elim
  | exc c A1 => rw [ea] at hp; exact hp
  | ok d A1 =>
    rw [ea] at hp
    simp only [Ou.bind_ok] at hp
    intro v H1 h1
    split at hp
    · exact (show False from hp).elim
    · rename_i ls els
      obtain ⟨G, L, gh, rr, _⟩ := h1.open (lsOf_al els)
      obtain ⟨a, xs, _, rfl, sq, _⟩ := rr.list gh els
      refine ⟨.inl ⟨rfl, xs, sq⟩, A1, _, h1, ?_⟩
      cases eb : fa A1 with
      | stuck => rw [eb] at hp; exact (show False from hp).elim
      | exc c A2 => rw [eb] at hp; exact fun H' h' => hp H' h'.drop
      | ok ds A2 =>
        rw [eb] at hp
        simp only [Ou.bind_ok] at hp
        intro vs H2 hl h2
        split at hp
        · rename_i d' eg
          exact hd _ _ _ _ _ _ _ _ _ hl h2 eg Q hp
        · exact (show False from hp).elim
/-! x.index(e) -/
def idxOf (x : PyData) : List PyData → Nat → Option Nat
  | [], _ => none
  | y :: ys, k => if PyData.eqv y x = true then some k else idxOf x ys (k + 1)
theorem idxOf_spec {x : PyData} : ∀ {ys : List PyData} {k j : Nat}, idxOf x ys k = some j → ∃ m y, j = k + m ∧ ys[m]? = some y ∧ PyData.eqv y x = true ∧ ∀ (m' : Nat) y', m' < m → ys[m']? = some y' → PyData.eqv y' x = false
  | [], _, _, h => by simp [idxOf] at h
  | y :: ys, k, j, h => by
    unfold idxOf at h
    split at h
    · rename_i e
      cases h
      exact ⟨0, y, rfl, rfl, e, fun m' _ h => absurd h (Nat.not_lt_zero _)⟩
    · rename_i e
      obtain ⟨m, y', h1, h2, h3, h4⟩ := idxOf_spec h
      refine ⟨m + 1, y', by omega, by simpa using h2, h3, fun m' y2 hm hy => ?_⟩
      cases m' with
      | zero =>
        simp at hy; subst hy
        simpa using e
      | succ m' => exact h4 m' y2 (by omega) (by simpa using hy)
def gIndex (d : D) (ds : List D) (A : Sl) : Option D := match ds with
  | [e] => match lsOf (see A d) with
    | some es => if (okD (see A d) && okD (see A e)) = true then (idxOf (dat (see A e)) (dats es) 0).map fun j => .int (j : Nat) else none
    | none => none
  | _ => none
theorem dat_ls {d : D} {ds : List D} (h : lsOf d = some ds) : dat d = .list (dats ds) := by
  cases d <;> simp only [lsOf] at h <;> cases h <;> simp [dat]
theorem md_index : MtD z (rIndexD z.K) gIndex := by
  intro σ A ts H v d vs ds d' hl h hg Q q
  unfold gIndex at hg
  split at hg
  · rename_i e
    obtain ⟨u, rfl⟩ := call1 hl rfl
    have h : z.A σ A ((u, e) :: (v, d) :: ts) H := h
    split at hg
    · rename_i es hs
      by_cases hk : (okD (see A d) && okD (see A e)) = true
      · rw [if_pos hk] at hg
        rw [Bool.and_eq_true] at hk
        cases hi : idxOf (dat (see A e)) (dats es) 0 with
        | none => rw [hi] at hg; cases hg
        | some j =>
          rw [hi] at hg
          cases hg
          obtain ⟨m, y, e1, h2, h3, h4⟩ := idxOf_spec hi
          obtain ⟨G, L, L', gh, r1, r2, f⟩ := h.open2 (okD_al hk.2) (okD_al hk.1)
          obtain ⟨a, xs, _, rfl, _, _⟩ := r2.list gh hs
          have d2 := r2.dp gh (okD_lay hk.1)
          have s2 : SeqAt.shaped (dat (see A d)) = true := hk.1
          rw [dat_ls hs] at d2 s2
          have e2 : j = m := by omega
          subst e2
          exact ⟨a, u, _, _, j, y, rfl, rfl, d2, r1.dp gh (okD_lay hk.2), s2, hk.2, h2, h3, h4, q _ _ (f.known gh (.int _))⟩
      · rw [if_neg hk] at hg; cases hg
    · cases hg
  · cases hg
theorem qe_index {o e : Expr} {fo : FE} {fa : FA} {apos cpos : Pos} (hu : X.A.units + 65 < cLine) (hK : X.K = z.K) (ho : PE X o (tE z fo)) (he : PA X [e] (tA z fa))
    (hbase : attributeBase o "index" X.env (eval o X.env) = eval o X.env := by rfl)
    (hfew : ((backTo cpos (starEach [e] X.env)).all (fun x => !x.1) && (backToKw cpos (keywordEach [] X.env)).all (fun x => x.1.isSome)
      && decide ([e].length + ([] : List Keyword).length + (if ([] : List Keyword).isEmpty then 0 else 1) < 30)) = true := by rfl)
    (hline : (apos.endLine == cpos.line) = true := by rfl) (hs : starEach [e] X.env = (false, eval e X.env) :: starEach [] X.env := by rfl) (hplain : (backTo cpos (starEach [] X.env)).any (·.1) = false := by rfl) :
    PE X (.Call (.Attribute o "index" apos) [e] [] cpos) (tE z (fMtL gIndex fo fa)) :=
  PE.imp (pe_bm PySem.F.plainAttrs_list PySem.F.slot_list_index PySem.F.type_list_index (mt_indexD hu) ho he hbase hfew hline hs hplain) fun _ _ _ h => by rw [hK]; exact mtL_go (by rw [← hK]; rw [hK]; exact md_index) h

/-! ### sugar for printed terms -/
theorem qv (i : Nat) {x : Str} {pos : Pos} (hN : X.N[i]? = some x := by rfl) (hv : Vis X.env.scope x := by first | exact Or.inl rfl | exact Or.inr (Or.inl rfl) | exact Or.inr (Or.inr rfl)) (hd : (x == ("__debug__" : Str)) = false := by decide)
    (hcd : (x == ("__classdict__" : Str)) = false := by decide) : PE X (.Name x pos) (tE z (fVar i)) := qe_var (pv i hN hv hd hcd)
theorem hu64 {k : Nat} {A : Around} (r : Room k A) : A.units + 64 < cLine := r.units
theorem hu65 {k : Nat} {A : Around} (r : Room k A) : A.units + 65 < cLine := by have := r.un; omega
end
/-- the law's end, from its plain function -/
theorem law_sp {K : Fw} {cl : Str → Value} {F : List D → Ro} {H : Hp} {a : Addr} {ns : List Int} (hF : F [.fro (ns.map D.int)] = .ok (.bl true)) (hS : SqL K H a (ns.map V.int)) : spF K cl 1 F [.ref a] H (fun v _ => v = .bl true) fun _ _ _ => False := by
  have allI : ∀ ns : List Int, Rs K H H (ns.map V.int) (ns.map D.int) [] := by
    intro ns
    induction ns with
    | nil => exact .nil
    | cons n ns ih => exact Rs.cons (.int n) ih
  refine ⟨H, [.fro (ns.map D.int)], fun _ _ e => e, rfl, by simpa using Rs.one (.fro hS (allI ns)), ?_⟩
  rw [hF]
  intro v H' G' L _ _ _ _ r _ _
  cases r
  rfl
theorem law_cx {P : Program} {w : World} {H : Hp} {s : Shared} {e : Value} {s' : Shared} (h : L2.CX P w [] H s (fun _ _ _ => False) e s') : False := by
  obtain ⟨_, _, _, _, _, _, _, _, _, _, _, _, h⟩ := h
  exact h
end Ab
end
section
namespace Ab
open PySem PySem.Spec PyProof.Rows L2

/-! ### slices with a step -/
def pickAt {α : Type} (js : List Nat) (xs : List α) : List α := js.filterMap (xs[·]?)
def pickJs (lo hi st : Option Int) (n : Nat) : List Nat := sliceRange (sliceBounds lo hi st n).1 (sliceBounds lo hi st n).2.1 (sliceBounds lo hi st n).2.2
def pickG {α : Type} (xs : List α) (lo hi st : Option Int) : List α := pickAt (pickJs lo hi st xs.length) xs
theorem slicePick_G (xs : List Value) (lo hi st : Option Int) : slicePick xs.toArray lo hi st = (pickG xs lo hi st).toArray := by
  unfold slicePick pickG pickAt pickJs
  simp only [List.size_toArray, List.getElem?_toArray]
theorem valsPick {xs : List V} {us : List Value} (r : Vals xs us) : ∀ js : List Nat, Vals (pickAt js xs) (pickAt js us)
  | [] => .nil
  | j :: js => by
    have ih := valsPick r js
    unfold pickAt at ih ⊢
    cases e : xs[j]? with
    | none => rw [List.filterMap_cons_none e, List.filterMap_cons_none (r.none_of e)]; exact ih
    | some x =>
      obtain ⟨u, h1, h2⟩ := r.get e
      rw [List.filterMap_cons_some e, List.filterMap_cons_some h1]
      exact .cons h2 ih
theorem rsPick {K : Fw} {G H : Hp} {xs : List V} {ds : List D} (r : Rs K G H xs ds []) : ∀ js : List Nat, Rs K G H (pickAt js xs) (pickAt js ds) []
  | [] => .nil
  | j :: js => by
    have ih := rsPick r js
    unfold pickAt at ih ⊢
    cases e : xs[j]? with
    | none =>
      have l := r.length
      have h2 : xs.length ≤ j := List.getElem?_eq_none_iff.mp e
      rw [List.filterMap_cons_none e, List.filterMap_cons_none (List.getElem?_eq_none_iff.mpr (by omega))]
      exact ih
    | some x =>
      obtain ⟨d, Li, h1, h2, h3⟩ := r.get e
      have e3 := List.sublist_nil.mp h3
      subst e3
      rw [List.filterMap_cons_some e, List.filterMap_cons_some h1]
      exact .cons h2 ih
theorem pickG_le (xs : List V) (us : List Value) (r : Vals xs us) (lo hi st : Option Int) : (pickG xs lo hi st).length ≤ us.length := by
  have h := slicePick_size_le us.toArray lo hi st
  rw [slicePick_G, List.size_toArray, List.size_toArray] at h
  have e : (pickG xs lo hi st).length = (pickG us lo hi st).length := by
    have := (valsPick r (pickJs lo hi st us.length)).length
    unfold pickG
    rw [r.length]
    exact this
  omega
def SlR3 (X : Cx) (r : V → Option Int → Option Int → Option Int → Hp → VK → Prop) : Prop :=
  ∀ (pins : List (Addr × Obj)) (s : Shared) (σ : L2.St) (H : Hp) (x : V) (v vl vu vt : Value) (lo hi st : Option Int) (sl : Addr) (Q : VK), Inv X pins σ H s → RelV x v → s.heap.IsSliceOf sl vl vu vt → IsPart vl lo → IsPart vu hi → IsPart vt st → r x lo hi st H Q →
    ∃ T id, typeLookup (.type T) "__getitem__" = pure (some (.builtin id)) ∧ s.TypeIs v T ∧ wpAny (model X.prog X.w) X.A (getItem v (.ref sl)) (EP X pins σ Q) X.xe s
section
variable {X : Cx}
theorem SlR3.or {r r' : V → Option Int → Option Int → Option Int → Hp → VK → Prop} (h : SlR3 X r) (h' : SlR3 X r') : SlR3 X (fun x lo hi st H Q => r x lo hi st H Q ∨ r' x lo hi st H Q) := by
  intro pins s σ H x v vl vu vt lo hi st sl Q I rx hs pl pu pt q
  rcases q with q | q
  · exact h pins s σ H x v vl vu vt lo hi st sl Q I rx hs pl pu pt q
  · exact h' pins s σ H x v vl vu vt lo hi st sl Q I rx hs pl pu pt q
def tSl3 (r : V → Option Int → Option Int → Option Int → Hp → VK → Prop) (te : TE) (tl th tt : TO) : TE := fun σ H Q => te σ H fun x H1 => tl σ H1 fun l H2 => th σ H2 fun u H3 => tt σ H3 fun t H4 => r x l u t H4 Q
theorem pe_slice3 {e st : Expr} {te : TE} {lo hi : Option Expr} {tl th tt : TO} {pos p2 : Pos} {r : V → Option Int → Option Int → Option Int → Hp → VK → Prop} (hr : SlR3 X r) (he : PE X e te) (hl : PO X lo tl) (hu : PO X hi th) (ht : PO X (some st) tt) : PE X (.Subscript e (.Slice lo hi (some st) p2) pos) (tSl3 r te tl th tt) := by
  refine ⟨fun pins s σ H Q I h => ?_⟩
  refine Subscript_ (thn (he.run pins s σ H _ I h) fun v s1 ⟨x, H1, I1, r1, q1⟩ => ?_)
  refine wpAny_Slice (thn (hl.run pins s1 σ H1 _ I1 q1) fun vl s2 ⟨l, H2, I2, pl, q2⟩ => thn (hu.run pins s2 σ H2 _ I2 q2) fun vu s3 ⟨u, H3, I3, pu, q3⟩ => thn (ht.run pins s3 σ H3 _ I3 q3) fun vt s4 ⟨t, H4, I4, pt, q4⟩ => ?_)
  have I5 : Inv X pins σ H4 { s4 with heap := s4.heap.push { cls := .type "slice", data := .fields #[vl, vu, vt] } } := I4.kept (t' := s4.toks) fun b ob q => Heap.get?_push_of_some _ q
  obtain ⟨T, id, hT, hh, hg⟩ := hr pins { s4 with heap := s4.heap.push { cls := .type "slice", data := .fields #[vl, vu, vt] } } σ H4 x v vl vu vt l u t s4.heap.objs.size Q I5 r1 (Heap.IsSliceOf.new ..) pl pu pt q4
  show wpAny (model X.prog X.w) X.A (subscriptTail e (.Slice lo hi (some st) p2) v (.ref s4.heap.objs.size)) (EP X pins σ Q) X.xe { s4 with heap := s4.heap.push { cls := .type "slice", data := .fields #[vl, vu, vt] } }
  exact tail_any (ops := [v, .ref s4.heap.objs.size]) hh hT hg (by with_unfolding_all rfl)
def rSl3L (K : PySem.W.Frag) : V → Option Int → Option Int → Option Int → Hp → VK → Prop := fun x lo hi st H Q => ∃ a xs, x = .ref a ∧ SqL K H a xs ∧ st ≠ some 0 ∧ ∀ p, H p = none → Q (.ref p) (upd H p (.lst (pickG xs lo hi st)))
theorem sl3_list : SlR3 X (rSl3L X.K) := by
  intro pins s σ H x v vl vu vt lo hi st sl Q I rx hs pl pu pt h
  obtain ⟨a, xs, rfl, hx, h0, q⟩ := h
  cases rx
  obtain ⟨its, r, ht, hz⟩ := I.list hx
  have hlen := r.length
  refine ⟨"list", _, slot_list_getitem.lookup, ht.isList.typeIs, ?_⟩
  refine wpAny_getItem_list_slice ht.isList hs pl pu pt h0 ?_ (by rw [List.size_toArray] <;> omega)
  rw [slicePick_G]
  refine ⟨.ref s.heap.objs.size, _, I.laid (t' := s.toks) (o := .lst (pickG xs lo hi st)) (fun b ob q => Heap.get?_push_of_some _ q) (Nat.le_refl _) ?_, rfl, q _ (I.hok.fresh (Nat.le_refl _))⟩
  refine ⟨Nat.le_trans (pickG_le xs its r lo hi st) (hlen ▸ hz), _, 0, ?_, Heap.get?_push_size _ rfl⟩
  unfold pickG
  rw [hlen]
  exact valsPick r _

/-! t[::-1] -/
theorem filterMap_same {α β : Type} {f g : α → Option β} : ∀ {xs : List α}, (∀ x ∈ xs, f x = g x) → xs.filterMap f = xs.filterMap g
  | [], _ => rfl
  | x :: xs, h => by
    rw [List.filterMap_cons, List.filterMap_cons, h x (List.mem_cons_self), filterMap_same fun y hy => h y (List.mem_cons_of_mem _ hy)]
theorem revPick (xs : List Value) : ((List.range xs.length).filterMap fun (m : Nat) => xs.toArray[(((xs.length : Int) - 1) + (m : Int) * (-1)).toNat]?).toArray = xs.reverse.toArray := by
  congr 1
  rw [filterMap_same (g := fun m => xs.reverse[m]?)]
  · have := pick_run xs.reverse.toArray 0 xs.length
    simp only [Nat.zero_add, List.getElem?_toArray] at this
    rw [List.map_id'] at this
    rw [this]
    simp only [List.drop_zero]
    rw [List.take_of_length_le (by simp)]
  · intro m hm
    have h1 : m < xs.length := List.mem_range.mp hm
    rw [List.getElem?_toArray, List.getElem?_reverse h1]
    congr 1
    omega
theorem adjust_rev (n : Nat) : Builtin.Slice.sliceAdjust none none (-1) (n : Int) = ((n : Int) - 1, -1) := by
  unfold Builtin.Slice.sliceAdjust
  simp only [show ((-1 : Int) < 0) from by decide, if_true]
theorem places_rev (n : Nat) : Builtin.Slice.slicePlaces ((n : Int) - 1) (-1) (-1) = n := by
  unfold Builtin.Slice.slicePlaces
  simp only [show ¬ ((-1 : Int) > 0) from by decide, if_false, show (-(-1) : Int) = 1 from by decide, Int.ediv_one]
  split <;> omega
section
variable {prog : Program} {w : World} {A : Around} {E : Value → Shared → Prop} {s : Shared}
theorem sliceApplied_rev {sl : Addr} {t : Tok} {n : Nat} {Q : Int × Int × Nat → Shared → Prop} (hs : s.heap.IsSliceOf sl .none .none (.int (-1) t))
    (h : Q ((n : Int) - 1, -1, n) s) : wpAny (model prog w) A (Builtin.Slice.sliceApplied (.ref sl) (pure (n : Int))) Q E s := by
  obtain ⟨os, hos, hcs, hds⟩ := id hs
  unfold Builtin.Slice.sliceApplied Builtin.Slice.sliceFields
  refine wpAny_bind (wpAny_bind (wpAny_field hos hds (x := .none) rfl (wpAny_bind (wpAny_field hos hds (x := .none) rfl (wpAny_bind (wpAny_field hos hds (x := .int (-1) t) rfl (wpAny_pure ?_)))))))
  refine wpAny_bind (slicePart_int ?_)
  show wpAny _ _ (if ((-1 : Int) == 0) = true then _ else _) _ _ s
  rw [if_neg (by decide)]
  refine wpAny_bind (slicePart_none (wpAny_bind (slicePart_none (wpAny_bind (wpAny_pure ?_)))))
  show wpAny _ _ (match Builtin.Slice.sliceAdjust none none (-1) (n : Int) with | (lo, hi) => pure (lo, (-1 : Int), Builtin.Slice.slicePlaces lo hi (-1))) _ _ s
  rw [adjust_rev n]
  show wpAny _ _ (pure ((n : Int) - 1, (-1 : Int), Builtin.Slice.slicePlaces ((n : Int) - 1) (-1) (-1))) _ _ s
  rw [places_rev]
  exact wpAny_pure h
theorem getItem_tuple_rev {t sl : Addr} {xs : List Value} {tk : Tok} {Q : Value → Shared → Prop} (ht : IsTup s.heap t xs.toArray) (hs : s.heap.IsSliceOf sl .none .none (.int (-1) tk))
    (h : Q (.ref s.heap.objs.size) { s with heap := s.heap.push { cls := .type "tuple", data := .seq xs.reverse.toArray } })
    (hsz : xs.toArray.size ≤ sizeLine) : wpAny (model prog w) A (getItem (.ref t) (.ref sl)) Q E s := by
  have htake : sizeOk (.seq xs.reverse.toArray) := by
    show xs.reverse.toArray.size ≤ sizeLine
    rw [List.size_toArray, List.length_reverse]
    rw [List.size_toArray] at hsz
    exact hsz
  obtain ⟨os, hos, hcs, hds⟩ := id hs
  have hTs : s.TypeIs (.ref sl) "slice" := ⟨os, hos, hcs⟩
  unfold getItem
  try with_reducible refine wpAny_holding ?_
  first | refine wpAny_bind (wpAny_pure ?_) | skip
  refine wpAny_bind (wpAny_sequenceKey ht.typeIs (by decide) ?_)
  refine wpAny_bind (wpAny_callSpecial?_slot (name := Str.ofString "__getitem__") ht.typeIs PyProof.Rows.slot_tuple_getitem
    (wpAny_call_entry PyProof.Rows.slot_tuple_getitem ht.typeIs PyProof.Rows.entry_tuple_getitem ?_ (PyProof.Rows.args_tuple_getitem _ _)))
  show wpAny _ _ (Builtin.Tuple.tupleItemsOf (.ref t) >>= _) _ _ s
  refine wpAny_bind (PyProof.Rows.tupleItemsOf_ ht ?_)
  refine wpAny_bind (wpAny_typeOf hTs ?_)
  rw [if_pos (by decide)]
  refine wpAny_bind (sliceApplied_rev (n := xs.toArray.size) hs ?_)
  have hno : ¬ ((((xs.toArray.size : Int) - 1) == 0 && (-1 : Int) == 1 && xs.toArray.size == xs.toArray.size) = true) := by
    intro q
    rw [Bool.and_eq_true, Bool.and_eq_true] at q
    exact absurd q.1.2 (by decide)
  show wpAny _ _ (if (((xs.toArray.size : Int) - 1) == 0 && (-1 : Int) == 1 && xs.toArray.size == xs.toArray.size) = true then _ else _) _ _ s
  rw [if_neg hno, List.size_toArray, revPick]
  first
    | exact wpAny_bind (m := Builtin.Tuple.tupleExact _) (wpAny_newObj_type (wpAny_pure ⟨_, rfl, wpAny_pure h⟩) htake)
    | exact wpAny_bind (m := Builtin.Tuple.tupleExact _) (wpAny_newObj_type (wpAny_bind (wpAny_pure (wpAny_pure ⟨_, rfl, wpAny_pure h⟩))) htake)
    | exact wpAny_bind (wpAny_bind (m := Builtin.Tuple.tupleExact _) (wpAny_newObj_type (wpAny_pure (wpAny_pure ⟨_, rfl, wpAny_pure h⟩)) htake))
    | exact wpAny_bind (wpAny_bind (m := Builtin.Tuple.tupleExact _) (wpAny_newObj_type (wpAny_pure ⟨_, rfl, wpAny_pure h⟩) htake))
end
theorem valsRev : ∀ {xs : List V} {us : List Value}, Vals xs us → Vals xs.reverse us.reverse
  | _, _, .nil => .nil
  | _, _, .cons r t => by rw [List.reverse_cons, List.reverse_cons]; exact Vals.append (valsRev t) (.cons r .nil)
def rSl3T (K : PySem.W.Frag) : V → Option Int → Option Int → Option Int → Hp → VK → Prop := fun x lo hi st H Q => ∃ a xs, x = .ref a ∧ SqT K H a xs ∧ lo = none ∧ hi = none ∧ st = some (-1) ∧ ∀ p, H p = none → Q (.ref p) (upd H p (.tup xs.reverse))
theorem sl3_tup : SlR3 X (rSl3T X.K) := by
  intro pins s σ H x v vl vu vt lo hi st sl Q I rx hs pl pu pt h
  obtain ⟨a, xs, rfl, hx, rfl, rfl, rfl, q⟩ := h
  cases rx
  cases pl
  cases pu
  cases pt
  obtain ⟨its, r, ht, hz⟩ := I.tuple hx
  have hlen := r.length
  refine ⟨"tuple", _, PyProof.Rows.slot_tuple_getitem.lookup, ht.typeIs, ?_⟩
  refine getItem_tuple_rev ht hs ?_ (by rw [List.size_toArray] <;> omega)
  refine ⟨.ref s.heap.objs.size, _, I.laid (t' := s.toks) (o := .tup xs.reverse) (fun b ob q => Heap.get?_push_of_some _ q) (Nat.le_refl _) ?_, rfl, q _ (I.hok.fresh (Nat.le_refl _))⟩
  exact ⟨by rw [List.length_reverse]; exact hz, _, valsRev r, IsTup.new _ _⟩
theorem rsRev {K : Fw} {G H : Hp} : ∀ {xs : List V} {ds : List D}, Rs K G H xs ds [] → Rs K G H xs.reverse ds.reverse [] := by
  intro xs ds r
  have h := r.length
  have e1 : xs.reverse = pickAt (List.range xs.length).reverse xs := by
    unfold pickAt
    rw [List.filterMap_reverse]
    congr 1
    have := pick_run xs.toArray 0 xs.length
    simp only [Nat.zero_add, List.getElem?_toArray] at this
    rw [List.map_id'] at this
    rw [this]
    simp
  have e2 : ds.reverse = pickAt (List.range xs.length).reverse ds := by
    unfold pickAt
    rw [List.filterMap_reverse]
    congr 1
    have := pick_run ds.toArray 0 xs.length
    simp only [Nat.zero_add, List.getElem?_toArray] at this
    rw [List.map_id'] at this
    rw [this, h]
    simp
  rw [e1, e2]
  exact rsPick r _
def gSlS (d : D) (lo hi st : Option Int) (A : Sl) : Option D := match see A d with
  | .tup ds => if isFs ds = true ∧ lo = none ∧ hi = none ∧ st = some (-1) then some (.tup ds.reverse) else none
  | s => match lsOf s with
    | some ds => if isFs ds = true ∧ st ≠ some 0 then some (.mu (pickG ds lo hi st)) else none
    | none => none
def fSlS (fe : FE) (fl fh ft : FO) : FE := fun A => (fe A).bind fun d A1 => (fl A1).bind fun l A2 => (fh A2).bind fun h A3 => (ft A3).bind fun t A4 => match gSlS d l h t A4 with
  | some r => .ok r A4
  | none => .stuck
def rSl3 (K : PySem.W.Frag) : V → Option Int → Option Int → Option Int → Hp → VK → Prop := fun x lo hi st H Q => rSl3L K x lo hi st H Q ∨ rSl3T K x lo hi st H Q
theorem sl3_any : SlR3 X (rSl3 X.K) := sl3_list.or sl3_tup
end
section
variable {z : Z} {X : Cx}
theorem sld3 {σ : L2.St} {A : Sl} {ts : Ts} {H : Hp} {v : V} {d d' : D} {lo hi st : Option Int} (h : z.A σ A ((v, d) :: ts) H) (hg : gSlS d lo hi st A = some d') (Q : VK) (q : ∀ w H', z.A σ A ((w, d') :: ts) H' → Q w H') : rSl3 z.K v lo hi st H Q := by
  unfold gSlS at hg
  split at hg
  · rename_i ds hx
    split at hg
    · rename_i hl
      obtain ⟨hl, rfl, rfl, rfl⟩ := hl
      cases hg
      obtain ⟨G, L, gh, r, f⟩ := h.open (fun j z => by rw [z] at hx; cases hx)
      rw [hx] at r
      cases r with | tup q1 s1 =>
      have e1 := s1.isFs hl
      subst e1
      exact .inr ⟨_, _, rfl, .inl (.inl (gh _ _ q1)), rfl, rfl, rfl, fun p hp => q _ _ (f.tup gh (rsRev s1) hp)⟩
    · cases hg
  · split at hg
    · rename_i ds hs
      split at hg
      · rename_i hl
        obtain ⟨hl, h0⟩ := hl
        cases hg
        obtain ⟨G, L, gh, r, f⟩ := h.open (lsOf_al hs)
        obtain ⟨a, xs, M, rfl, k1, s1⟩ := r.list gh hs
        have e1 := s1.isFs hl
        subst e1
        refine .inl ⟨a, xs, rfl, k1, h0, fun p hp => q _ _ (f.lst gh ?_ hp)⟩
        unfold pickG
        rw [s1.length]
        exact rsPick s1 _
      · cases hg
    · cases hg
theorem qe_sliceS {e st : Expr} {lo hi : Option Expr} {fe : FE} {fl fh ft : FO} {pos p2 : Pos} (hK : X.K = z.K) (he : PE X e (tE z fe)) (hl : PO X lo (tO z fl)) (hh : PO X hi (tO z fh)) (ht : PO X (some st) (tO z ft)) : PE X (.Subscript e (.Slice lo hi (some st) p2) pos) (tE z (fSlS fe fl fh ft)) := by
  refine PE.imp (pe_slice3 sl3_any he hl hh ht) fun σ H Q ⟨A, ts, ha, hp⟩ => ⟨A, ts, ha, ?_⟩
  unfold fSlS at hp
  cases ea : fe A with
  | stuck => rw [ea] at hp; exact hp.elim
  | exc c A1 => rw [ea] at hp; exact hp
  | ok d A1 =>
    rw [ea] at hp
    simp only [Ou.bind_ok] at hp
    intro v H1 h1
    refine ⟨A1, (v, d) :: ts, h1, ?_⟩
    cases eb : fl A1 with
    | stuck => rw [eb] at hp; exact hp.elim
    | exc c A2 => rw [eb] at hp; exact fun H' h' => hp H' h'.drop
    | ok l A2 =>
      rw [eb] at hp
      simp only [Ou.bind_ok] at hp
      intro H2 h2
      refine ⟨A2, (v, d) :: ts, h2, ?_⟩
      cases ec : fh A2 with
      | stuck => rw [ec] at hp; exact hp.elim
      | exc c A3 => rw [ec] at hp; exact fun H' h' => hp H' h'.drop
      | ok hh A3 =>
        rw [ec] at hp
        simp only [Ou.bind_ok] at hp
        intro H3 h3
        refine ⟨A3, (v, d) :: ts, h3, ?_⟩
        cases ed : ft A3 with
        | stuck => rw [ed] at hp; exact hp.elim
        | exc c A4 => rw [ed] at hp; exact fun H' h' => hp H' h'.drop
        | ok tt A4 =>
          rw [ed] at hp
          simp only [Ou.bind_ok] at hp
          intro H4 h4
          cases eg : gSlS d l hh tt A4 with
          | none => rw [eg] at hp; exact hp.elim
          | some d' =>
            rw [eg] at hp
            rw [hK]
            exact sld3 h4 eg Q hp
end
end Ab
end
section
namespace Ab
open PySem PySem.Spec PyProof.Rows L2

/-! ### a list inside an owned list, changed through another name -/
section
variable {K : Fw} {B : Bs} {G H : Hp} {σ : L2.St} {A : Sl} {ts : Ts}
theorem Rs.pick : ∀ {vs : List V} {ds : List D} {L : List Addr} {j : Nat} {es : List D}, Rs K G H vs ds L → ds[j]? = some (.mu es) → ∃ p ws Le N, vs[j]? = some (.ref p) ∧ H p = some (.lst ws) ∧ G p = none ∧ Rs K G H ws es Le ∧ L.Perm ((p :: Le) ++ N) ∧
    (∀ H' e' L', R K G H' (.ref p) e' L' → (∀ a ∈ N, H' a = H a ∧ G a = none) → ∃ M, Rs K G H' vs (ds.set j e') M ∧ M.Perm (L' ++ N))
  | _, _, _, _, _, .nil, e => by simp at e
  | _, _, _, 0, es, .cons (L := La) (L' := Lb) r t, e => by
    simp at e
    subst e
    cases r with
    | mu q gp rs => exact ⟨_, _, _, Lb, rfl, q, gp, rs, .refl _, fun H' e' L' r' h => ⟨L' ++ Lb, .cons r' (t.mono (fun _ _ e => e) h), .refl _⟩⟩
  | _, _, _, j + 1, es, .cons (L := La) (L' := Lb) r t, e => by
    obtain ⟨p, ws, Le, N, h1, h2, h3, h4, h5, h6⟩ := Rs.pick (j := j) t (by simpa using e)
    refine ⟨p, ws, Le, La ++ N, by simpa using h1, h2, h3, h4, ?_, fun H' e' L' r' h => ?_⟩
    · refine (List.Perm.append_left _ h5).trans ?_
      rw [← List.append_assoc, ← List.append_assoc]
      exact List.Perm.append_right _ List.perm_append_comm
    · obtain ⟨M, m1, m2⟩ := h6 H' e' L' r' fun a ha => h a (List.mem_append_right _ ha)
      refine ⟨La ++ M, .cons (r.mono (fun _ _ e => e) fun a ha => h a (List.mem_append_left _ ha)) m1, ?_⟩
      refine (List.Perm.append_left _ m2).trans ?_
      rw [← List.append_assoc, ← List.append_assoc]
      exact List.Perm.append_right _ List.perm_append_comm
theorem Abs.nest {v : V} {ds es : List D} {j : Nat} (h : Abs K B σ A ((v, .mu ds) :: ts) H) (hj : ds[j]? = some (.mu es)) (he : isFs es = true) : ∃ q vs p ws G, v = .ref q ∧ H q = some (.lst vs) ∧ vs.length = ds.length ∧ vs[j]? = some (.ref p) ∧ H p = some (.lst ws) ∧ Rs K G H ws es [] ∧
    ∀ (y : V) (e' : D) (u : Nat), (∀ G H, R K G H y e' []) → Abs K B σ A ((v, .mu (ds.set j (.mu (es.set u e')))) :: ts) (upd H p (.lst (ws.set u y))) := by
  obtain ⟨G, L1, L2, gd, tm, sl, nd, ow⟩ := h
  cases tm with
  | cons r2 t =>
    rename_i Lp Lt
    cases r2 with
    | mu hq gp rs =>
      rename_i q vs L
      obtain ⟨p, ws, Le, N, h1, h2, h3, h4, h5, h6⟩ := rs.pick hj
      have e0 := h4.isFs he
      subst e0
      refine ⟨q, vs, p, ws, G, rfl, hq, rs.length, h1, h2, h4, fun y e' u hr => ?_⟩
      have pm : L.Perm (p :: N) := by simpa using h5
      have pp : (((q :: L) ++ Lt) ++ L2).Perm (((q :: p :: N) ++ Lt) ++ L2) := List.Perm.append_right _ (List.Perm.append_right _ (List.Perm.cons _ pm))
      have nd2 := nodup_perm pp nd
      have ow2 : ∀ a ∈ ((q :: p :: N) ++ Lt) ++ L2, Own B a := fun a ha => ow a (pp.mem_iff.mpr ha)
      have qn : q ∉ (p :: N ++ Lt) ++ L2 := (List.nodup_cons.mp nd2).1
      have pn : p ∉ (N ++ Lt) ++ L2 := (List.nodup_cons.mp (List.nodup_cons.mp nd2).2).1
      have qp : q ≠ p := fun z => qn (by rw [z]; simp)
      have old : ∀ a ∈ (N ++ Lt) ++ L2, G a = none := fun a ha => by
        rcases List.mem_append.mp ha with m | m
        · rcases List.mem_append.mp m with m | m
          · exact (rs.own a (pm.mem_iff.mpr (List.mem_cons_of_mem _ m))).1
          · exact (t.own a m).1
        · exact (sl.own a m).1
      have keep : ∀ a ∈ (N ++ Lt) ++ L2, upd H p (.lst (ws.set u y)) a = H a ∧ G a = none := fun a ha => ⟨upd_ne (fun z => pn (by rw [← z]; exact ha)), old a ha⟩
      have wr : Rs K G (upd H p (.lst (ws.set u y))) (ws.set u y) (es.set u e') [] := by
        have h7 : Rs K G (upd H p (.lst (ws.set u y))) ws es [] := h4.mono (fun _ _ e => e) fun a ha => nomatch ha
        by_cases hu : u < es.length
        · obtain ⟨M, N', m1, m2, m3⟩ := Rs.setAt (j := u) h7 (hr G _) hu
          have n0 := List.sublist_nil.mp m3
          subst n0
          have m0 : M = [] := by simpa using m2
          subst m0
          exact m1
        · have e1 : ws.set u y = ws := List.set_eq_of_length_le (by rw [h4.length]; omega)
          have e2 : es.set u e' = es := List.set_eq_of_length_le (by omega)
          rw [e1] at h7 ⊢
          rw [e2]
          exact h7
      obtain ⟨M, m1, m2⟩ := h6 (upd H p (.lst (ws.set u y))) (.mu (es.set u e')) [p] (.mu upd_same h3 wr) fun a ha => keep a (by simp [ha])
      have ownp : Own B p := ow2 p (by simp)
      have pq : (((q :: M) ++ Lt) ++ L2).Perm (((q :: p :: N) ++ Lt) ++ L2) := List.Perm.append_right _ (List.Perm.append_right _ (List.Perm.cons _ (by simpa using m2)))
      refine ⟨G, (q :: M) ++ Lt, L2, ⟨fun a o h => ?_, gd.bg, fun a o hx h => ?_, gd.sep, fun a ha => ?_⟩, .cons (.mu ((upd_ne qp).trans hq) gp m1) (t.mono (fun _ _ e => e) fun a ha => keep a (by simp [ha])), sl.mono (fun _ _ e => e) fun a ha => keep a (by simp [ha]), nodup_perm pq.symm nd2, fun a ha => ow2 a (pq.mem_iff.mp ha)⟩
      · have : a ≠ p := fun z => by rw [z, h3] at h; cases h
        rw [upd_ne this]; exact gd.gh a o h
      · have : a ≠ p := fun z => by
          subst z
          rcases ownp with n | n
          · rw [n] at h; cases h
          · exact hx n
        rw [upd_ne this]; exact gd.bh a o hx h
      · by_cases z : a = p
        · rw [z, upd_same]; exact fun z => nomatch z
        · rw [upd_ne z]; exact gd.alive a ha
/-- a slot of which nothing is told may hold anything -/
theorem Abs.anySlot {i : Nat} {o : Option V} (h : Abs K B σ A ts H) (e : A[i]? = some none) (c : Cl ts) : Abs K B (σ.set i o) A ts H := by
  obtain ⟨G, L1, L2, gd, tm, sl, nd, ow⟩ := h
  exact ⟨G, L1, L2, gd, tm.any c, sl.any (.inl e), nd, ow⟩
theorem Abs.litInt {k : Int} (h : Abs K B σ A ts H) : Abs K B σ A ((.int k, .int k) :: ts) H := by
  obtain ⟨G, L1, L2, gd, tm, sl, nd, ow⟩ := h
  exact ⟨G, [] ++ L1, L2, gd, .cons (.int k) tm, sl, nd, ow⟩
theorem Abs.lens (h : Abs K B σ A ts H) : σ.length = A.length := by
  obtain ⟨G, L1, L2, gd, tm, sl, nd, ow⟩ := h
  exact sl.len
end
/-- b = xs[e]; a = m // c % len(ls); b[a] = 1 - b[a] -/
def fBag (i b a n l : Nat) (c : Int) (fe1 : FE) : FS := fun A => match slotL i A with
  | none => .stuck
  | some _ => (fe1 A).bind fun k A1 => match k, slotL i A1, A1[n]?, A1[l]? with
    | .int k, some ds, some (some (.int m)), some (some (.lst ls)) => match ixN ds.length k with
      | some j => match ds[j]? with
        | some (.mu es) => if isFs es = true ∧ cDiv m c = true ∧ 0 < ls.length ∧ b < A1.length ∧ a < A1.length then match ixN es.length (m / c % (ls.length : Int)) with
            | some u => match es[u]? with
              | some (.int w) => .ok .next (((A1.set i (some (.mu (ds.set j (.mu (es.set u (.int (1 - w)))))))).set b none).set a (some (.int (m / c % (ls.length : Int)))))
              | _ => .stuck
            | none => .stuck
          else .stuck
        | _ => .stuck
      | none => .stuck
    | _, _, _, _ => .stuck
section
variable {z : Z} {X : Cx} {fe : FE}
def rLenX (K : PySem.W.Frag) : List V → Hp → VK → Prop := fun xs H Q => ∃ x n, xs = [x] ∧ LenV K x H n ∧ Q (.int n) H
theorem bag_go {i b a n l : Nat} {c : Int} {D : Ends} {σ : L2.St} {H : Hp} (hd : n ≠ b ∧ l ≠ b ∧ a ≠ b ∧ i ≠ b ∧ i ≠ a) (h : tS z (fBag i b a n l c fe) D σ H) :
    tSeq (tAsg (tOp (rIxL z.K) (tVar i) (tE z fe)) (gName b)) (tSeq (tAsg (tOp (rI (fun _ j => 0 < j) fun i j => .int (i % j)) (tOp (rI CDivW fun i j => .int (i / j)) (tVar n) (L2.tC (.int c))) (tCB (rLenX z.K) (L2.tCons (tVar l) L2.tNil))) (gName a))
      (tAsg (tOp (rI0 fun i j => .int (i - j)) (L2.tC (.int 1)) (tOp (rIxL z.K) (tVar b) (tVar a))) (gSub (tVar b) (tVar a) rSetL))) D σ H := by
  obtain ⟨A, ts, hA, cl, hp⟩ := h
  unfold fBag at hp
  split at hp
  · exact (pS_stuck hp).elim
  · rename_i ds0 e0
    obtain ⟨p0, xs0, ev, hp0, _, h1⟩ := hA.slotAl (slotL_get e0)
    refine ⟨.ref p0, ev, A, (.ref p0, .al i) :: ts, h1, ?_⟩
    cases ea : fe A with
    | stuck => rw [ea] at hp; exact (pS_stuck hp).elim
    | exc c A1 => rw [ea] at hp; exact fun H' h' => hp σ H' h'.drop
    | ok k A1 =>
      rw [ea] at hp
      simp only [Ou.bind_ok] at hp
      intro y H1 h2
      split at hp
      · rename_i k ds m ls es_ en el
        split at hp
        · rename_i j ej
          split at hp
          · rename_i es ed
            split at hp
            · rename_i hc
              obtain ⟨he, hdv, hls, hb, ha⟩ := hc
              split at hp
              · rename_i u eu
                split at hp
                · rename_i w ew
                  have ey := h2.int
                  subst ey
                  have h3 := h2.drop
                  have hA1 := h3.drop
                  have h4 := h3.move (slotL_get es_)
                  obtain ⟨q, vs, p, ws, G, eq, hq, hl, hv, hw, rws, fin⟩ := h4.nest ed he
                  cases eq
                  obtain ⟨x, Li, hx, rx, _⟩ := rws.getD ew
                  cases rx
                  obtain ⟨vn, en1, h5⟩ := hA1.var en
                  rw [if_pos (by simp [isF])] at h5
                  have e5 := h5.int
                  subst e5
                  obtain ⟨vl, el1, h6⟩ := hA1.var el
                  rw [if_pos (by simp [isF])] at h6
                  obtain ⟨G6, L6, g6, r6, _⟩ := h6.open (d := .lst ls) (fun j q => nomatch q)
                  have hsl := hA1.lens
                  obtain ⟨tl, xl, _, rfl, hxl, rxl⟩ := R.list g6 r6 rfl
                  unfold cDiv at hdv
                  rw [Bool.and_eq_true, decide_eq_true_iff, decide_eq_true_iff] at hdv
                  refine ⟨p0, vs, k, .ref p, rfl, rfl, .inl (.inl hq), ?_, ?_⟩
                  · unfold atI
                    rw [hl, ej]
                    exact hv
                  refine ⟨.int m, ?_, m, c, rfl, rfl, wide_div hdv.1 hdv.2 (by decide) (by decide), .ref tl, ?_, .ref tl, ls.length, rfl, ?_, m / c, ls.length, rfl, rfl, by omega, ?_⟩
                  · rw [List.getElem?_set_ne (Ne.symm hd.1)]; exact en1
                  · rw [List.getElem?_set_ne (Ne.symm hd.2.1)]; exact el1
                  · exact .inl ⟨xl, hxl, rxl.length.symm⟩
                  have gb : (List.set (List.set σ b (some (V.ref p))) a (some (V.int (m / c % (ls.length : Int)))))[b]? = some (some (.ref p)) := by
                    rw [List.getElem?_set_ne hd.2.2.1, List.getElem?_set_self (by omega)]
                  have ga : (List.set (List.set σ b (some (V.ref p))) a (some (V.int (m / c % (ls.length : Int)))))[a]? = some (some (.int (m / c % (ls.length : Int)))) := by
                    rw [List.getElem?_set_self (by rw [List.length_set]; omega)]
                  have ewl : ixN ws.length (m / c % (ls.length : Int)) = some u := by rw [rws.length]; exact eu
                  refine ⟨.ref p, gb, .int _, ga, p, ws, _, .int w, rfl, rfl, .inl (.inl hw), ?_, 1, w, rfl, rfl, .ref p, gb, .int _, ga, p, ws, _, u, rfl, rfl, hw, ewl, ?_⟩
                  · unfold atI
                    rw [ewl]
                    exact hx
                  have h7 := fin (.int (1 - w)) (.int (1 - w)) u fun _ _ => .int _
                  have h8 := h7.put (fun j q => nomatch q) (set_none_get (slotL_get es_)) ev
                  rw [List.set_set] at h8
                  have h9 := (h8.forget (i := b)).anySlot (i := b) (o := some (.ref p)) (by simp [hb]) cl
                  have h10 := (h9.litInt (k := m / c % (ls.length : Int))).set (i := a) (fun j q => nomatch q) cl
                  exact hp _ _ h10
                · exact (pS_stuck hp).elim
              · exact (pS_stuck hp).elim
            · exact (pS_stuck hp).elim
          · exact (pS_stuck hp).elim
        · exact (pS_stuck hp).elim
      · exact (pS_stuck hp).elim
theorem qs_bag {i b a n l : Nat} {c : Int} {s1 s2 s3 : Stmt} (hK : X.K = z.K) (hd : n ≠ b ∧ l ≠ b ∧ a ≠ b ∧ i ≠ b ∧ i ≠ a) (h1 : PS X s1 (tAsg (tOp (rIxL X.K) (tVar i) (tE z fe)) (gName b)))
    (h2 : PS X s2 (tAsg (tOp (rI (fun _ j => 0 < j) fun i j => .int (i % j)) (tOp (rI CDivW fun i j => .int (i / j)) (tVar n) (L2.tC (.int c))) (tCB (rLenX X.K) (L2.tCons (tVar l) L2.tNil))) (gName a)))
    (h3 : PS X s3 (tAsg (tOp (rI0 fun i j => .int (i - j)) (L2.tC (.int 1)) (tOp (rIxL X.K) (tVar b) (tVar a))) (gSub (tVar b) (tVar a) rSetL))) : PSs X [s1, s2, s3] (tS z (fBag i b a n l c fe)) :=
  PSs.imp (pss_cons h1 (pss_cons h2 (pss_one h3))) fun D σ H h => by rw [hK]; exact bag_go hd h
end
end Ab
end
section
/-! plain reasoning over told values: no program in sight -/
namespace Ab
open PySem L2

/-! ### steps -/
section
variable {A A1 A2 : Sl} {f g : FS} {fe fa fb : FE} {ft : FT} {i : Nat} {d e : D}
theorem seq_next (h : f A = .ok .next A1) : fSeq f g A = g A1 := by unfold fSeq; rw [h]; rfl
theorem seq_n {o : Ou Fl} (h : f A = .ok .next A1) (k : g A1 = o) : fSeq f g A = o := (seq_next h).trans k
theorem seq_ret {v : D} (h : f A = .ok (.ret v) A1) : fSeq f g A = .ok (.ret v) A1 := by unfold fSeq; rw [h]; rfl
theorem seq_cont (h : f A = .ok .cont A1) : fSeq f g A = .ok .cont A1 := by unfold fSeq; rw [h]; rfl
theorem seq_exc {c : Str} (h : f A = .exc c A1) : fSeq f g A = .exc c A1 := by unfold fSeq; rw [h]; rfl
theorem fif_t (h : ft A = .ok true A1) : fIf ft f g A = f A1 := by unfold fIf; rw [h]; rfl
theorem fif_f (h : ft A = .ok false A1) : fIf ft f g A = g A1 := by unfold fIf; rw [h]; rfl
end
theorem see_isF {A : Sl} {d : D} (h : isF d = true) : see A d = d := by
  cases d <;> first | rfl | (simp [isF] at h)
/-! ### multiplication's bounds -/
theorem cMul_l {a b : Int} (h : -18446744073709551616 < a ∧ a < 18446744073709551616) : cMul a b = true := by
  unfold cMul
  rw [Bool.or_eq_true, decide_eq_true_iff]
  left
  have : (2 : Nat) ^ 64 = 18446744073709551616 := by decide
  omega
theorem cMul_r {a b : Int} (h : -18446744073709551616 < b ∧ b < 18446744073709551616) : cMul a b = true := by
  unfold cMul
  rw [Bool.or_eq_true, decide_eq_true_iff, decide_eq_true_iff]
  right
  have : (2 : Nat) ^ 64 = 18446744073709551616 := by decide
  omega
/-! ### loops -/
theorem forL_ind {t : Tg} {fb : FS} (I : Nat → Sl → Prop) : ∀ (xs : List D) (k : Nat) (A : Sl), I k A → (∀ j d A, xs[j]? = some d → I (k + j) A → ∃ A1 A2, t.set d A = some A1 ∧ (fb A1 = .ok .next A2 ∨ fb A1 = .ok .cont A2) ∧ I (k + j + 1) A2) →
    ∃ A', forL t fb xs A = .ok .next A' ∧ I (k + xs.length) A'
  | [], k, A, h0, _ => ⟨A, rfl, h0⟩
  | x :: xs, k, A, h0, hs => by
    obtain ⟨A1, A2, h1, h2, h3⟩ := hs 0 x A rfl h0
    obtain ⟨A', h4, h5⟩ := forL_ind I xs (k + 1) A2 h3 fun j d A e h => by
      have := hs (j + 1) d A (by simpa using e) (by rw [show k + (j + 1) = k + 1 + j by omega]; exact h)
      rw [show k + (j + 1) + 1 = k + 1 + j + 1 by omega] at this
      exact this
    refine ⟨A', ?_, by rw [List.length_cons, show k + (xs.length + 1) = k + 1 + xs.length by omega]; exact h5⟩
    unfold forL
    simp only [h1]
    rcases h2 with h2 | h2 <;> simp only [h2] <;> exact h4
/-- a for whose turns all go on -/
theorem for_ind {fi : FI} {t : Tg} {fb : FS} {A A0 : Sl} {xs : List D} (I : Nat → Sl → Prop) (hi : fi A = .ok xs A0) (h0 : I 0 A0) (hs : ∀ j d A, xs[j]? = some d → I j A → ∃ A1 A2, t.set d A = some A1 ∧ (fb A1 = .ok .next A2 ∨ fb A1 = .ok .cont A2) ∧ I (j + 1) A2) :
    ∃ A', fFor fi t fb A = .ok .next A' ∧ I xs.length A' := by
  obtain ⟨A', h1, h2⟩ := forL_ind (t := t) (fb := fb) I xs 0 A0 h0 fun j d A e h => by
    rw [Nat.zero_add] at h ⊢
    exact hs j d A e h
  refine ⟨A', ?_, by simpa using h2⟩
  unfold fFor
  rw [hi]
  exact h1
/-- a comprehension whose turns are all plain -/
theorem compL_ok {t : Tg} {ft : FT} {fe : FE} {A : Sl} (p : D → Bool) (g : D → D) : ∀ (ds acc : List D), acc.length + ds.length ≤ sizeLine → (∀ d ∈ ds, ∃ A1, t.set d A = some A1 ∧ ft A1 = .ok (p d) A1 ∧ (p d = true → fe A1 = .ok (g d) A1 ∧ ∀ i, g d ≠ .al i) ∧ wipeA A1 t.own = A) →
    compL t ft fe ds acc A = .ok (acc ++ (ds.filter p).map g) A
  | [], acc, _, _ => by simp [compL]
  | d :: ds, acc, hl, h => by
    obtain ⟨A1, h1, h2, h3, h4⟩ := h d List.mem_cons_self
    have ih := fun acc' h' => compL_ok p g ds acc' h' (fun d' m => h d' (List.mem_cons_of_mem _ m))
    rw [List.length_cons] at hl
    unfold compL
    rw [h1]
    simp only [h2]
    cases hp : p d with
    | false =>
      simp only [h4]
      rw [ih acc (by omega), List.filter_cons_of_neg (by simp [hp])]
    | true =>
      obtain ⟨h5, h6⟩ := h3 hp
      have ec : closeD (g d) A1 = some (g d, A1) := by
        unfold closeD
        cases hg : g d <;> first | rfl | exact absurd hg (h6 _)
      simp only [h5, ec, h4]
      rw [if_pos (by omega), ih _ (by simp; omega), List.filter_cons_of_pos hp, List.map_cons, List.append_assoc]
      rfl
theorem comp_ok {fi : FI} {t : Tg} {ft : FT} {fe : FE} {A A0 : Sl} {xs : List D} (p : D → Bool) (g : D → D) (hi : fi A = .ok xs A0) (hl : xs.length ≤ sizeLine) (h : ∀ d ∈ xs, ∃ A1, t.set d (wipeA A0 t.own) = some A1 ∧ ft A1 = .ok (p d) A1 ∧ (p d = true → fe A1 = .ok (g d) A1 ∧ ∀ i, g d ≠ .al i) ∧ wipeA A1 t.own = wipeA A0 t.own) :
    fComp fi t ft fe A = .ok (.mu ((xs.filter p).map g)) (wipeA (wipeA A0 t.own) t.own) := by
  unfold fComp
  rw [hi]
  simp only [Ou.bind_ok]
  rw [compL_ok p g xs [] (by simpa using hl) h]
  simp
/-! ### evaluation, rule by rule -/
mutual
theorem fz_isF : ∀ {d : D}, isF d = true → fz d = d
  | .tup ds, h => by rw [isF] at h; rw [fz, fzs_isFs h]
  | .non, _ => by rw [fz]
  | .bl _, _ => by rw [fz]
  | .int _, _ => by rw [fz]
  | .str _, _ => by rw [fz]
  | .ty _, _ => by rw [fz]
  | .lst _, _ => by rw [fz]
  | .fro _, _ => by rw [fz]
  | .mu _, h => by simp [isF] at h
  | .fdi .., _ => by rw [fz]
  | .mdi .., h => by simp [isF] at h
  | .al _, h => by simp [isF] at h
  | .exc _, h => by simp [isF] at h
  | .obj .., h => by simp [isF] at h
theorem fzs_isFs : ∀ {ds : List D}, isFs ds = true → fzs ds = ds
  | [], _ => by rw [fzs]
  | d :: ds, h => by
    rw [isFs, Bool.and_eq_true] at h
    rw [fzs, fz_isF h.1, fzs_isFs h.2]
end
theorem isF_al {d : D} (h : isF d = true) : ∀ i, d ≠ .al i := fun i e => by rw [e] at h; simp [isF] at h
theorem closeD_isF {d : D} {A : Sl} (h : isF d = true) : closeD d A = some (d, A) := by
  unfold closeD
  cases d <;> first | rfl | (simp [isF] at h)
theorem closeL_isFs : ∀ {ds : List D} {A : Sl}, isFs ds = true → closeL ds A = some (ds, A)
  | [], _, _ => rfl
  | d :: ds, A, h => by
    rw [isFs, Bool.and_eq_true] at h
    unfold closeL
    rw [closeL_isFs h.2]
    cases d <;> first | rfl | (simp [isF] at h)
section
variable {A A1 A2 A3 : Sl} {f g : FS} {fe fa fb : FE} {ft fu : FT} {fl : FA} {i j : Nat} {d e r : D} {ds es : List D} {F : List D → Ro}
theorem ev_C : fC d A = .ok d A := rfl
theorem ev_var (h : A[i]? = some (some d)) (hf : isF d = true) : fVar i A = .ok d A := by unfold fVar; rw [h]; simp only [hf, if_true]
theorem ev_al (h : A[i]? = some (some d)) (hf : isF d = false) : fVar i A = .ok (.al i) A := by unfold fVar; rw [h]; simp [hf]
theorem ev_bin {g : D → D → Sl → Option D} (h1 : fa A = .ok d A1) (h2 : fb A1 = .ok e A2) (h3 : g d e A2 = some r) : fBin g fa fb A = .ok r A2 := by
  unfold fBin; rw [h1]; simp only [Ou.bind_ok]; rw [h2]; simp only [Ou.bind_ok]; rw [h3]
theorem ev_un {g : D → Sl → Option D} (h1 : fa A = .ok d A1) (h3 : g d A1 = some r) : fUn g fa A = .ok r A1 := by
  unfold fUn; rw [h1]; simp only [Ou.bind_ok]; rw [h3]
theorem ev_nil : fNil A = .ok [] A := rfl
theorem ev_cons (h1 : fe A = .ok d A1) (h2 : fl A1 = .ok ds A2) : fCons fe fl A = .ok (d :: ds) A2 := by
  unfold fCons; rw [h1]; simp only [Ou.bind_ok]; rw [h2]; rfl
theorem ev_tup (h1 : fl A = .ok ds A1) (h2 : isFs ds = true) (h3 : ds.length ≤ sizeLine) : fTup fl A = .ok (.tup ds) A1 := by
  unfold fTup; rw [h1]; simp only [Ou.bind_ok]; rw [closeL_isFs h2]; simp only [h3, if_true]
theorem ev_lst (h1 : fl A = .ok ds A1) (h2 : isFs ds = true) (h3 : ds.length ≤ sizeLine) : fLst fl A = .ok (.mu ds) A1 := by
  unfold fLst; rw [h1]; simp only [Ou.bind_ok]; rw [closeL_isFs h2]; simp only [h3, if_true]
theorem ev_cb {g : List D → Sl → Option D} (h1 : fl A = .ok ds A1) (h2 : g ds A1 = some r) : fCB g fl A = .ok r A1 := by
  unfold fCB; rw [h1]; simp only [Ou.bind_ok]; rw [h2]
theorem ev_call (h1 : fl A = .ok ds A1) (h2 : isFs ds = true) (h3 : F ds = .ok r) : fCall F fl A = .ok r A1 := by
  unfold fCall; rw [h1]; simp only [Ou.bind_ok]; rw [closeL_isFs h2]; simp only [fzs_isFs h2, h3]; split <;> rfl
/-- .. where an argument is what a slot owns: the answer is a scalar -/
theorem ev_callS {es : List D} (h1 : fl A = .ok ds A1) (h2 : closeL ds A1 = some (es, A2)) (h3 : F (fzs es) = .ok r) (h4 : isScal r = true) : fCall F fl A = .ok r A1 := by
  unfold fCall; rw [h1]; simp only [Ou.bind_ok]; rw [h2]; simp only [h3, h4, if_true]
theorem ev_mtl {g : D → List D → Sl → Option D} (h1 : fe A = .ok d A1) (h0 : lsOf (see A1 d) = some es) (h2 : fl A1 = .ok ds A2) (h3 : g d ds A2 = some r) : fMtL g fe fl A = .ok r A2 := by
  unfold fMtL; rw [h1]; simp only [Ou.bind_ok]; rw [h0]; simp only [h2, Ou.bind_ok]; rw [h3]
theorem ev_noPart : fNoPart A = .ok none A := rfl
theorem ev_part {n : Int} (h : fe A = .ok (.int n) A1) : fPart fe A = .ok (some n) A1 := by unfold fPart; rw [h]; rfl
theorem ev_sl {fl fh : FO} {l h : Option Int} (h1 : fe A = .ok d A1) (h2 : fl A1 = .ok l A2) (h3 : fh A2 = .ok h A3) (h4 : gSl d l h A3 = some r) : fSl fe fl fh A = .ok r A3 := by
  unfold fSl; rw [h1]; simp only [Ou.bind_ok]; rw [h2]; simp only [Ou.bind_ok]; rw [h3]; simp only [Ou.bind_ok]; rw [h4]
theorem ev_B {b : Bool} (h : fe A = .ok (.bl b) A1) : fB fe A = .ok b A1 := by unfold fB; rw [h]; rfl
theorem ev_not {b : Bool} (h : ft A = .ok b A1) : fNot ft A = .ok (!b) A1 := by unfold fNot; rw [h]; rfl
theorem ev_and {a b : Bool} (h : ft A = .ok a A1) (k : a = true → fu A1 = .ok b A1) (k2 : a = false → b = false) : fAnd ft fu A = .ok b A1 := by
  unfold fAnd; rw [h]; simp only [Ou.bind_ok]
  cases a with
  | true => rw [if_pos rfl]; exact k rfl
  | false => rw [if_neg Bool.false_ne_true, k2 rfl]
theorem ev_or {a b : Bool} (h : ft A = .ok a A1) (k : a = false → fu A1 = .ok b A1) (k2 : a = true → b = true) : fOr ft fu A = .ok b A1 := by
  unfold fOr; rw [h]; simp only [Ou.bind_ok]
  cases a with
  | true => rw [if_pos rfl, k2 rfl]
  | false => rw [if_neg Bool.false_ne_true]; exact k rfl
/-- and, or whose parts change nothing: the answers -/
theorem ev_and2 {a b : Bool} (h : ft A = .ok a A1) (k : a = true → fu A1 = .ok b A1) : fAnd ft fu A = .ok (a && b) A1 := by
  cases a with
  | true => exact ev_and h k (fun z => nomatch z)
  | false => exact ev_and h (fun z => nomatch z) (fun _ => rfl)
theorem ev_or2 {a b : Bool} (h : ft A = .ok a A1) (k : a = false → fu A1 = .ok b A1) : fOr ft fu A = .ok (a || b) A1 := by
  cases a with
  | true => exact ev_or h (fun z => nomatch z) (fun _ => rfl)
  | false => exact ev_or h k (fun z => nomatch z)
theorem ev_andV {a b : Bool} (h : fa A = .ok (.bl a) A1) (k : a = true → fb A1 = .ok (.bl b) A1) : fAndV fa fb A = .ok (.bl (a && b)) A1 := by
  unfold fAndV; rw [h]; simp only [Ou.bind_ok]
  cases a with
  | true => rw [if_pos rfl]; exact k rfl
  | false => rw [if_neg Bool.false_ne_true]; rfl
theorem ev_orV {a b : Bool} (h : fa A = .ok (.bl a) A1) (k : a = false → fb A1 = .ok (.bl b) A1) : fOrV fa fb A = .ok (.bl (a || b)) A1 := by
  unfold fOrV; rw [h]; simp only [Ou.bind_ok]
  cases a with
  | true => rw [if_pos rfl]; rfl
  | false => rw [if_neg Bool.false_ne_true]; exact k rfl
theorem ev_notV {a : Bool} (h : fa A = .ok (.bl a) A1) : fNotV fa A = .ok (.bl (!a)) A1 := by unfold fNotV; rw [h]; rfl
/-! statements -/
theorem ev_asgF (h : fe A = .ok d A1) (hf : isF d = true) : fAsgF i fe A = .ok .next (A1.set i (some d)) := by
  unfold fAsgF; rw [h]; simp only [Ou.bind_ok]; rw [closeD_isF hf]; simp only [fz_isF hf]
theorem ev_asgF_mu (h : fe A = .ok (.mu ds) A1) (hf : isFs ds = true) : fAsgF i fe A = .ok .next (A1.set i (some (.lst ds))) := by
  unfold fAsgF; rw [h]; simp only [Ou.bind_ok, closeD, fz, fzs_isFs hf]
theorem ev_asgF_al (h : A[j]? = some (some (.mu ds))) (hf : isFs ds = true) : fAsgF i (fVar j) A = .ok .next ((A.set j (some (.lst ds))).set i (some (.lst ds))) := by
  unfold fAsgF
  rw [ev_al h (by simp [isF])]
  simp only [Ou.bind_ok, closeD, h, fz, fzs_isFs hf]
theorem ev_asg (h : fe A = .ok d A1) (hd : ∀ j, d ≠ .al j) : fAsg i fe A = .ok .next (A1.set i (some d)) := by
  unfold fAsg; rw [h]
  cases d <;> first | rfl | exact absurd rfl (hd _)
theorem ev_asgM (h : A[j]? = some (some (.mu ds))) : fAsgM i (fVar j) A = .ok .next ((A.set j none).set i (some (.mu ds))) := by
  unfold fAsgM
  rw [ev_al h (by simp [isF])]
  simp only [Ou.bind_ok, h]
theorem ev_drop (h : fe A = .ok d A1) : fDrop fe A = .ok .next A1 := by unfold fDrop; rw [h]; rfl
theorem ev_app (hs : A[i]? = some (some (.mu ds))) (h : fe A = .ok e A) (hf : isF e = true) (hl : ds.length < sizeLine) : fApp i fe A = .ok .non (A.set i (some (.mu (ds ++ [e])))) := by
  have s : slotL i A = some ds := by unfold slotL; rw [hs]
  unfold fApp
  simp only [s, h, Ou.bind_ok, closeD_isF hf, hl, if_true]
theorem ev_ext_mu (hs : A[i]? = some (some (.mu ds))) (h : fe A = .ok (.mu es) A1) (hs1 : A1[i]? = some (some (.mu ds))) (hf : isFs es = true) (hl : ds.length + es.length ≤ sizeLine) : fExt i fe A = .ok .non (A1.set i (some (.mu (ds ++ es)))) := by
  have s : slotL i A = some ds := by unfold slotL; rw [hs]
  have s1 : slotL i A1 = some ds := by unfold slotL; rw [hs1]
  unfold fExt
  simp only [s, h, Ou.bind_ok, closeD, fz, fzs_isFs hf, s1, hl, if_true]
theorem ev_clr (hs : A[i]? = some (some (.mu ds))) : fClr i A = .ok .non (A.set i (some (.mu []))) := by
  have s : slotL i A = some ds := by unfold slotL; rw [hs]
  unfold fClr
  simp only [s]
theorem ev_ret (h : fe A = .ok d A1) (hd : ∀ j, d ≠ .al j) : fRet fe A = .ok (.ret d) A1 := by
  unfold fRet; rw [h]
  cases d <;> first | rfl | exact absurd rfl (hd _)
theorem ev_ret_al (h : A[i]? = some (some (.mu ds))) : fRet (fVar i) A = .ok (.ret (.mu ds)) (A.set i none) := by
  unfold fRet
  rw [ev_al h (by simp [isF])]
  simp only [Ou.bind_ok, h]
theorem if_t {b : Bool} {o : Ou Fl} (h : ft A = .ok b A1) (hb : b = true) (k : f A1 = o) : fIf ft f g A = o := by
  subst hb; rw [fif_t h]; exact k
theorem if_f {b : Bool} {o : Ou Fl} (h : ft A = .ok b A1) (hb : b = false) (k : g A1 = o) : fIf ft f g A = o := by
  subst hb; rw [fif_f h]; exact k
/-! what is walked -/
theorem ev_range {n : Int} (h : fe A = .ok (.int n) A1) (hn : n.natAbs < 4611686018427387904) : fRange fe A = .ok ((List.range n.toNat).map fun i => .int (i : Nat)) A1 := by
  have : (2 : Nat) ^ 62 = 4611686018427387904 := by decide
  unfold fRange; rw [h]; simp only [Ou.bind_ok, this, hn, if_true]
theorem ev_it (h : fe A = .ok d A1) (hf : isF d = true) (hi : iterOf d = some ds) : fIt fe A = .ok ds A1 := by
  unfold fIt; rw [h]; simp only [Ou.bind_ok, closeD_isF hf, fz_isF hf, hi]
theorem ev_it_mu (h : fe A = .ok (.mu ds) A1) (hf : isFs ds = true) : fIt fe A = .ok ds A1 := by
  unfold fIt; rw [h]; simp only [Ou.bind_ok, closeD, fz, fzs_isFs hf, iterOf]
/-! a def -/
theorem def_ret (A0 : Sl) {k n : Nat} {fs : FS} (hA : ds.map some ++ List.replicate (n - ds.length) none = A0) (hk : ds.length = k) (hd : ∀ i, d ≠ .al i) (h : ∃ A', fs A0 = .ok (.ret d) A') : defF k n fs ds = .ok d := by
  obtain ⟨A', h⟩ := h
  unfold defF runF
  rw [if_pos hk, hA, h]
  cases d <;> first | rfl | exact absurd rfl (hd _)
/-! operators -/
theorem gMinus_ok {a b : Int} : gMinus (.int a) (.int b) A = some (.int (a - b)) := rfl
theorem gAdd_ok {a b : Int} : gAdd (.int a) (.int b) A = some (.int (a + b)) := rfl
theorem gMul_l {a b : Int} (h : -18446744073709551616 < a ∧ a < 18446744073709551616) : gMulA (.int a) (.int b) A = some (.int (a * b)) := by unfold gMulA; simp only [cMul_l h, if_true]
theorem gMul_r {a b : Int} (h : -18446744073709551616 < b ∧ b < 18446744073709551616) : gMulA (.int a) (.int b) A = some (.int (a * b)) := by unfold gMulA; simp only [cMul_r h, if_true]
theorem gMod_ok {a b : Int} (h : 0 < b) : gMod (.int a) (.int b) A = some (.int (a % b)) := by unfold gMod g2I cMod; simp [h]
set_option exponentiation.threshold 500 in
theorem gDiv_ok {a b : Int} (h : 0 < b) (h2 : b ≤ 1000000000000000000000000000000000000000000000000000000000000000000000) : gDiv (.int a) (.int b) A = some (.int (a / b)) := by
  have : b.natAbs < 2 ^ 400 := by
    have : (1000000000000000000000000000000000000000000000000000000000000000000000 : Nat) < 2 ^ 400 := by decide
    omega
  unfold gDiv g2I cDiv; simp [h, this]
theorem gPow_ok {a : Int} {b : Nat} (h : b ≤ 1000) (h2 : a.natAbs < 1000000) : gPow (.int a) (.int (b : Nat)) A = some (.int (a ^ b)) := by
  have h3 : a.natAbs < 2 ^ 64 := by omega
  have h4 : ((b : Nat) : Int) ≤ 1000000 := by omega
  unfold gPow g2I cPow
  simp [h3, h4]
theorem gLt_ok {a b : Int} : gLt (.int a) (.int b) A = some (.bl (decide (a < b))) := rfl
theorem gLe_ok {a b : Int} : gLe (.int a) (.int b) A = some (.bl (decide (a ≤ b))) := rfl
theorem gGt_ok {a b : Int} : gGt (.int a) (.int b) A = some (.bl (decide (b < a))) := rfl
theorem gGe_ok {a b : Int} : gGe (.int a) (.int b) A = some (.bl (decide (b ≤ a))) := rfl
theorem eqv_int (a b : Int) : PyData.eqv (.int a) (.int b) = decide (a = b) := by rw [PyData.eqv]; exact Bool.beq_eq_decide_eq a b
theorem okD_int (a : Int) : okD (.int a) = true := by simp [okD, dat, SeqAt.shaped, PyData.canLay0, PyData.depth]
theorem gEq_int {a b : Int} : gEq (.int a) (.int b) A = some (.bl (decide (a = b))) := by
  unfold gEq; simp only [see, okD_int, Bool.and_self, if_true, dat, eqv_int]
theorem gNe_int {a b : Int} : gNe (.int a) (.int b) A = some (.bl (!decide (a = b))) := by
  unfold gNe; simp only [see, okD_int, Bool.and_self, if_true, dat, eqv_int]
end
end Ab
end
section
namespace Ab
open PySem PySem.Spec PyProof.Rows L2

/-! ### zip of a list and a tuple; c: how many turns -/
def ItM (K : PySem.W.Frag) (a b : Addr) (c : Nat) : It :=
  ⟨fun i H => i < c ∧ ∃ (xs ys : List V) (x y : V), (SqL K H a xs ∧ xs[i]? = some x) ∧ SqT K H b ys ∧ ys[i]? = some y,
    fun i H v H' => ∃ T x y, (v = .ref T ∧ H T = none) ∧ H' = upd H T (.tup [x, y]) ∧ (∀ xs, SqL K H a xs → xs[i]? = some x) ∧ (∀ ys, SqT K H b ys → ys[i]? = some y),
    fun i H => c ≤ i ∧ ∃ xs ys : List V, (SqL K H a xs ∧ SqT K H b ys) ∧ min xs.length ys.length = c⟩
def MSt (z TI TO i1 i2 a b : Addr) (c : Nat) (i : Nat) (h : Heap) : Prop := (IsZip h z TI TO .none ∧ IsPair h TI (.ref i1) (.ref i2) ∧ ∃ x y, IsPair h TO x y) ∧ (h.IsListIter i1 a i ∧ h.IsTupleIter i2 b i) ∧ i ≤ c
theorem msep {z TI TO i1 i2 a b : Addr} (D : ZipApart z TI TO i1 i2 a b) : ZipSep2 z TI TO i1 i2 [i1, a] [i2, b] where
  TIz := D.TIz
  TOz := D.TOz
  TITO := D.TITO
  TIi1 := D.TIi1
  mem1 := by simp
  zf1 := by simp [D.i1z.symm, D.l1z.symm]
  Tf1 := by simp [D.TOi1, D.l1TO.symm]
  TIi2 := D.TIi2
  mem2 := by simp
  zf2 := by simp [D.i2z.symm, D.l2z.symm]
  Tf2 := by simp [D.TOi2, D.l2TO.symm]
  sep1_2 := by simp [D.i12, D.l2i1.symm]
  sep2_1 := by simp [D.i12.symm, D.l1i2.symm]
theorem five {z TI TO i1 i2 q : Addr} (h : q ∈ [z, TI, TO, i1, i2]) : q = z ∨ q = TI ∨ q = TO ∨ q = i1 ∨ q = i2 := by simpa using h
theorem turnM {P : Program} {w : World} {K : PySem.W.Frag} {elts : List Expr} {kk : Nat} {tpos : Pos} {a b z TI TO i1 i2 : Addr} {c : Nat} (D : ZipApart z TI TO i1 i2 a b) :
    Turn P w K (.Tuple elts kk tpos) (ItM K a b c) [z, TI, TO, i1, i2] z (MSt z TI TO i1 i2 a b c) where
  mem := List.mem_cons_self
  obj := fun i h st q hq => by
    obtain ⟨⟨m1, m2, x, y, m3⟩, ⟨⟨o1, e1, _, d1⟩, ⟨o2, e2, _, d2⟩⟩, _⟩ := st
    rcases five hq with rfl | rfl | rfl | rfl | rfl
    · exact ⟨_, m1, fun v u => nomatch u⟩
    · exact ⟨_, m2, fun v u => nomatch u⟩
    · exact ⟨_, m3, fun v u => nomatch u⟩
    · exact ⟨o1, e1, fun v u => by rw [d1] at u; cases u⟩
    · exact ⟨o2, e2, fun v u => by rw [d2] at u; cases u⟩
  keep := fun i h h' st k => by
    obtain ⟨⟨m1, m2, x, y, m3⟩, ⟨m4, m5⟩, m6⟩ := st
    exact ⟨⟨k _ (by simp) _ m1, k _ (by simp) _ m2, x, y, k _ (by simp) _ m3⟩, ⟨m4.at fun o => k _ (by simp) o, m5.at fun o => k _ (by simp) o⟩, m6⟩
  item := by
    intro X e1 e2 e3 hcalm i pins s σ H E I hf st hg
    subst e1; subst e2; subst e3
    obtain ⟨⟨m1, m2, x0, y0, m3⟩, ⟨m4, m5⟩, m6⟩ := st
    obtain ⟨hic, xs, ys, x, y, ⟨sx, gx⟩, sy, gy⟩ := hg
    obtain ⟨its, rv, p, _⟩ := I.list sx
    obtain ⟨jts, rw_, p2, _⟩ := I.tuple sy
    obtain ⟨u, hu, ru⟩ := rv.get gx
    obtain ⟨u2, hu2, ru2⟩ := rw_.get gy
    have zl : z < s.heap.objs.size := Heap.lt_size m1
    have hh : X.A.in1.handled = none := I.ok.hd hcalm
    have lt1 : i < its.toArray.size := by rw [List.size_toArray]; exact (List.getElem?_eq_some_iff.mp hu).1
    have lt2 : i < jts.toArray.size := by rw [List.size_toArray]; exact (List.getElem?_eq_some_iff.mp hu2).1
    refine wpAny_pyNext_zipD2_item (msep D) (Draws.list hh i1 a D.l1i1 its.toArray) (Draws.tuple hh i2 b D.l2i2 jts.toArray) m1 m2 m3 ⟨m4, p.isList⟩ ⟨m5, p2⟩ lt1 lt2 fun w1 w2 h' tk y1 y2 z' TO' st1 st2 hT hsz hk => ?_
    have y1' : its[i]? = some w1 := by simpa using y1
    have y2' : jts[i]? = some w2 := by simpa using y2
    obtain rfl : u = w1 := Option.some.inj (hu.symm.trans y1')
    obtain rfl : u2 = w2 := Option.some.inj (hu2.symm.trans y2')
    refine ⟨_, rfl, wpAny_letOwnedTupleGo_zip (s := { s with heap := h', toks := tk }) z' fun h2 z2 sb => ?_⟩
    have T2 : IsPair h2 s.heap.objs.size u u2 := (sb.2 _ (Nat.ne_of_gt zl)).trans hT
    have fr : ∀ q o, q ∉ [z, TI, TO, i1, i2] → s.heap.get? q = some o → h2.get? q = some o := fun q o nq e => by
      simp only [List.mem_cons, List.not_mem_nil, or_false, not_or] at nq
      exact (sb.2 q nq.1).trans (hk q o nq.1 nq.2.2.1 nq.2.2.2.1 nq.2.2.2.2 e)
    have obj : ObjOk X.prog X.w (upd H s.heap.objs.size (.tup [x, y])) h2 s.heap.objs.size (.tup [x, y]) := by
      refine ⟨?_, [u, u2], .cons ru (.cons ru2 .nil), ⟨_, T2, rfl, _, rfl⟩⟩
      show 2 ≤ sizeLine
      decide
    have I2 : Inv X pins σ (upd H s.heap.objs.size (.tup [x, y])) { s with heap := h2, toks := tk } := I.turnedNew fr hf (Nat.le_refl _) obj
    refine ⟨.ref s.heap.objs.size, _, I2, rfl, ⟨_, x, y, ⟨rfl, I.hok.fresh (Nat.le_refl _)⟩, rfl, fun l hl => ?_, fun l hl => ?_⟩, ⟨⟨z2, ?_, u, u2, ?_⟩, ⟨?_, ?_⟩, hic⟩, fun q hq => ?_⟩
    · rw [I.list_inj hl sx]; exact gx
    · rw [I.tuple_inj hl sy]; exact gy
    · exact (sb.2 _ D.TIz).trans (hk _ _ D.TIz D.TITO D.TIi1 D.TIi2 m2)
    · exact (sb.2 _ D.TOz).trans TO'
    · exact st1.1.at fun o e => (sb.2 _ D.i1z).trans e
    · exact st2.1.at fun o e => (sb.2 _ D.i2z).trans e
    · have old : q < s.heap.objs.size := by
        rcases five hq with rfl | rfl | rfl | rfl | rfl
        · exact zl
        · exact Heap.lt_size m2
        · exact Heap.lt_size m3
        · obtain ⟨_, e1, _⟩ := m4; exact Heap.lt_size e1
        · obtain ⟨_, e2, _⟩ := m5; exact Heap.lt_size e2
      rw [upd_ne (Nat.ne_of_lt old)]
      exact (hf q hq).1
  done := by
    intro X e1 e2 e3 hcalm i pins s σ H E I hf st hg
    subst e1; subst e2; subst e3
    obtain ⟨⟨m1, m2, x0, y0, m3⟩, ⟨m4, m5⟩, m6⟩ := st
    obtain ⟨hic, xs, ys, ⟨sx, sy⟩, hmin⟩ := hg
    obtain ⟨its, rv, p, _⟩ := I.list sx
    obtain ⟨jts, rw_, p2, _⟩ := I.tuple sy
    have hh : X.A.in1.handled = none := I.ok.hd hcalm
    have l1 : its.toArray.size = xs.length := by rw [List.size_toArray]; exact rv.length.symm
    have l2 : jts.toArray.size = ys.length := by rw [List.size_toArray]; exact rw_.length.symm
    refine wpAny_pyNext_zipD2_end (msep D) (Draws.list hh i1 a D.l1i1 its.toArray) (Draws.tuple hh i2 b D.l2i2 jts.toArray) m1 m2 m3 ⟨m4, p.isList⟩ ⟨m5, p2⟩ (by omega) (by omega) (by omega) fun h' tk hk => ⟨rfl, I.turnedL (fun q o nq e => ?_) hf⟩
    simp only [List.mem_cons, List.not_mem_nil, or_false, not_or] at nq
    exact hk q o nq.1 nq.2.2.1 nq.2.2.2.1 nq.2.2.2.2 e
  self := fun A i s Q E st h => wpAny_pyIter_zip st.1.1 h
def iZipM (K : PySem.W.Frag) (ta : TA) : TI := fun σ H R => ta σ H fun vs H1 => ∃ a b xs ys, vs = [.ref a, .ref b] ∧ (SqL K H1 a xs ∧ SqT K H1 b ys) ∧ R (ItM K a b (min xs.length ys.length)) H1
theorem pi_zipM {X : Cx} {e e2 : Expr} {ta : TA} {p pos tpos : Pos} {elts : List Expr} {kk : Nat} (hg : Gl X "zip") (hm : X.mg "zip" = none) (ha : PA X [e, e2] ta)
    (hs : starEach [e, e2] X.env = (false, eval e X.env) :: starEach [e2] X.env := by rfl) (hpl : (backTo pos (starEach [e2] X.env)).any (·.1) = false := by rfl) :
    PI X (.Tuple elts kk tpos) (.Call (.Name "zip" p) [e, e2] [] pos) (iZipM X.K ta) := by
  refine ⟨fun pins s σ H R I h => Call_ (ld_blt I hg hm PyProof.Rows.boot_zip (PyProof.Rows.callWith_type1 (thn (ha.run pos pins s σ H _ I h) fun us s1 ⟨vs, H1, I1, r1, q1⟩ => ?_) hs hpl))⟩
  obtain ⟨a, b, xs, ys, rfl, ⟨sx, sy⟩, q⟩ := q1
  obtain ⟨v1, v2, rfl, ra, rb⟩ := vals2 r1
  cases ra
  cases rb
  obtain ⟨its, rv, p1, _⟩ := I1.list sx
  obtain ⟨jts, rw_, p2, _⟩ := I1.tuple sy
  obtain ⟨o2, ho2, _⟩ := id p2
  have la : a < s1.heap.objs.size := p1.lt
  have lb : b < s1.heap.objs.size := Heap.lt_size ho2
  refine zip_begins2 (begins_list a its.toArray) (begins_tuple b jts.toArray) p1.isList p2 fun h' hz hTI hTO g1 g2 hsz hk => wpAny_pyIter_zip hz ?_
  have I2 : Inv X pins σ H1 { s1 with heap := h' } := I1.kept (t' := s1.toks) hk
  refine ⟨s1.heap.objs.size + 4, [s1.heap.objs.size + 4, s1.heap.objs.size + 2, s1.heap.objs.size + 3, s1.heap.objs.size, s1.heap.objs.size + 1], _, _, H1, rfl, I2, turnM (PySem.W.ktu_apart s1.heap.objs.size a b la lb), ⟨⟨hz, hTI, _, _, hTO⟩, ⟨⟨_, g1, rfl, rfl⟩, ⟨_, g2, rfl, rfl⟩⟩, Nat.zero_le _⟩, fun q hq => ?_, q⟩
  have up : s1.heap.objs.size ≤ q := by rcases five hq with rfl | rfl | rfl | rfl | rfl <;> first | exact Nat.le_refl _ | exact Nat.le_add_right _ _
  exact I1.fpOk up (I1.hok.fresh up)
/-- zip(a list that is new, a tuple) -/
def fZip (fa fb : FE) : FI := fun A => (fCons fa (fCons fb fNil) A).bind fun ds A1 => match ds with
  | [.mu xs, .tup ys] => if isFs xs = true ∧ isFs ys = true then .ok (List.zipWith (fun x y => .tup [x, y]) xs ys) A1 else .stuck
  | _ => .stuck
section
variable {z : Z} {X : Cx} {fa fb : FE}
theorem itd_zip {a b : Addr} {xs ys : List D} (hx : isFs xs = true) (hy : isFs ys = true) : ItD z (ItM z.K a b (min xs.length ys.length)) [(.ref a, .lst xs), (.ref b, .tup ys)] (List.zipWith (fun x y => .tup [x, y]) xs ys) := by
  have key : ∀ (σ : L2.St) (A : Sl) (ts : Ts) (H : Hp), z.A σ A ([(.ref a, .lst xs), (.ref b, .tup ys)] ++ ts) H → ∃ G vs us, Same G H ∧ SqL z.K H a vs ∧ SqT z.K H b us ∧ Rs z.K G H vs xs [] ∧ Rs z.K G H us ys [] ∧ Fin z.K z.B σ A ([(.ref a, .lst xs), (.ref b, .tup ys)] ++ ts) H G := by
    intro σ A ts H h
    obtain ⟨G, L1, L2, gd, tm, sl, nd, ow⟩ := id h
    have f : Fin z.K z.B σ A ([(.ref a, .lst xs), (.ref b, .tup ys)] ++ ts) H G := fun w e H' G' L' he g1 g2 g3 r rn rf => step_core gd tm sl nd ow he g1 g2 g3 r rn rf
    have gh := gd.gh
    cases tm with
    | cons r1 t1 =>
      cases r1 with
      | lst q1 s1 =>
        cases t1 with
        | cons r2 t2 =>
          cases r2 with
          | tup q2 s2 =>
            have e2 := s2.isFs hy
            subst e2
            exact ⟨G, _, _, gh, .inl (.inl (gh _ _ q1)), .inl (.inl (gh _ _ q2)), s1, s2, f⟩
  refine ⟨fun σ A ts H i h hi => ?_, fun σ A ts H i x H' e h he hyl => ?_, fun σ A ts H i h hi => ?_⟩
  · obtain ⟨G, vs, us, gh, k1, k2, s1, s2, f⟩ := key σ A ts H h
    rw [List.length_zipWith] at hi
    have l1 := s1.length
    have l2 := s2.length
    have i1 : i < vs.length := by omega
    have i2 : i < us.length := by omega
    exact ⟨hi, vs, us, vs[i], us[i], ⟨k1, List.getElem?_eq_getElem i1⟩, k2, List.getElem?_eq_getElem i2⟩
  · obtain ⟨G, vs, us, gh, k1, k2, s1, s2, f⟩ := key σ A ts H h
    obtain ⟨T, x1, y1, ⟨rfl, hT⟩, rfl, g1, g2⟩ := hyl
    have h1 := g1 vs k1
    have h2 := g2 us k2
    rw [List.getElem?_zipWith] at he
    obtain ⟨d1, _, j1, ra, sa⟩ := s1.get h1
    obtain ⟨d2, _, j2, rb, sb⟩ := s2.get h2
    rw [j1, j2] at he
    obtain rfl : D.tup [d1, d2] = e := Option.some.inj he
    have ea := List.sublist_nil.mp sa
    subst ea
    have eb := List.sublist_nil.mp sb
    subst eb
    exact f.tup gh (.cons (L := []) (L' := []) ra (.cons (L := []) (L' := []) rb .nil)) hT
  · obtain ⟨G, vs, us, gh, k1, k2, s1, s2, f⟩ := key σ A ts H h
    rw [List.length_zipWith] at hi
    refine ⟨hi, vs, us, ⟨k1, k2⟩, ?_⟩
    rw [s1.length, s2.length]
theorem qi_zip {e e2 : Expr} {p pos tpos : Pos} {elts : List Expr} {kk : Nat} (hK : X.K = z.K) (hg : Gl X "zip") (hm : X.mg "zip" = none) (ha : PE X e (tE z fa)) (hb : PE X e2 (tE z fb))
    (hs : starEach [e, e2] X.env = (false, eval e X.env) :: starEach [e2] X.env := by rfl) (hs2 : starEach [e2] X.env = (false, eval e2 X.env) :: starEach [] X.env := by rfl) (hpl : (backTo pos (starEach [e2] X.env)).any (·.1) = false := by rfl) :
    PI X (.Tuple elts kk tpos) (.Call (.Name "zip" p) [e, e2] [] pos) (tI z (fZip fa fb)) := by
  refine ⟨fun pins s σ H R I w => (pi_zipM hg hm (qa_cons ha (qa_cons hb qa_nil hs2) hs) hs hpl).run pins s σ H R I ?_⟩
  obtain ⟨A, ts, hA, hp⟩ := w
  refine ⟨A, ts, hA, ?_⟩
  unfold fZip at hp
  cases ea : fCons fa (fCons fb fNil) A with
  | stuck => rw [ea] at hp; exact (show False from hp).elim
  | exc c A1 => rw [ea] at hp; exact hp
  | ok ds A1 =>
    rw [ea] at hp
    simp only [Ou.bind_ok] at hp
    intro vs H1 hl h1
    split at hp
    · rename_i xs ys
      split at hp
      · rename_i hf
        obtain ⟨hx, hy⟩ := hf
        match vs, hl with
        | [v1, v2], _ =>
          have h2 : z.A σ A1 ((v1, fz (.mu xs)) :: (v2, .tup ys) :: ts) H1 := Abs.fz h1 (fun i q => nomatch q)
          rw [fz, fzs_isFs hx] at h2
          obtain ⟨G, L, L', gh, r1, r2, f⟩ := Abs.open2 h2 (fun j q => nomatch q) (fun j q => nomatch q)
          have r1 : Ab.R z.K G H1 v1 (.lst xs) L := r1
          have r2 : Ab.R z.K G H1 v2 (.tup ys) L' := r2
          cases r1 with
          | lst q1 s1 =>
            cases r2 with
            | tup q2 s2 =>
              refine ⟨_, _, _, _, rfl, ⟨.inl (.inl (gh _ _ q1)), .inl (.inl (gh _ _ q2))⟩, ?_⟩
              rw [s1.length, s2.length, hK]
              exact hp _ [(_, .lst xs), (_, .tup ys)] _ (fun p m j e => by
                rcases List.mem_cons.mp m with rfl | m
                · cases e
                · rw [List.mem_singleton.mp m] at e; cases e) (itd_zip hx hy) h2
      · exact (show False from hp).elim
    · exact (show False from hp).elim
end
end Ab
end
section
namespace Ab
open PySem PySem.Spec PyProof.Rows L2

/-! ### sorted(a list of pairs of ints) -/
def pd (p : Int × Int) : D := .tup [.int p.1, .int p.2]
def prOf : D → Option (Int × Int)
  | .tup [.int a, .int b] => some (a, b)
  | _ => none
def prsOf : List D → Option (List (Int × Int))
  | [] => some []
  | e :: es => match prOf e, prsOf es with
    | some p, some ps => some (p :: ps)
    | _, _ => none
theorem prOf_eq {e : D} {p : Int × Int} (h : prOf e = some p) : e = pd p := by
  unfold prOf at h
  split at h
  · cases h; rfl
  · cases h
theorem prsOf_eq : ∀ {es : List D} {ps : List (Int × Int)}, prsOf es = some ps → es = ps.map pd
  | [], ps, h => by simp only [prsOf, Option.some.injEq] at h; subst h; rfl
  | e :: es, ps, h => by
    unfold prsOf at h
    split at h
    · rename_i p qs h1 h2
      cases h
      rw [prOf_eq h1, prsOf_eq h2]
      rfl
    · cases h
theorem prsOf_map : ∀ ps : List (Int × Int), prsOf (ps.map pd) = some ps
  | [] => rfl
  | p :: ps => by
    rw [List.map_cons, prsOf, prsOf_map ps]
    rfl
def leP (p q : Int × Int) : Bool := !SrtO.lexB q p
def sortP (ps : List (Int × Int)) : List (Int × Int) := ps.mergeSort leP
theorem leP_iff {p q : Int × Int} : leP p q = true ↔ ¬ (q.1 < p.1 ∨ (q.1 = p.1 ∧ q.2 < p.2)) := by
  unfold leP
  rw [Bool.not_eq_true', SrtO.lexB_no]
theorem sortP_uniq {qs ps : List (Int × Int)} (h1 : qs.Pairwise fun p q => leP p q = true) (h2 : qs.Perm ps) : qs = sortP ps := by
  refine List.Perm.eq_of_pairwise (le := fun p q => leP p q = true) (fun a b _ _ x y => ?_) h1 (List.pairwise_mergeSort (fun a b c x y => ?_) (fun a b => ?_) ps) (h2.trans (List.mergeSort_perm ps leP).symm)
  · rw [leP_iff] at x y
    exact Prod.ext (by omega) (by omega)
  · rw [leP_iff] at x y ⊢
    omega
  · rw [Bool.or_eq_true, leP_iff, leP_iff]
    omega
def kf (G : Hp) (x : V) : Int × Int := match x with
  | .ref t => match G t with
    | some (.tup [.int a, .int b]) => (a, b)
    | _ => (0, 0)
  | _ => (0, 0)
section
variable {K : Fw} {G H : Hp}
theorem r_pd {x : V} {p : Int × Int} {L : List Addr} (r : R K G H x (pd p) L) : L = [] ∧ kf G x = p ∧ ∃ t, x = .ref t ∧ G t = some (.tup [.int p.1, .int p.2]) := by
  unfold pd at r
  cases r with
  | tup q s =>
    cases s with
    | cons r1 t1 =>
      cases r1
      cases t1 with
      | cons r2 t2 =>
        cases r2
        cases t2
        exact ⟨rfl, by unfold kf; simp only [q], _, rfl, q⟩
theorem rs_pd : ∀ {xs : List V} {ps : List (Int × Int)} {L : List Addr}, Rs K G H xs (ps.map pd) L → xs.map (kf G) = ps ∧ ∀ x ∈ xs, R K G H x (pd (kf G x)) [] ∧ ∃ t, x = .ref t ∧ G t = some (.tup [.int (kf G x).1, .int (kf G x).2])
  | [], [], _, _ => ⟨rfl, fun x m => nomatch m⟩
  | [], _ :: _, _, s => nomatch s
  | _ :: _, [], _, s => nomatch s
  | x :: xs, p :: ps, _, .cons r s => by
    obtain ⟨e0, e1, t, e2, e3⟩ := r_pd r
    subst e0
    obtain ⟨f1, f2⟩ := rs_pd s
    refine ⟨by rw [List.map_cons, e1, f1], fun y m => ?_⟩
    rcases List.mem_cons.mp m with rfl | m
    · rw [e1]
      exact ⟨r, t, e2, e3⟩
    · exact f2 y m
theorem rs_of {ys : List V} (h : ∀ y ∈ ys, R K G H y (pd (kf G y)) []) : Rs K G H ys ((ys.map (kf G)).map pd) [] := by
  induction ys with
  | nil => exact .nil
  | cons y ys ih => exact .cons (L := []) (L' := []) (h y List.mem_cons_self) (ih fun z m => h z (List.mem_cons_of_mem _ m))
end
def gSorted (ds : List D) (A : Sl) : Option D := match ds with
  | [d] => match lsOf (see A d) with
    | some es => match prsOf es with
      | some ps => some (.mu ((sortP ps).map pd))
      | none => none
    | none => none
  | _ => none
section
variable {z : Z} {X : Cx}
theorem cd_sorted : CallD z (rSortedPO z.K) gSorted := by
  intro σ A ts H vs ds d' hl h hg Q q
  unfold gSorted at hg
  split at hg
  · rename_i d
    obtain ⟨v, rfl⟩ := call1 hl rfl
    have h : z.A σ A ((v, d) :: ts) H := h
    split at hg
    · rename_i es hs
      split at hg
      · rename_i ps hp
        cases hg
        have e1 := prsOf_eq hp
        subst e1
        obtain ⟨G, L, gh, r, f⟩ := h.open (lsOf_al hs)
        obtain ⟨a, xs, M, rfl, k1, s1⟩ := r.list gh hs
        obtain ⟨m1, m2⟩ := rs_pd s1
        refine ⟨a, xs, kf G, rfl, k1, fun x m => ?_, fun ys p hs hb hn => q _ _ (f.lst gh ?_ hn)⟩
        · obtain ⟨_, t, e2, e3⟩ := m2 x m
          exact ⟨t, e2, gh _ _ e3⟩
        · have pm := hb.perm
          have e4 : ys.map (kf G) = sortP ps := by
            refine sortP_uniq ?_ (by rw [← m1]; exact pm.map _)
            rw [List.pairwise_map]
            exact hs.imp fun {x y} u => by
              have u2 : SrtO.lexB (kf G y) (kf G x) = false := u
              unfold leP
              rw [u2]
              rfl
          rw [← e4]
          exact rs_of fun y m => (m2 y (pm.mem_iff.mp m)).1
      · cases hg
    · cases hg
  · cases hg

/-! ### is not True -/
def gNotB (d e : D) (A : Sl) : Option D := match d, e with
  | .bl b, .bl c => some (.bl (!(b == c)))
  | _, _ => none
def rNotB : R2 := fun x y H Q => ∃ b c, x = .bl b ∧ y = .bl c ∧ Q (.bl (!(b == c))) H
theorem op_notB : OpR X (compareOp .IsNot) rNotB := by
  intro pins s σ H x y v u Q I rx ry h
  obtain ⟨b, c, rfl, rfl, q⟩ := h
  cases rx
  cases ry
  exact wpAny_isNot_plain rfl (fin_bl I q (by cases b <;> cases c <;> rfl))
theorem opd_notB : OpD z rNotB gNotB := by
  intro σ A ts H v u d e d' h hg Q q
  unfold gNotB at hg
  split at hg
  · rename_i b c
    cases hg
    have e1 := h.bl
    have e2 := h.drop.bl
    exact ⟨b, c, e2, e1, q _ _ (h.drop.drop.pbl _)⟩
  · cases hg
end
end Ab
end
section
namespace Ab
open PySem PySem.Spec PyProof.Rows L2

/-! ### raise of an own class -/
def fRaise (c : Str) : FS := fun A => .exc c A
/-- what the text must say of an own class over ValueError, at C, to raise it -/
structure OwnX (K : PySem.W.Frag) (mg : Str → Option Value) (x : Str) (C : Addr) (bm : List Value) : Prop where
  g : mg x = some (.ref C)
  k : PySem.W.keepIn K (.ref C) = true
  b : PySem.W.subIn K (.ref C) (.type "BaseException") = some true
  t : PySem.W.typeIn K (.ref C) = some (.type "type")
section
variable {z : Z} {X : Cx}
theorem qs_raise {x m : Str} {C : Addr} {j : Nat} {p p2 pos pos' : Pos} {bm : List Value} {newId initId B : String} (F : ExcBaseFacts B newId initId bm) (hc : X.calm = true) (tk : Takes X z.W) (q : PySem.W.excIn X.K C bm newId = true)
    (gC : X.mg x = some (.ref C)) (kC : PySem.W.keepIn X.K (.ref C) = true) (hb : PySem.W.subIn X.K (.ref C) (.type "BaseException") = some true) (ht : PySem.W.typeIn X.K (.ref C) = some (.type "type")) (hg : Gl X x) (hcl : z.cl x = .ref C)
    (hdb : (x == ("__debug__" : Str)) = false := by decide) :
    PS X (.Raise (some (.Call (.Name x p) [.Constant (.str m) j p2] [] pos)) none pos') (tS z (fRaise x)) := by
  refine PS.imp (ps_raise hc tk (pmk_own F q gC kC (raises_own hb ht) hg hdb)) fun D σ H ⟨A, ts, hA, cl, hp⟩ => ?_
  have hw : z.W (z.cl x) none σ H := hp σ H hA
  rw [hcl] at hw
  exact hw
end
end Ab
namespace Ab
open PySem PySem.Spec PyProof.Rows L2
/-! ### zip of two lists -/
/-- frozen lists only -/
def frOf : D → Option (List D)
  | .lst ds => some ds
  | .fro ds => some ds
  | _ => none
def fZipL (fa fb : FE) : FI := fun A => (fCons fa (fCons fb fNil) A).bind fun ds A1 => match closeL ds A1 with
  | some ([d1, d2], A2) => match frOf (fz d1), frOf (fz d2) with
    | some xs, some ys => if isFs xs = true ∧ isFs ys = true then .ok (List.zipWith (fun x y => .tup [x, y]) xs ys) A2 else .stuck
    | _, _ => .stuck
  | _ => .stuck
section
variable {z : Z} {X : Cx} {fa fb : FE}
theorem R.fro2 {K : Fw} {G H : Hp} {v : V} {d : D} {L : List Addr} {ds : List D} (g : Same G H) (r : R K G H v d L) (h : frOf d = some ds) : L = [] ∧ ∃ a xs, v = .ref a ∧ SqL K H a xs ∧ Rs K G H xs ds [] := by
  cases r <;> simp only [frOf] at h <;> try cases h
  · rename_i q s; exact ⟨rfl, _, _, rfl, .inl (.inl (g _ _ q)), s⟩
  · rename_i q s; exact ⟨rfl, _, _, rfl, sq_l g q, s⟩
theorem frOf_al {d : D} {ds : List D} (h : frOf d = some ds) : ∀ j, d ≠ .al j := fun j e => by rw [e] at h; cases h
theorem itd_zipL {a b : Addr} {d1 d2 : D} {xs ys : List D} (hx : frOf d1 = some xs) (hy : frOf d2 = some ys) : ItD z (Itz z.K a b) [(.ref a, d1), (.ref b, d2)] (List.zipWith (fun x y => .tup [x, y]) xs ys) := by
  have key : ∀ (σ : L2.St) (A : Sl) (ts : Ts) (H : Hp), z.A σ A ([(.ref a, d1), (.ref b, d2)] ++ ts) H → ∃ G vs us, Same G H ∧ SqL z.K H a vs ∧ SqL z.K H b us ∧ Rs z.K G H vs xs [] ∧ Rs z.K G H us ys [] ∧ Fin z.K z.B σ A ([(.ref a, d1), (.ref b, d2)] ++ ts) H G := by
    intro σ A ts H h
    obtain ⟨G, L1, L2, gd, tm, sl, nd, ow⟩ := id h
    have f : Fin z.K z.B σ A ([(.ref a, d1), (.ref b, d2)] ++ ts) H G := fun w e H' G' L' he g1 g2 g3 r rn rf => step_core gd tm sl nd ow he g1 g2 g3 r rn rf
    have gh := gd.gh
    cases tm with
    | al e t => exact absurd rfl (frOf_al hx _)
    | cons r1 t1 =>
      cases t1 with
      | al e t => exact absurd rfl (frOf_al hy _)
      | cons r2 t2 =>
        obtain ⟨_, a1, vs, e1, k1, s1⟩ := R.fro2 gh r1 hx
        obtain ⟨_, b1, us, e2, k2, s2⟩ := R.fro2 gh r2 hy
        cases e1
        cases e2
        exact ⟨G, vs, us, gh, k1, k2, s1, s2, f⟩
  refine ⟨fun σ A ts H i h hi => ?_, fun σ A ts H i x H' e h he hyl => ?_, fun σ A ts H i h hi => ?_⟩
  · obtain ⟨G, vs, us, gh, k1, k2, s1, s2, f⟩ := key σ A ts H h
    rw [List.length_zipWith] at hi
    have l1 := s1.length
    have l2 := s2.length
    have i1 : i < vs.length := by omega
    have i2 : i < us.length := by omega
    exact ⟨vs, us, vs[i], us[i], k1, k2, List.getElem?_eq_getElem i1, List.getElem?_eq_getElem i2⟩
  · obtain ⟨G, vs, us, gh, k1, k2, s1, s2, f⟩ := key σ A ts H h
    obtain ⟨T, x1, y1, rfl, hT, rfl, g1, g2⟩ := hyl
    have h1 := g1 vs k1
    have h2 := g2 us k2
    rw [List.getElem?_zipWith] at he
    obtain ⟨e1, _, j1, ra, sa⟩ := s1.get h1
    obtain ⟨e2, _, j2, rb, sb⟩ := s2.get h2
    rw [j1, j2] at he
    obtain rfl : D.tup [e1, e2] = e := Option.some.inj he
    have ea := List.sublist_nil.mp sa
    subst ea
    have eb := List.sublist_nil.mp sb
    subst eb
    exact f.tup gh (.cons (L := []) (L' := []) ra (.cons (L := []) (L' := []) rb .nil)) hT
  · obtain ⟨G, vs, us, gh, k1, k2, s1, s2, f⟩ := key σ A ts H h
    rw [List.length_zipWith] at hi
    have l1 := s1.length
    have l2 := s2.length
    exact ⟨vs, us, k1, k2, by omega⟩
end
end Ab
namespace Ab
open PySem PySem.Spec PyProof.Rows L2
section
variable {z : Z} {X : Cx} {fa fb : FE}
theorem noAl_two {d1 d2 : D} (h : noAl [d1, d2] = true) : (∀ i, d1 ≠ .al i) ∧ ∀ i, d2 ≠ .al i := by
  constructor <;> intro i e <;> subst e <;> simp [noAl] at h
theorem qi_zipL {e e2 : Expr} {p pos tpos : Pos} {elts : List Expr} {kk : Nat} (hK : X.K = z.K) (hg : Gl X "zip") (hm : X.mg "zip" = none) (ha : PE X e (tE z fa)) (hb : PE X e2 (tE z fb))
    (hs : starEach [e, e2] X.env = (false, eval e X.env) :: starEach [e2] X.env := by rfl) (hs2 : starEach [e2] X.env = (false, eval e2 X.env) :: starEach [] X.env := by rfl) (hpl : (backTo pos (starEach [e2] X.env)).any (·.1) = false := by rfl) :
    PI X (.Tuple elts kk tpos) (.Call (.Name "zip" p) [e, e2] [] pos) (tI z (fZipL fa fb)) := by
  refine ⟨fun pins s σ H R I w => (pi_zip hg hm (qa_cons ha (qa_cons hb qa_nil hs2) hs) hs hpl).run pins s σ H R I ?_⟩
  obtain ⟨A, ts, hA, hp⟩ := w
  refine ⟨A, ts, hA, ?_⟩
  unfold fZipL at hp
  cases ea : fCons fa (fCons fb fNil) A with
  | stuck => rw [ea] at hp; exact (show False from hp).elim
  | exc c A1 => rw [ea] at hp; exact hp
  | ok ds A1 =>
    rw [ea] at hp
    simp only [Ou.bind_ok] at hp
    intro vs H1 hl h1
    split at hp
    · rename_i d1 d2 A2 ec
      obtain ⟨h2, l2, n2⟩ := h1.close hl ec
      split at hp
      · rename_i xs ys e1 e2
        split at hp
        · match vs, l2 with
          | [v1, v2], _ =>
            obtain ⟨m1, m2⟩ := noAl_two n2
            have h3 : z.A σ A2 ((v1, fz d1) :: (v2, d2) :: ts) H1 := Abs.fz h2 m1
            have h4 : z.A σ A2 ((v2, fz d2) :: (v1, fz d1) :: ts) H1 := Abs.fz (h3.perm (List.Perm.swap _ _ _)) m2
            have h5 : z.A σ A2 ((v1, fz d1) :: (v2, fz d2) :: ts) H1 := h4.perm (List.Perm.swap _ _ _)
            have n1 := fz_al d1 m1
            have n2' := fz_al d2 m2
            generalize fz d1 = f1 at h5 e1 n1
            generalize fz d2 = f2 at h5 e2 n2'
            obtain ⟨G, L1, L2, gd, tm, sl, nd, ow⟩ := id h5
            cases tm with
            | al e t => exact absurd rfl (n1 _)
            | cons r1 t1 =>
              cases t1 with
              | al e t => exact absurd rfl (n2' _)
              | cons r2 t2 =>
                obtain ⟨_, a1, us, e3, k1, s1⟩ := Ab.R.fro2 gd.gh r1 e1
                obtain ⟨_, b1, ws, e4, k2, s2⟩ := Ab.R.fro2 gd.gh r2 e2
                subst e3
                subst e4
                rw [hK]
                exact ⟨_, _, _, _, rfl, k1, k2, hp _ [(_, f1), (_, f2)] _ (fun p m j e => by
                  rcases List.mem_cons.mp m with rfl | m
                  · exact n1 j e
                  · rw [List.mem_singleton.mp m] at e; exact n2' j e) (itd_zipL e1 e2) h5⟩
        · exact (show False from hp).elim
      · exact (show False from hp).elim
    · exact (show False from hp).elim
end
end Ab
namespace Ab
open PySem PySem.Spec PyProof.Rows L2
/-- a def's promise, whatever places the classes have -/
def spAny (K : Fw) (n : Nat) (F : List D → Ro) : Sp := fun vs H Q E => ∃ G ds, Same G H ∧ ds.length = n ∧ Rs K G G vs ds [] ∧ match F ds with
  | .ok r => ∀ v H' G' L, Same H H' → Same G G' → Same G' H' → (∀ a, H a ≠ none → G a = none → G' a = none) → R K G' H' v r L → L.Nodup → (∀ a ∈ L, H a = none) → Q v H'
  | .exc _ => ∀ (c : Value) H', Same H H' → E c none H'
  | .stuck => False
theorem spAny_to {K : Fw} {n : Nat} {F : List D → Ro} (cl : Str → Value) : ∀ vs H Q E, spAny K n F vs H Q E → spF K cl n F vs H Q E := by
  intro vs H Q E ⟨G, ds, h1, h2, h3, h4⟩
  refine ⟨G, ds, h1, h2, h3, ?_⟩
  cases e : F ds with
  | ok r => rw [e] at h4; exact h4
  | exc c => rw [e] at h4; exact h4 (cl c)
  | stuck => rw [e] at h4; exact h4
theorem law_any {K : Fw} {F : List D → Ro} {H : Hp} {a : Addr} {ns : List Int} (hF : F [.fro (ns.map D.int)] = .ok (.bl true)) (hS : SqL K H a (ns.map V.int)) : spAny K 1 F [.ref a] H (fun v _ => v = .bl true) fun _ _ _ => False := by
  obtain ⟨G, ds, h1, h2, h3, h4⟩ := law_sp (cl := fun _ => .none) hF hS
  refine ⟨G, ds, h1, h2, h3, ?_⟩
  cases e : F ds with
  | ok r => rw [e] at h4; exact h4
  | exc c => rw [e] at h4; exact fun _ => h4
  | stuck => rw [e] at h4; exact h4
end Ab
end
section
namespace Ab
open PySem PySem.Spec PyProof.Rows L2

/-! ### enumerate(a tuple) -/
theorem newEnumT (l : Addr) (items : Array Value) :
    Meets (Builtin.«enumerate.__new__» ⟨[.type "enumerate", .ref l], []⟩) (fun _ R s => s.heap.IsTuple l items ∧
      R (.ok (.ret (.ref (s.heap.push { cls := .type "tuple_iterator", data := .fields #[.ref l, .int 0 0] }).objs.size)))
        { s with heap := (s.heap.push { cls := .type "tuple_iterator", data := .fields #[.ref l, .int 0 0] }).push { cls := .type "enumerate", data := .fields #[.none, .bool false, .ref s.heap.objs.size, rawInt 0, .none, .none] } }) :=
  .of_wp fun prog w A R s h => by
    obtain ⟨hp, g, d, tk, os⟩ := s; obtain ⟨tl, h⟩ := h
    have hsub := sub_enumerate
    have tl2 : Heap.IsTuple (Shared.heap ⟨hp, g, d, tk, os⟩) l items := tl
    obtain ⟨⟨oc, od, odt, osl⟩, el, ec, n, ed⟩ := id tl
    dsimp only at ec ed
    subst ec
    subst ed
    wp_walk using AutoSeq1.wpAny_loadPart' el
    refine wpAny_stack_any fun st => wpAny_pure ?_
    split
    · rename_i c _ _ _ _ _
      cases (c == Value.type "enumerate") <;> (wp_walk using AutoSeq1.wpAny_loadPart' el, wpAny_pyIter_tuple tl2; exact ⟨_, rfl, h⟩)
    · wp_walk using AutoSeq1.wpAny_loadPart' el, wpAny_pyIter_tuple tl2
      exact ⟨_, rfl, h⟩
section
variable {prog : Program} {w : World} {A : Around} {E : Value → Shared → Prop} {s : Shared}
theorem callEnumT {l : Addr} {items : Array Value} {Q : Value → Shared → Prop} (tl : s.heap.IsTuple l items)
    (h : ∀ h', IsEnum h' (s.heap.objs.size + 1) s.heap.objs.size 0 .none → h'.IsTupleIter s.heap.objs.size l 0 → (∀ b o, s.heap.get? b = some o → h'.get? b = some o) → Q (.ref (s.heap.objs.size + 1)) { s with heap := h' }) :
    wpAny (model prog w) A (call (.type "enumerate") [.ref l]) Q E s := by
  refine callType_new F.called_enumerate (by decide) (F.typeCall_enumerate_1 _) (F.newCall_enumerate_1 _) (fun obj => F.args_object_init_2 obj _) F.entry_enumerate_new (newEnumT l items) ⟨tl, ?_⟩
  generalize ho : ({ cls := .type "tuple_iterator", data := .fields #[.ref l, .int 0 0] } : Obj) = o
  have fo : o.isFreed = false := by rw [← ho]; rfl
  have sz : (s.heap.push o).objs.size = s.heap.objs.size + 1 := Heap.size_push ..
  show _ ∧ _
  rw [sz]
  have en : IsEnum ((s.heap.push o).push { cls := .type "enumerate", data := .fields #[.none, .bool false, .ref s.heap.objs.size, rawInt 0, .none, .none] }) (s.heap.objs.size + 1) s.heap.objs.size 0 .none := by
    have q := Heap.get?_push_size (s.heap.push o) (o := { cls := .type "enumerate", data := .fields #[.none, .bool false, .ref s.heap.objs.size, rawInt 0, .none, .none] }) rfl
    rw [sz] at q
    exact q
  refine ⟨⟨_, en, rfl⟩, h _ en ⟨o, Heap.get?_push_of_some _ (Heap.get?_push_size _ fo), ?_, ?_⟩ fun b ob x => Heap.get?_push_of_some _ (Heap.get?_push_of_some _ x)⟩
  · rw [← ho]
  · rw [← ho]; rfl
end
def ItN (K : PySem.W.Frag) (a : Addr) (c : Nat) : It :=
  ⟨fun i H => i < c ∧ ∃ (xs : List V) (x : V), SqT K H a xs ∧ xs[i]? = some x,
    fun i H v H' => ∃ T x, (v = .ref T ∧ H T = none) ∧ H' = upd H T (.tup [.int (i : Nat), x]) ∧ ∀ xs, SqT K H a xs → xs[i]? = some x,
    fun i H => c ≤ i ∧ ∃ xs : List V, SqT K H a xs ∧ xs.length = c⟩
def NSt (e it a : Addr) (c : Nat) (i : Nat) (h : Heap) : Prop := (∃ old, IsEnum h e it ((i : Nat) : Int) old) ∧ h.IsTupleIter it a i ∧ i ≤ c
theorem two_ {e it q : Addr} (h : q ∈ [e, it]) : q = e ∨ q = it := by simpa using h
theorem turnN {P : Program} {w : World} {K : PySem.W.Frag} {elts : List Expr} {kk : Nat} {tpos : Pos} {a e it : Addr} {c : Nat} (h1 : e ≠ it) (h2 : a ≠ e) (h3 : a ≠ it) :
    Turn P w K (.Tuple elts kk tpos) (ItN K a c) [e, it] e (NSt e it a c) where
  mem := List.mem_cons_self
  obj := fun i h st q hq => by
    obtain ⟨⟨old, m1⟩, ⟨o, m2, _, d2⟩, _⟩ := st
    rcases two_ hq with rfl | rfl
    · exact ⟨_, m1, fun v u => nomatch u⟩
    · exact ⟨o, m2, fun v u => by rw [d2] at u; cases u⟩
  keep := fun i h h' st k => by
    obtain ⟨⟨old, m1⟩, m2, m3⟩ := st
    exact ⟨⟨old, k _ (by simp) _ m1⟩, m2.at fun o => k _ (by simp) o, m3⟩
  item := by
    intro X e1 e2 e3 hcalm i pins s σ H E I hf st hg
    subst e1; subst e2; subst e3
    obtain ⟨⟨old, m1⟩, m2, m3⟩ := st
    obtain ⟨hic, xs, x, sx, gx⟩ := hg
    obtain ⟨its, rv, p, _⟩ := I.tuple sx
    obtain ⟨u, hu, ru⟩ := rv.get gx
    have zl : e < s.heap.objs.size := Heap.lt_size m1
    have hh : X.A.in1.handled = none := I.ok.hd hcalm
    have lt1 : i < its.toArray.size := by rw [List.size_toArray]; exact (List.getElem?_eq_some_iff.mp hu).1
    refine wpAny_pyNext_enum_itemD (Draws.tuple hh it a h3 its.toArray) m1 ⟨m2, p⟩ lt1 h1 (by simp [h1, h2.symm]) fun w1 h' tk y1 eo st1 hT hsz hk => ?_
    have y1' : its[i]? = some w1 := by simpa using y1
    obtain rfl : u = w1 := Option.some.inj (hu.symm.trans y1')
    refine ⟨_, rfl, wpAny_letOwnedTupleGo_enum (s := { s with heap := h', toks := tk + 1 }) eo fun h2 z2 sb => ?_⟩
    have T2 : IsPair h2 s.heap.objs.size (.int i tk) u := (sb.2 _ (Nat.ne_of_gt zl)).trans hT
    have fr : ∀ q o, q ∉ [e, it] → s.heap.get? q = some o → h2.get? q = some o := fun q o nq g => by
      simp only [List.mem_cons, List.not_mem_nil, or_false, not_or] at nq
      exact (sb.2 q nq.1).trans (hk q o nq.1 nq.2 g)
    have obj : ObjOk X.prog X.w (upd H s.heap.objs.size (.tup [.int (i : Nat), x])) h2 s.heap.objs.size (.tup [.int (i : Nat), x]) := by
      refine ⟨?_, [.int i tk, u], .cons ⟨_, rfl⟩ (.cons ru .nil), ⟨_, T2, rfl, _, rfl⟩⟩
      show 2 ≤ sizeLine
      decide
    have I2 : Inv X pins σ (upd H s.heap.objs.size (.tup [.int (i : Nat), x])) { s with heap := h2, toks := tk + 1 } := I.turnedNew fr hf (Nat.le_refl _) obj
    refine ⟨.ref s.heap.objs.size, _, I2, rfl, ⟨_, x, ⟨rfl, I.hok.fresh (Nat.le_refl _)⟩, rfl, fun l hl => ?_⟩, ⟨⟨u, ?_⟩, ?_, hic⟩, fun q hq => ?_⟩
    · rw [I.tuple_inj hl sx]; exact gx
    · rw [show ((i + 1 : Nat) : Int) = (i : Int) + 1 by omega]; exact z2
    · exact st1.1.at fun o g => (sb.2 _ h1.symm).trans g
    · have old : q < s.heap.objs.size := by
        rcases two_ hq with rfl | rfl
        · exact zl
        · obtain ⟨_, e1, _⟩ := m2; exact Heap.lt_size e1
      rw [upd_ne (Nat.ne_of_lt old)]
      exact (hf q hq).1
  done := by
    intro X e1 e2 e3 hcalm i pins s σ H E I hf st hg
    subst e1; subst e2; subst e3
    obtain ⟨⟨old, m1⟩, m2, m3⟩ := st
    obtain ⟨hic, xs, sx, hlen⟩ := hg
    obtain ⟨its, rv, p, _⟩ := I.tuple sx
    have hh : X.A.in1.handled = none := I.ok.hd hcalm
    have l1 : its.toArray.size = i := by rw [List.size_toArray, ← rv.length]; omega
    refine wpAny_pyNext_enum_endD (Draws.tuple hh it a h3 its.toArray) m1 (by rw [l1]; exact ⟨m2, p⟩) fun h' eb => ⟨rfl, I.turnedL (t' := s.toks) (fun q o nq g => ?_) hf⟩
    simp only [List.mem_cons, List.not_mem_nil, or_false, not_or] at nq
    exact eb q o nq.2 g
  self := fun A i s Q E st h => let ⟨⟨_, he⟩, _⟩ := st; wpAny_pyIter_enum he h
def iEnumT (K : PySem.W.Frag) (ta : TA) : TI := fun σ H R => ta σ H fun vs H1 => ∃ a xs, vs = [.ref a] ∧ SqT K H1 a xs ∧ R (ItN K a xs.length) H1
theorem pi_enumT {X : Cx} {e : Expr} {ta : TA} {p pos tpos : Pos} {elts : List Expr} {kk : Nat} (hg : Gl X "enumerate") (hm : X.mg "enumerate" = none) (ha : PA X [e] ta) (hs : starEach [e] X.env = [(false, eval e X.env)] := by rfl) :
    PI X (.Tuple elts kk tpos) (.Call (.Name "enumerate" p) [e] [] pos) (iEnumT X.K ta) := by
  refine ⟨fun pins s σ H R I h => Call_ (ld_blt I hg hm boot_enumerate (PyProof.Rows.callWith_type1 (thn (ha.run pos pins s σ H _ I h) fun us s1 ⟨vs, H1, I1, r1, q1⟩ => ?_) hs rfl))⟩
  obtain ⟨a, xs, rfl, sx, q⟩ := q1
  obtain ⟨v1, rfl, ra⟩ := vals1 r1
  cases ra
  obtain ⟨its, rv, p1, _⟩ := I1.tuple sx
  obtain ⟨o1, ho1, _⟩ := id p1
  have la : a < s1.heap.objs.size := Heap.lt_size ho1
  refine callEnumT p1 fun h' he hit hk => wpAny_pyIter_enum he ?_
  have I2 : Inv X pins σ H1 { s1 with heap := h' } := I1.kept (t' := s1.toks) hk
  refine ⟨s1.heap.objs.size + 1, [s1.heap.objs.size + 1, s1.heap.objs.size], _, _, H1, rfl, I2, turnN (Nat.succ_ne_self _) (Nat.ne_of_lt (Nat.lt_succ_of_lt la)) (Nat.ne_of_lt la), ⟨⟨.none, he⟩, hit, Nat.zero_le _⟩, fun q hq => ?_, q⟩
  have up : s1.heap.objs.size ≤ q := by rcases two_ hq with rfl | rfl <;> first | exact Nat.le_refl _ | exact Nat.le_add_right _ _
  exact I1.fpOk up (I1.hok.fresh up)
end Ab
namespace Ab
open PySem PySem.Spec PyProof.Rows L2
def enumD (ds : List D) : List D := List.zipWith (fun (i : Nat) d => D.tup [.int (i : Nat), d]) (List.range ds.length) ds
theorem enumD_len (ds : List D) : (enumD ds).length = ds.length := by unfold enumD; simp
theorem enumD_get {ds : List D} {i : Nat} {e : D} (h : (enumD ds)[i]? = some e) : ∃ d, ds[i]? = some d ∧ e = .tup [.int (i : Nat), d] := by
  have hi : i < ds.length := by rw [← enumD_len ds]; exact (List.getElem?_eq_some_iff.mp h).1
  unfold enumD at h
  rw [List.getElem?_zipWith, List.getElem?_range hi, List.getElem?_eq_getElem hi] at h
  exact ⟨ds[i], List.getElem?_eq_getElem hi, (Option.some.inj h).symm⟩
def fEnum (fa : FE) : FI := fun A => (fa A).bind fun d A1 => match closeD d A1 with
  | some (e, A2) => match fz e with
    | .tup ds => if isFs ds = true then .ok (enumD ds) A2 else .stuck
    | .lst ds => .ok (enumD ds) A2
    | .fro ds => .ok (enumD ds) A2
    | _ => .stuck
  | none => .stuck
section
variable {z : Z} {X : Cx} {fa : FE}
theorem itd_enumT {a : Addr} {ds : List D} (hf : isFs ds = true) : ItD z (ItN z.K a ds.length) [(.ref a, .tup ds)] (enumD ds) := by
  have key : ∀ (σ : L2.St) (A : Sl) (ts : Ts) (H : Hp), z.A σ A ([(.ref a, .tup ds)] ++ ts) H → ∃ G xs, Same G H ∧ SqT z.K H a xs ∧ Rs z.K G H xs ds [] ∧ Fin z.K z.B σ A ([(.ref a, .tup ds)] ++ ts) H G := by
    intro σ A ts H h
    obtain ⟨G, L1, L2, gd, tm, sl, nd, ow⟩ := id h
    have f : Fin z.K z.B σ A ([(.ref a, .tup ds)] ++ ts) H G := fun w e H' G' L' he g1 g2 g3 r rn rf => step_core gd tm sl nd ow he g1 g2 g3 r rn rf
    cases tm with
    | cons r t =>
      cases r with
      | tup q rs =>
        have e1 := rs.isFs hf
        subst e1
        exact ⟨G, _, gd.gh, .inl (.inl (gd.gh _ _ q)), rs, f⟩
  refine ⟨fun σ A ts H i h hi => ?_, fun σ A ts H i x H' e h he hyl => ?_, fun σ A ts H i h hi => ?_⟩
  · obtain ⟨G, xs, gh, k, s, f⟩ := key σ A ts H h
    rw [enumD_len] at hi
    have i1 : i < xs.length := by rw [s.length]; exact hi
    exact ⟨hi, xs, xs[i], k, List.getElem?_eq_getElem i1⟩
  · obtain ⟨G, xs, gh, k, s, f⟩ := key σ A ts H h
    obtain ⟨T, x1, ⟨rfl, hT⟩, rfl, g1⟩ := hyl
    obtain ⟨d, hd, rfl⟩ := enumD_get he
    have r := s.nil_get (g1 xs k) hd
    exact f.tup gh (.cons (L := []) (L' := []) (.int _) (.cons (L := []) (L' := []) r .nil)) hT
  · obtain ⟨G, xs, gh, k, s, f⟩ := key σ A ts H h
    rw [enumD_len] at hi
    exact ⟨hi, xs, k, s.length⟩
theorem itd_enumL {a : Addr} {d : D} {ds : List D} (hd : frOf d = some ds) : ItD z (Ite z.K a) [(.ref a, d)] (enumD ds) := by
  have key : ∀ (σ : L2.St) (A : Sl) (ts : Ts) (H : Hp), z.A σ A ([(.ref a, d)] ++ ts) H → ∃ G xs, Same G H ∧ SqL z.K H a xs ∧ Rs z.K G H xs ds [] ∧ Fin z.K z.B σ A ([(.ref a, d)] ++ ts) H G := by
    intro σ A ts H h
    obtain ⟨G, L1, L2, gd, tm, sl, nd, ow⟩ := id h
    have f : Fin z.K z.B σ A ([(.ref a, d)] ++ ts) H G := fun w e H' G' L' he g1 g2 g3 r rn rf => step_core gd tm sl nd ow he g1 g2 g3 r rn rf
    cases tm with
    | al e t => exact absurd rfl (frOf_al hd _)
    | cons r t =>
      obtain ⟨_, a1, vs, e1, k1, s1⟩ := Ab.R.fro2 gd.gh r hd
      cases e1
      exact ⟨G, vs, gd.gh, k1, s1, f⟩
  refine ⟨fun σ A ts H i h hi => ?_, fun σ A ts H i x H' e h he hyl => ?_, fun σ A ts H i h hi => ?_⟩
  · obtain ⟨G, xs, gh, k, s, f⟩ := key σ A ts H h
    rw [enumD_len] at hi
    have i1 : i < xs.length := by rw [s.length]; exact hi
    exact ⟨xs, xs[i], k, List.getElem?_eq_getElem i1⟩
  · obtain ⟨G, xs, gh, k, s, f⟩ := key σ A ts H h
    obtain ⟨T, x1, rfl, hT, rfl, g1⟩ := hyl
    obtain ⟨d2, hd2, rfl⟩ := enumD_get he
    have r := s.nil_get (g1 xs k) hd2
    exact f.tup gh (.cons (L := []) (L' := []) (.int _) (.cons (L := []) (L' := []) r .nil)) hT
  · obtain ⟨G, xs, gh, k, s, f⟩ := key σ A ts H h
    rw [enumD_len] at hi
    exact ⟨xs, k, by rw [s.length]; exact hi⟩
theorem qi_enum {e : Expr} {p pos tpos : Pos} {elts : List Expr} {kk : Nat} (hK : X.K = z.K) (hg : Gl X "enumerate") (hm : X.mg "enumerate" = none) (ha : PE X e (tE z fa)) (hs : starEach [e] X.env = [(false, eval e X.env)] := by rfl) (hs2 : starEach [e] X.env = (false, eval e X.env) :: starEach [] X.env := by rfl) :
    PI X (.Tuple elts kk tpos) (.Call (.Name "enumerate" p) [e] [] pos) (tI z (fEnum fa)) := by
  have hA1 : PA X [e] (L2.tCons (tE z fa) L2.tNil) := pa_cons ha pa_nil hs2
  refine ⟨fun pins s σ H R I w => ?_⟩
  obtain ⟨A, ts, hA, hp⟩ := w
  unfold fEnum at hp
  cases ea : fa A with
  | stuck => rw [ea] at hp; exact (show False from hp).elim
  | exc c A1 =>
    rw [ea] at hp
    refine (pi_enum hg hm hA1 hs).run pins s σ H R I ⟨A, ts, hA, ?_⟩
    rw [ea]; exact hp
  | ok d A1 =>
    rw [ea] at hp
    simp only [Ou.bind_ok] at hp
    split at hp
    · rename_i e1 A2 ec
      have fin : ∀ v H1, z.A σ A1 ((v, d) :: ts) H1 → z.A σ A2 ((v, fz e1) :: ts) H1 := fun v H1 h1 => by
        obtain ⟨h2, n2⟩ := h1.closeD ec
        exact h2.fz n2
      split at hp
      · rename_i ds ef
        rw [ef] at fin
        split at hp
        · rename_i hf
          refine (pi_enumT hg hm hA1 hs).run pins s σ H R I ⟨A, ts, hA, ?_⟩
          rw [ea]
          intro v H1 h1
          have h2 := fin v H1 h1
          obtain ⟨G, L, gh, r, _⟩ := h2.open (fun j q => nomatch q)
          have r : Ab.R z.K G H1 v (.tup ds) L := r
          cases r with
          | tup q rs =>
            refine ⟨_, _, rfl, .inl (.inl (gh _ _ q)), ?_⟩
            rw [rs.length, hK]
            exact hp _ [(_, .tup ds)] _ (fun p m j e => by rw [List.mem_singleton.mp m] at e; cases e) (itd_enumT hf) h2
        · exact (show False from hp).elim
      · rename_i ds ef
        rw [ef] at fin
        refine (pi_enum hg hm hA1 hs).run pins s σ H R I ⟨A, ts, hA, ?_⟩
        rw [ea]
        intro v H1 h1
        have h2 := fin v H1 h1
        obtain ⟨G, L, gh, r, _⟩ := h2.open (fun j q => nomatch q)
        have r : Ab.R z.K G H1 v (.lst ds) L := r
        obtain ⟨_, a1, vs, e2, k1, s1⟩ := Ab.R.fro2 gh r rfl
        subst e2
        rw [hK]
        exact ⟨_, _, rfl, k1, hp _ [(_, .lst ds)] _ (fun p m j e => by rw [List.mem_singleton.mp m] at e; cases e) (itd_enumL rfl) h2⟩
      · rename_i ds ef
        rw [ef] at fin
        refine (pi_enum hg hm hA1 hs).run pins s σ H R I ⟨A, ts, hA, ?_⟩
        rw [ea]
        intro v H1 h1
        have h2 := fin v H1 h1
        obtain ⟨G, L, gh, r, _⟩ := h2.open (fun j q => nomatch q)
        have r : Ab.R z.K G H1 v (.fro ds) L := r
        obtain ⟨_, a1, vs, e2, k1, s1⟩ := Ab.R.fro2 gh r rfl
        subst e2
        rw [hK]
        exact ⟨_, _, rfl, k1, hp _ [(_, .fro ds)] _ (fun p m j e => by rw [List.mem_singleton.mp m] at e; cases e) (itd_enumL rfl) h2⟩
      · exact (show False from hp).elim
    · exact (show False from hp).elim
end
end Ab
end
section
/-! dicts: keys that are tuples (by their entries), keys that are whole numbers -/
namespace Ab
open PySem PySem.Spec PyProof.Rows L2

/- a key's value, by what is tracked -/
mutual
inductive NkV (H : Hp) : V → NestedKey → Prop
  | non : NkV H .non .none
  | bl (b : Bool) : NkV H (.bl b) (.num (if b = true then 1 else 0))
  | int (i : Int) : NkV H (.int i) (.num i)
  | str (x : Str) : NkV H (.str x) (.text x)
  | tup {a : Addr} {xs : List V} {ks : List NestedKey} : H a = some (.tup xs) → NkVs H xs ks → NkV H (.ref a) (.tup ks)
inductive NkVs (H : Hp) : List V → List NestedKey → Prop
  | nil : NkVs H [] []
  | cons {v : V} {k : NestedKey} {vs : List V} {ks : List NestedKey} : NkV H v k → NkVs H vs ks → NkVs H (v :: vs) (k :: ks)
end
section
variable {K : Fw} {G H H' : Hp}
mutual
theorem R.nk (g : Same G H) : ∀ {v : V} {d : D} {L : List Addr} {k : NestedKey}, R K G H v d L → nkD d = some k → NkV H v k
  | _, _, _, _, .non, e => by rw [nkD] at e; cases e; exact .non
  | _, _, _, _, .bl b, e => by rw [nkD] at e; cases e; exact .bl b
  | _, _, _, _, .int i, e => by rw [nkD] at e; cases e; exact .int i
  | _, _, _, _, .str x, e => by rw [nkD] at e; cases e; exact .str x
  | _, _, _, _, .ty x, e => by rw [nkD] at e; cases e
  | _, _, _, _, .tup (ds := ds) q r, e => by
    rw [nkD] at e
    cases h : nkDs ds with
    | none => rw [h] at e; cases e
    | some ks => rw [h] at e; cases e; exact .tup (g _ _ q) (Rs.nk g r h)
  | _, _, _, _, .lst q r, e => by rw [nkD] at e; cases e
  | _, _, _, _, .fro q r, e => by rw [nkD] at e; cases e
  | _, _, _, _, .mu _ n r, e => by rw [nkD] at e; cases e
  | _, _, _, _, .fdi q o k r, e => by rw [nkD] at e; cases e
  | _, _, _, _, .mdi _ n o k r, e => by rw [nkD] at e; cases e
theorem Rs.nk (g : Same G H) : ∀ {vs : List V} {ds : List D} {L : List Addr} {ks : List NestedKey}, Rs K G H vs ds L → nkDs ds = some ks → NkVs H vs ks
  | _, _, _, _, .nil, e => by rw [nkDs] at e; cases e; exact .nil
  | _, _, _, _, .cons (d := d) (ds := ds) r t, e => by
    rw [nkDs] at e
    cases h1 : nkD d with
    | none => rw [h1] at e; cases e
    | some k =>
      cases h2 : nkDs ds with
      | none => rw [h1, h2] at e; cases e
      | some ks => rw [h1, h2] at e; cases e; exact .cons (R.nk g r h1) (Rs.nk g t h2)
end
mutual
theorem NkV.mono (g : ∀ a xs, H a = some (.tup xs) → H' a = some (.tup xs)) : ∀ {v : V} {k : NestedKey}, NkV H v k → NkV H' v k
  | _, _, .non => .non
  | _, _, .bl b => .bl b
  | _, _, .int i => .int i
  | _, _, .str x => .str x
  | _, _, .tup q r => .tup (g _ _ q) (NkVs.mono g r)
theorem NkVs.mono (g : ∀ a xs, H a = some (.tup xs) → H' a = some (.tup xs)) : ∀ {vs : List V} {ks : List NestedKey}, NkVs H vs ks → NkVs H' vs ks
  | _, _, .nil => .nil
  | _, _, .cons r t => .cons (NkV.mono g r) (NkVs.mono g t)
end
mutual
theorem NkV.is {P : Program} {w : World} {h : Heap} (ok : HOk P w H h) : ∀ {v : V} {k : NestedKey} {u : Value}, NkV H v k → RelV v u → NestedIs h k u
  | _, _, u, .non, r => by cases (show u = Value.none from r); exact .none
  | _, _, u, .bl b, r => by cases (show u = Value.bool b from r); exact .bool rfl
  | _, _, u, .int i, r => by obtain ⟨t, rfl⟩ := (show ∃ t, u = Value.int i t from r); exact .int i t
  | _, _, u, .str x, r => by obtain ⟨t, rfl⟩ := (show ∃ t, u = Value.str x t from r); exact .text x t
  | _, _, u, .tup (a := a) (xs := xs) q n, r => by
    cases (show u = Value.ref a from r)
    obtain ⟨_, its, rv, o, e, hc, n1, ed⟩ := ok a _ q
    exact .tup e hc ed (NkVs.is ok n (by simpa using rv))
theorem NkVs.is {P : Program} {w : World} {h : Heap} (ok : HOk P w H h) : ∀ {vs : List V} {ks : List NestedKey} {us : List Value}, NkVs H vs ks → Vals vs us → NestedAll h ks us
  | _, _, _, .nil, .nil => .nil
  | _, _, _, .cons n t, .cons r s => .cons (NkV.is ok n r) (NkVs.is ok t s)
end
end
/-- at p stands, tracked, a dict with these entries -/
structure NdAt (w : World) (H : Hp) (p : Addr) (xs : List (NestedKey × Addr × Value)) : Prop where
  hp : ∃ ep, H p = some (ndHO w p ep xs)
  sys : (p == sysModules) = false
  len : xs.length ≤ sizeLine
  nd : (xs.map (·.1)).Nodup
  ks : ∀ x ∈ xs, x.1.depth ≤ 8 ∧ NkV H (.ref x.2.1) x.1
section
variable {X : Cx} {pins : List (Addr × Obj)} {σ : L2.St} {H : Hp} {s : Shared} {p b : Addr} {xs : List (NestedKey × Addr × Value)} {k : NestedKey}
theorem NdAt.of (I : Inv X pins σ H s) (h : NdAt X.w H p xs) : s.heap.DictOfH (nestedKind X.prog X.w) p xs := by
  obtain ⟨ep, hep⟩ := h.hp
  obtain ⟨⟨o, es, h1, h2, h3, h4⟩, _, _⟩ := I.hok p _ hep
  refine ⟨o, es, ep, h1, h2, h3, h4, fun x hx => ?_, h.nd⟩
  obtain ⟨hd, hk⟩ := h.ks x hx
  exact ⟨hk.is I.hok rfl, hd⟩
theorem nk_is (I : Inv X pins σ H s) (h : NkV H (.ref b) k) (hd : k.depth ≤ 8) : (nestedKind X.prog X.w).is s.heap k b := ⟨h.is I.hok rfl, hd⟩
theorem nk_room {A : Around} (hu : A.units + 65 < cLine) : (nestedKind X.prog X.w).room A.in1 := by show A.units + 1 + 8 < cLine; omega
theorem nd_obj {P : Program} {w : World} {h : Heap} {p : Addr} {xs : List (NestedKey × Addr × Value)} (hd : h.DictOfH (nestedKind P w) p xs) : ∃ ep, ∀ H : Hp, ObjOk P w H h p (ndHO w p ep xs) := by
  obtain ⟨o, es, ep, h1, h2, h3, h4, _, _⟩ := hd
  exact ⟨ep, fun _ => ⟨⟨o, es, h1, h2, h3, h4⟩, ⟨o, h1⟩, fun g1 g2 ⟨o1, es1, q1, q2, q3, q4⟩ k => ⟨o1, es1, k _ q1, q2, q3, q4⟩⟩⟩
/-! k in d, k not in d, d[k] -/
def rInN (w : World) : R2 := fun x y H Q => ∃ p b xs k, y = .ref p ∧ x = .ref b ∧ NdAt w H p xs ∧ NkV H (.ref b) k ∧ k.depth ≤ 8 ∧ Q (.bl (atKey xs k).isSome) H
def rNotInN (w : World) : R2 := fun x y H Q => ∃ p b xs k, y = .ref p ∧ x = .ref b ∧ NdAt w H p xs ∧ NkV H (.ref b) k ∧ k.depth ≤ 8 ∧ Q (.bl (!(atKey xs k).isSome)) H
theorem op_inN (hu : X.A.units + 65 < cLine) : OpR X (compareOp .In) (rInN X.w) := by
  intro pins s σ H x y v u Q I rx ry ⟨p, b, xs, k, e1, e2, nd, nk, hd, q⟩
  subst e1; subst e2
  cases (show v = Value.ref b from rx)
  cases (show u = Value.ref p from ry)
  exact wpAny_in_heap (nk_room hu) (nk_is I nk hd) nd.sys (nd.of I) ⟨.bl _, H, I.tok _, rfl, q⟩
theorem op_notInN (hu : X.A.units + 65 < cLine) : OpR X (compareOp .NotIn) (rNotInN X.w) := by
  intro pins s σ H x y v u Q I rx ry ⟨p, b, xs, k, e1, e2, nd, nk, hd, q⟩
  subst e1; subst e2
  cases (show v = Value.ref b from rx)
  cases (show u = Value.ref p from ry)
  exact wpAny_notIn_heap (nk_room hu) (nk_is I nk hd) nd.sys (nd.of I) ⟨.bl _, H, I.tok _, rfl, q⟩
def rInK : R2 := fun x y H Q => ∃ p kvs k, y = .ref p ∧ x = kV k ∧ H p = some (.dK kvs) ∧ Q (.bl (valV kvs k).isSome) H
def rNotInK : R2 := fun x y H Q => ∃ p kvs k, y = .ref p ∧ x = kV k ∧ H p = some (.dK kvs) ∧ Q (.bl (!(valV kvs k).isSome)) H
theorem op_inK (hu : X.A.units + 65 < cLine) : OpR X (compareOp .In) rInK := by
  intro pins s σ H x y v u Q I rx ry ⟨p, kvs, k, e1, e2, h, q⟩
  subst e1; subst e2
  cases (show u = Value.ref p from ry)
  exact d_in (by omega) I (DGet.k h) rx fun s' I' => ⟨.bl _, H, I', rfl, q⟩
theorem op_notInK (hu : X.A.units + 65 < cLine) : OpR X (compareOp .NotIn) rNotInK := by
  intro pins s σ H x y v u Q I rx ry ⟨p, kvs, k, e1, e2, h, q⟩
  subst e1; subst e2
  cases (show u = Value.ref p from ry)
  exact d_notIn (by omega) I (DGet.k h) rx fun s' I' => ⟨.bl _, H, I', rfl, q⟩
def rInX (K : PySem.W.Frag) (w : World) : R2 := fun x y H Q => rInA K x y H Q ∨ rInN w x y H Q ∨ rInK x y H Q
def rNotInX (K : PySem.W.Frag) (w : World) : R2 := fun x y H Q => rNotInA K x y H Q ∨ rNotInN w x y H Q ∨ rNotInK x y H Q
theorem op_inX (hu : X.A.units + 65 < cLine) : OpR X (compareOp .In) (rInX X.K X.w) := (op_inA hu).or ((op_inN hu).or (op_inK hu))
theorem op_notInX (hu : X.A.units + 65 < cLine) : OpR X (compareOp .NotIn) (rNotInX X.K X.w) := (op_notInA hu).or ((op_notInN hu).or (op_notInK hu))
end
/-! ### told keys looked up -/
def ixD (ks : List D) (k : NestedKey) : Option Nat := ks.findIdx? fun d => decide (nkD d = some k)
def isTupK : D → Bool
  | .tup _ => true
  | _ => false
/-- is it a key for a dict of this kind -/
def keyOk (n : Bool) (d : D) : Option NestedKey := match n, d with
  | true, .tup ds => match nkD (.tup ds) with
    | some k => if k.depth ≤ 8 then some k else none
    | none => none
  | false, .int i => some (.num i)
  | _, _ => none
theorem ixD_nd {xs : List (NestedKey × Addr × Value)} {ks : List D} (h : ks.map nkD = xs.map fun x => some x.1) (k : NestedKey) : ixD ks k = xs.findIdx? fun x => decide (x.1 = k) := by
  unfold ixD
  have e1 : (fun d => decide (nkD d = some k)) = (fun o : Option NestedKey => decide (o = some k)) ∘ nkD := rfl
  have e2 : (fun x : NestedKey × Addr × Value => decide (x.1 = k)) = (fun o : Option NestedKey => decide (o = some k)) ∘ fun x => some x.1 := by
    funext x; simp
  rw [e1, ← List.findIdx?_map, h, e2, List.findIdx?_map]
theorem find_ix {α : Type} (f : α → Bool) : ∀ xs : List α, xs.find? f = (xs.findIdx? f).bind fun j => xs[j]?
  | [] => rfl
  | x :: xs => by
    rw [List.find?_cons, List.findIdx?_cons, find_ix f xs]
    cases f x with
    | true => rfl
    | false =>
      cases h : xs.findIdx? f with
      | none => simp [h]
      | some j => simp [h]
theorem atKey_ix (xs : List (NestedKey × Addr × Value)) (k : NestedKey) : atKey xs k = ((xs.findIdx? fun x => decide (x.1 = k)).bind fun j => xs[j]?).map (·.2) := by
  unfold atKey
  rw [find_ix]
def putL {α : Type} (o : Option Nat) (l : List α) (v : α) : List α := match o with
  | some j => l.set j v
  | none => l ++ [v]
def addL {α : Type} (o : Option Nat) (l : List α) (v : α) : List α := match o with
  | some _ => l
  | none => l ++ [v]
def cutL {α : Type} (o : Option Nat) (l : List α) : List α := match o with
  | some j => l.eraseIdx j
  | none => l
theorem findIx_lt {α : Type} {f : α → Bool} {xs : List α} {j : Nat} (h : xs.findIdx? f = some j) : ∃ x, xs[j]? = some x ∧ f x = true := by
  rw [List.findIdx?_eq_some_iff_getElem] at h
  obtain ⟨hj, h1, _⟩ := h
  exact ⟨xs[j], List.getElem?_eq_getElem hj, h1⟩
theorem storedH_ix {xs : List (NestedKey × Addr × Value)} {k : NestedKey} {a : Addr} {v : Value} (nd : (xs.map (·.1)).Nodup) : storedH xs k a v = match xs.findIdx? fun x => decide (x.1 = k) with
    | some j => xs.modify j fun x => (x.1, x.2.1, v)
    | none => xs ++ [(k, a, v)] := by
  have e := atKey_ix xs k
  cases h : xs.findIdx? fun x => decide (x.1 = k) with
  | none =>
    rw [h] at e
    exact storedH_new e a v
  | some j =>
    rw [h] at e
    obtain ⟨x, h1, h2⟩ := findIx_lt h
    have h2 : x.1 = k := of_decide_eq_true h2
    have e2 : atKey xs k = some x.2 := by rw [e]; show (xs[j]?).map (·.2) = _; rw [h1]; rfl
    rw [storedH_old e2]
    show xs.map (putAt k v) = xs.modify j _
    apply List.ext_getElem?
    intro i
    rw [List.getElem?_map, List.getElem?_modify]
    cases hi : xs[i]? with
    | none => simp
    | some y =>
      by_cases q : j = i
      · subst q
        rw [h1] at hi
        cases hi
        simp [putAt, h2]
      · have ne : y.1 ≠ k := fun e3 => q (idxH_unique nd (k := k) (p := x.2) (q := y.2) (by rw [h1, ← h2]) (by rw [hi, ← e3]))
        simp [putAt, ne, q]
theorem map_modify_same {α β : Type} {f : α → β} {g : α → α} (h : ∀ x, f (g x) = f x) (xs : List α) (j : Nat) : (xs.modify j g).map f = xs.map f := by
  apply List.ext_getElem?
  intro i
  rw [List.getElem?_map, List.getElem?_modify, List.getElem?_map]
  cases xs[i]? with
  | none => rfl
  | some y => by_cases q : j = i <;> simp [q, h]
theorem map_modify_set {α β : Type} {f : α → β} {g : α → α} {v : β} (h : ∀ x, f (g x) = v) (xs : List α) (j : Nat) : (xs.modify j g).map f = (xs.map f).set j v := by
  apply List.ext_getElem?
  intro i
  rw [List.getElem?_map, List.getElem?_modify, List.getElem?_set, List.getElem?_map]
  cases hi : xs[i]? with
  | none =>
    have : xs.length ≤ i := List.getElem?_eq_none_iff.mp hi
    by_cases q : j = i
    · subst q; simp; omega
    · simp [q]
  | some y =>
    have : i < xs.length := (List.getElem?_eq_some_iff.mp hi).1
    by_cases q : j = i
    · subst q; simp [h, this]
    · simp [q]
section
variable {xs : List (NestedKey × Addr × Value)} {k : NestedKey} {a : Addr} {v : Value}
theorem storedH_keys (nd : (xs.map (·.1)).Nodup) : (storedH xs k a v).map (·.1) = addL (xs.findIdx? fun x => decide (x.1 = k)) (xs.map (·.1)) k := by
  rw [storedH_ix nd]
  cases xs.findIdx? fun x => decide (x.1 = k) with
  | none => simp [addL]
  | some j => simp only [addL]; exact map_modify_same (f := fun x : NestedKey × Addr × Value => x.1) (g := fun x : NestedKey × Addr × Value => (x.1, x.2.1, v)) (fun _ => rfl) xs j
theorem storedH_adrs (nd : (xs.map (·.1)).Nodup) : (storedH xs k a v).map (·.2.1) = addL (xs.findIdx? fun x => decide (x.1 = k)) (xs.map (·.2.1)) a := by
  rw [storedH_ix nd]
  cases xs.findIdx? fun x => decide (x.1 = k) with
  | none => simp [addL]
  | some j => simp only [addL]; exact map_modify_same (f := fun x : NestedKey × Addr × Value => x.2.1) (g := fun x : NestedKey × Addr × Value => (x.1, x.2.1, v)) (fun _ => rfl) xs j
theorem storedH_vals (nd : (xs.map (·.1)).Nodup) : (storedH xs k a v).map (·.2.2) = putL (xs.findIdx? fun x => decide (x.1 = k)) (xs.map (·.2.2)) v := by
  rw [storedH_ix nd]
  cases xs.findIdx? fun x => decide (x.1 = k) with
  | none => simp [putL]
  | some j => simp only [putL]; exact map_modify_set (f := fun x : NestedKey × Addr × Value => x.2.2) (g := fun x : NestedKey × Addr × Value => (x.1, x.2.1, v)) (fun _ => rfl) xs j
theorem storedH_mem (nd : (xs.map (·.1)).Nodup) {y : NestedKey × Addr × Value} (h : y ∈ storedH xs k a v) : (y.1 = k ∧ y.2.1 = a) ∨ ∃ x ∈ xs, x.1 = y.1 ∧ x.2.1 = y.2.1 := by
  rw [storedH_ix nd] at h
  cases q : xs.findIdx? fun x => decide (x.1 = k) with
  | none =>
    rw [q] at h
    rcases List.mem_append.mp h with h | h
    · exact .inr ⟨y, h, rfl, rfl⟩
    · rw [List.mem_singleton.mp h]; exact .inl ⟨rfl, rfl⟩
  | some j =>
    rw [q] at h
    obtain ⟨i, hi⟩ := List.mem_iff_getElem?.mp h
    rw [List.getElem?_modify] at hi
    cases hx : xs[i]? with
    | none => rw [hx] at hi; cases hi
    | some x =>
      rw [hx] at hi
      refine .inr ⟨x, List.mem_of_getElem? hx, ?_⟩
      by_cases e : j = i
      · simp [e] at hi; rw [← hi]; exact ⟨rfl, rfl⟩
      · simp [e] at hi; rw [← hi]; exact ⟨rfl, rfl⟩
theorem withoutH_ix (nd : (xs.map (·.1)).Nodup) : withoutH xs k = cutL (xs.findIdx? fun x => decide (x.1 = k)) xs := by
  induction xs with
  | nil => rfl
  | cons x xs ih =>
    rw [List.map_cons, List.nodup_cons] at nd
    unfold withoutH at ih ⊢
    rw [List.findIdx?_cons]
    by_cases e : x.1 = k
    · rw [List.filter_cons_of_neg (by simp [e])]
      simp only [e, decide_true, if_true, cutL]
      have : k ∉ xs.map (·.1) := e ▸ nd.1
      show _ = xs
      rw [List.filter_eq_self]
      intro y hy
      simp only [ne_eq, decide_not, Bool.not_eq_eq_eq_not, Bool.not_true, decide_eq_false_iff_not]
      exact fun e2 => this (List.mem_map.mpr ⟨y, hy, e2⟩)
    · rw [List.filter_cons_of_pos (by simp [e]), ih nd.2]
      simp only [e, decide_false, Bool.false_eq_true, if_false]
      cases xs.findIdx? fun x => decide (x.1 = k) with
      | none => rfl
      | some j => rfl
end
theorem cutL_map {α β : Type} (f : α → β) (o : Option Nat) (l : List α) : (cutL o l).map f = cutL o (l.map f) := by
  cases o with
  | none => rfl
  | some j => simp only [cutL]; rw [List.eraseIdx_eq_take_drop_succ, List.eraseIdx_eq_take_drop_succ, List.map_append, List.map_take, List.map_drop]
theorem putL_map {α β : Type} (f : α → β) (o : Option Nat) (l : List α) (v : α) : (putL o l v).map f = putL o (l.map f) (f v) := by
  cases o with
  | none => simp [putL]
  | some j => simp [putL]
theorem addL_map {α β : Type} (f : α → β) (o : Option Nat) (l : List α) (v : α) : (addL o l v).map f = addL o (l.map f) (f v) := by
  cases o with
  | none => simp [addL]
  | some j => simp [addL]
theorem putL_len {α : Type} (o : Option Nat) (l : List α) (v : α) : (putL o l v).length ≤ l.length + 1 := by
  cases o with
  | none => simp [putL]
  | some j => simp [putL]
theorem addL_len {α β : Type} (o : Option Nat) (l : List α) (v : α) (l2 : List β) (v2 : β) (h : l.length = l2.length) : (addL o l v).length = (putL o l2 v2).length := by
  cases o with
  | none => simp [addL, putL, h]
  | some j => simp [addL, putL, h]
/-! int keys -/
theorem ixD_ik (is : List Int) (i : Int) : ixD (is.map D.int) (.num i) = is.findIdx? fun x => decide (x = i) := by
  unfold ixD
  rw [List.findIdx?_map]
  congr 1
  funext x
  simp [nkD, Function.comp_def]
theorem any_ix {α : Type} (f : α → Bool) (xs : List α) : xs.any f = (xs.findIdx? f).isSome := by
  rw [List.findIdx?_isSome]
theorem findIx_zip {is : List Int} {vs : List V} (hl : is.length = vs.length) (i : Int) : ((is.map (Sum.inl : Int → Key)).zip vs).findIdx? (fun kv => decide (kv.1 = Sum.inl i)) = is.findIdx? fun x => decide (x = i) := by
  induction is generalizing vs with
  | nil => cases vs with
    | nil => rfl
    | cons v vs => simp at hl
  | cons x is ih => cases vs with
    | nil => simp at hl
    | cons v vs =>
      rw [List.map_cons, List.zip_cons_cons, List.findIdx?_cons, List.findIdx?_cons, ih (by simpa using hl)]
      simp
theorem valV_zip {is : List Int} {vs : List V} (hl : is.length = vs.length) (i : Int) : valV ((is.map (Sum.inl : Int → Key)).zip vs) (.inl i) = (is.findIdx? fun x => decide (x = i)).bind fun j => vs[j]? := by
  unfold valV
  rw [find_ix, findIx_zip hl]
  cases h : is.findIdx? fun x => decide (x = i) with
  | none => rfl
  | some j =>
    show Option.map _ _ = vs[j]?
    obtain ⟨x, h1, _⟩ := findIx_lt h
    have hj : j < is.length := (List.getElem?_eq_some_iff.mp h1).1
    show Option.map (·.2) (((is.map (Sum.inl : Int → Key)).zip vs)[j]?) = _
    rw [List.getElem?_eq_getElem (by simp; omega), List.getElem?_eq_getElem (by omega)]
    simp
theorem putK_zip {is : List Int} {vs : List V} (hn : is.Nodup) (hl : is.length = vs.length) (i : Int) (v : V) : putK ((is.map (Sum.inl : Int → Key)).zip vs) (.inl i) v = ((addL (is.findIdx? fun x => decide (x = i)) is i).map (Sum.inl : Int → Key)).zip (putL (is.findIdx? fun x => decide (x = i)) vs v) := by
  cases h : is.findIdx? fun x => decide (x = i) with
  | none =>
    have e : valV ((is.map (Sum.inl : Int → Key)).zip vs) (.inl i) = none := by rw [valV_zip hl, h]; rfl
    rw [putK_new v e]
    simp only [addL, putL]
    rw [List.map_append, List.zip_append (by simpa using hl)]
    rfl
  | some j =>
    obtain ⟨x, h1, h2⟩ := findIx_lt h
    have h2 : x = i := of_decide_eq_true h2
    subst h2
    have hj : j < is.length := (List.getElem?_eq_some_iff.mp h1).1
    unfold putK
    rw [any_ix, findIx_zip hl, h]
    simp only [Option.isSome_some, if_true, addL, putL]
    apply List.ext_getElem?
    intro m
    rw [List.getElem?_map]
    by_cases hm : m < is.length
    · rw [List.getElem?_eq_getElem (by simp; omega), List.getElem?_eq_getElem (by simp; omega)]
      by_cases q : m = j
      · subst q
        have : is[m] = x := by rw [List.getElem?_eq_getElem hm] at h1; exact Option.some.inj h1
        simp [this]
      · have ne : is[m] ≠ x := fun e => q ((List.getElem?_inj hm hn).mp (by rw [h1, List.getElem?_eq_getElem hm, e]))
        simp [ne, Ne.symm q]
    · rw [List.getElem?_eq_none (by simp; omega), List.getElem?_eq_none (by simp; omega)]; rfl
end Ab

namespace Ab
open PySem PySem.Spec PyProof.Rows L2
/-! ### a told dict opened -/
def dicOf : D → Option (Bool × List D × List D)
  | .fdi n ks vs => some (n, ks, vs)
  | .mdi n ks vs => some (n, ks, vs)
  | _ => none
section
variable {K : Fw} {G H H' : Hp} {v : V} {d : D} {L : List Addr} {n : Bool} {ks ds : List D}
theorem dicOf_al {A : Sl} {d : D} {r : Bool × List D × List D} (h : dicOf (see A d) = some r) : ∀ j, see A d ≠ .al j := fun j e => by rw [e] at h; cases h
theorem R.dic (g : Same G H) (r : R K G H v d L) (h : dicOf d = some (n, ks, ds)) : ∃ p o kv ws L', v = .ref p ∧ H p = some o ∧ DicO K.w p n o ks kv ws ∧ Rs K G H kv ks [] ∧ Rs K G H ws ds L' ∧ ((d = .fdi n ks ds ∧ L' = []) ∨ d = .mdi n ks ds) := by
  cases r <;> simp only [dicOf] at h <;> try cases h
  · rename_i q k o r; exact ⟨_, _, _, _, [], rfl, g _ _ q, o, k, r, .inl ⟨rfl, rfl⟩⟩
  · rename_i e n k o r; exact ⟨_, _, _, _, _, rfl, e, o, k, r, .inr rfl⟩
theorem Rs.at {vs : List V} {ds : List D} (r : Rs K G H vs ds []) {i : Nat} {v : V} (h : vs[i]? = some v) : ∃ d, ds[i]? = some d ∧ R K G H v d [] := by
  obtain ⟨d, Li, h1, h2, h3⟩ := r.get h
  rw [List.sublist_nil.mp h3] at h2
  exact ⟨d, h1, h2⟩
/-- tuple keys -/
theorem DicO.nds {p : Addr} {o : HO} {kv ws : List V} (g : Same G H) (hp : H p = some o) (rk : Rs K G H kv ks []) (h : DicO K.w p true o ks kv ws) : ∃ xs, (∃ ep, o = ndHO K.w p ep xs) ∧ NdAt K.w H p xs ∧ kv = xs.map (fun x => V.ref x.2.1) ∧ Vals ws (xs.map (·.2.2)) ∧ ks.map nkD = xs.map (fun x => some x.1) := by
  cases h with
  | nd hs hl hn hd hv hk =>
    rename_i xs
    refine ⟨xs, ⟨_, rfl⟩, ⟨⟨_, hp⟩, hs, hl, hn, fun x hx => ⟨hd x hx, ?_⟩⟩, rfl, hv, hk⟩
    obtain ⟨i, hi⟩ := List.mem_iff_getElem?.mp hx
    obtain ⟨d, h1, h2⟩ := rk.at (i := i) (v := .ref x.2.1) (by rw [List.getElem?_map, hi]; rfl)
    have : (ks.map nkD)[i]? = some (some x.1) := by rw [hk, List.getElem?_map, hi]; rfl
    rw [List.getElem?_map, h1] at this
    exact h2.nk g (Option.some.inj this)
theorem DicO.iks {p : Addr} {o : HO} {kv ws : List V} (h : DicO K.w p false o ks kv ws) : ∃ is : List Int, o = .dK ((is.map Sum.inl).zip ws) ∧ ks = is.map D.int ∧ kv = is.map V.int ∧ is.Nodup ∧ is.length = ws.length := by
  cases h with
  | ik hn hl => exact ⟨_, rfl, rfl, rfl, hn, hl⟩
theorem keyOk_nd {d : D} {k : NestedKey} (h : keyOk true d = some k) (g : Same G H) (r : R K G H v d L) : ∃ b, v = .ref b ∧ NkV H (.ref b) k ∧ k.depth ≤ 8 ∧ nkD d = some k := by
  cases d <;> simp only [keyOk] at h <;> try cases h
  rename_i es
  split at h
  · rename_i k' hk
    split at h
    · rename_i hd
      cases h
      have n := r.nk g hk
      cases r with
      | tup q s => exact ⟨_, rfl, n, hd, hk⟩
    · cases h
  · cases h
theorem keyOk_ik {d : D} {k : NestedKey} (h : keyOk false d = some k) (r : R K G H v d L) : ∃ i, d = .int i ∧ v = .int i ∧ k = .num i := by
  cases d <;> simp only [keyOk] at h <;> try cases h
  cases r
  exact ⟨_, rfl, rfl, rfl⟩
end
/-! ### in, not in, an item -/
def gInX (d e : D) (A : Sl) : Option D := match dicOf (see A e) with
  | some (n, ks, _) => match keyOk n (see A d) with
    | some k => some (.bl (ixD ks k).isSome)
    | none => none
  | none => gIn d e A
def gNotInX (d e : D) (A : Sl) : Option D := match dicOf (see A e) with
  | some (n, ks, _) => match keyOk n (see A d) with
    | some k => some (.bl (!(ixD ks k).isSome))
    | none => none
  | none => gNotIn d e A
def gIxX (d e : D) (A : Sl) : Option D := match dicOf (see A d) with
  | some (n, ks, vs) => match keyOk n (see A e) with
    | some k => match ixD ks k with
      | some j => match vs[j]? with
        | some r => if isF r = true then some r else none
        | none => none
      | none => none
    | none => none
  | none => gIx d e A
theorem keyOk_al {A : Sl} {n : Bool} {d : D} {k : NestedKey} (h : keyOk n (see A d) = some k) : ∀ j, see A d ≠ .al j := fun j e => by
  rw [e] at h; cases n <;> simp [keyOk] at h
section
variable {z : Z}
theorem dic_in {σ : L2.St} {A : Sl} {ts : Ts} {H : Hp} {v u : V} {d e : D} {n : Bool} {ks vs : List D} {k : NestedKey} (h : z.A σ A ((u, e) :: (v, d) :: ts) H) (he : dicOf (see A e) = some (n, ks, vs)) (hk : keyOk n (see A d) = some k) :
    (∃ p b xs, u = .ref p ∧ v = .ref b ∧ NdAt z.K.w H p xs ∧ NkV H (.ref b) k ∧ k.depth ≤ 8 ∧ (atKey xs k).isSome = (ixD ks k).isSome) ∨ ∃ p kvs i, u = .ref p ∧ v = kV i ∧ H p = some (.dK kvs) ∧ (valV kvs i).isSome = (ixD ks k).isSome := by
  obtain ⟨G, L, L', gh, r1, r2, f⟩ := h.open2 (dicOf_al he) (keyOk_al hk)
  obtain ⟨p, o, kv, ws, L2, rfl, hp, dc, rk, rv, _⟩ := r1.dic gh he
  cases n with
  | true =>
    obtain ⟨xs, ⟨_, rfl⟩, nd, rfl, hv, hks⟩ := dc.nds gh hp rk
    obtain ⟨b, rfl, nk, hd, _⟩ := keyOk_nd hk gh r2
    refine .inl ⟨p, b, xs, rfl, rfl, nd, nk, hd, ?_⟩
    rw [ixD_nd hks, atKey_ix, Option.isSome_map]
    cases q : xs.findIdx? fun x => decide (x.1 = k) with
    | none => rfl
    | some j =>
      obtain ⟨x, h1, _⟩ := findIx_lt q
      show (xs[j]?).isSome = true
      rw [h1]; rfl
  | false =>
    obtain ⟨is, rfl, rfl, rfl, hn, hl⟩ := dc.iks
    obtain ⟨i, hd, rfl, rfl⟩ := keyOk_ik hk r2
    refine .inr ⟨p, _, .inl i, rfl, rfl, hp, ?_⟩
    rw [ixD_ik, valV_zip hl]
    cases q : is.findIdx? fun x => decide (x = i) with
    | none => rfl
    | some j =>
      obtain ⟨x, h1, _⟩ := findIx_lt q
      have hj : j < is.length := (List.getElem?_eq_some_iff.mp h1).1
      show (ws[j]?).isSome = true
      rw [List.getElem?_eq_getElem (by omega)]; rfl
theorem opd_inX : OpD z (rInX z.K z.K.w) gInX := by
  intro σ A ts H v u d e d' h hg Q q
  unfold gInX at hg
  split at hg
  · rename_i n ks vs he
    split at hg
    · rename_i k hk
      cases hg
      have fin := q _ _ (h.drop.drop.pbl (ixD ks k).isSome)
      rcases dic_in h he hk with ⟨p, b, xs, rfl, rfl, nd, nk, hd, e1⟩ | ⟨p, kvs, i, rfl, rfl, hp, e1⟩
      · exact .inr (.inl ⟨p, b, xs, k, rfl, rfl, nd, nk, hd, by rw [e1]; exact fin⟩)
      · exact .inr (.inr ⟨p, kvs, i, rfl, rfl, hp, by rw [e1]; exact fin⟩)
    · cases hg
  · exact .inl (opd_in σ A ts H v u d e d' h hg Q q)
theorem opd_notInX : OpD z (rNotInX z.K z.K.w) gNotInX := by
  intro σ A ts H v u d e d' h hg Q q
  unfold gNotInX at hg
  split at hg
  · rename_i n ks vs he
    split at hg
    · rename_i k hk
      cases hg
      have fin := q _ _ (h.drop.drop.pbl (!(ixD ks k).isSome))
      rcases dic_in h he hk with ⟨p, b, xs, rfl, rfl, nd, nk, hd, e1⟩ | ⟨p, kvs, i, rfl, rfl, hp, e1⟩
      · exact .inr (.inl ⟨p, b, xs, k, rfl, rfl, nd, nk, hd, by rw [e1]; exact fin⟩)
      · exact .inr (.inr ⟨p, kvs, i, rfl, rfl, hp, by rw [e1]; exact fin⟩)
    · cases hg
  · exact .inl (opd_notIn σ A ts H v u d e d' h hg Q q)
end
/-! an item by a rule of the layer -/
section
variable {X : Cx}
theorem tailX {prog : Program} {w : World} {A : Around} {E : Value → Shared → Prop} {s : Shared} {value slice : Expr} {o i : Value} {T id : String} {Q : Value → Shared → Prop}
    (hl : typeLookup (.type T) "__getitem__" = pure (some (.builtin id))) (hs : subscripted slice false o i = operate [o, i] (getItem o i)) (hT : s.TypeIs o T) (h : wpAny (model prog w) A (getItem o i) Q E s) :
    wpAny (model prog w) A (subscriptTail value slice o i) Q E s := by
  unfold subscriptTail
  refine wpAny_bind ?_
  rw [getitemInPython_of_ne hT.not_modules]
  refine wpAny_bind (wpAny_specialOf hT hl ?_)
  have fin : wpAny (model prog w) A (subscripted slice false o i) (fun r s₃ => wpAny (model prog w) A (letTemporaryGo value o r >>= fun _ => pure r) Q E s₃) E s := by
    rw [hs]
    exact wpAny_operating (wpAny_mono h (fun r s₃ h₃ => wpAny_bind (wpAny_letTemporaryGo (wpAny_pure h₃))) fun _ _ x => x)
  first
    | exact wpAny_pure (wpAny_bind fin)
    | exact wpAny_bind (wpAny_pure (wpAny_bind fin))
    | exact wpAny_bind fin
def rIxN (w : World) : R2 := fun x y H Q => ∃ p b xs k a v r, x = .ref p ∧ y = .ref b ∧ NdAt w H p xs ∧ NkV H (.ref b) k ∧ k.depth ≤ 8 ∧ atKey xs k = some (a, r) ∧ RelV v r ∧ Q v H
def rIxK : R2 := fun x y H Q => ∃ p kvs i v, x = .ref p ∧ y = kV i ∧ H p = some (.dK kvs) ∧ valV kvs i = some v ∧ Q v H
theorem ix_N (hu : X.A.units + 65 < cLine) : IxR X (rIxN X.w) := by
  intro value slice pins s σ H x y v u Q I rx ry ⟨p, b, xs, k, a, w', r, e1, e2, nd, nk, hd, hat, rr, q⟩ hs
  subst e1; subst e2
  cases (show v = Value.ref p from rx)
  cases (show u = Value.ref b from ry)
  have of := nd.of I
  exact tailX PySem.F.slot_dict_getitem.lookup hs of.typeIs (wpAny_getItem_heap (nk_room hu) (nk_is I nk hd) of hat ⟨w', H, I.tok _, rr, q⟩)
theorem ix_K (hu : X.A.units + 65 < cLine) : IxR X rIxK := by
  intro value slice pins s σ H x y v u Q I rx ry ⟨p, kvs, i, w', e1, e2, hp, hat, q⟩ hs
  subst e1; subst e2
  cases (show v = Value.ref p from rx)
  have g : DGet H p (kV i) (some w') := by rw [← hat]; exact DGet.k hp
  exact tailX PySem.F.slot_dict_getitem.lookup hs (dict_typeIs I g) (d_getItem (by omega) I g ry fun w2 s' I' rw' => ⟨w', H, I', rw', q⟩)
def rIxX (K : PySem.W.Frag) (w : World) : R2 := fun x y H Q => rIx K x y H Q ∨ rIxN w x y H Q ∨ rIxK x y H Q
theorem ix_X (hu : X.A.units + 65 < cLine) : IxR X (rIxX X.K X.w) := ix_seq.or ((ix_N hu).or (ix_K hu))
variable {z : Z}
theorem opd_ixX : OpD z (rIxX z.K z.K.w) gIxX := by
  intro σ A ts H v u d e d' h hg Q q
  unfold gIxX at hg
  split at hg
  · rename_i n ks vs he
    split at hg
    · rename_i k hk
      split at hg
      · rename_i j hj
        split at hg
        · rename_i r hr
          split at hg
          · rename_i hf
            cases hg
            obtain ⟨G, L, L', gh, r1, r2, f⟩ := h.open2 (keyOk_al hk) (dicOf_al he)
            obtain ⟨p, o, kv, ws, L2, rfl, hp, dc, rk, rv, _⟩ := r2.dic gh he
            obtain ⟨w', Li, hw, rw', _⟩ := rv.getD hr
            rw [rw'.isF hf] at rw'
            have fin := q _ _ (f.known gh rw')
            cases n with
            | true =>
              obtain ⟨xs, ⟨_, rfl⟩, nd, rfl, hv, hks⟩ := dc.nds gh hp rk
              obtain ⟨b, rfl, nk, hd, _⟩ := keyOk_nd hk gh r1
              rw [ixD_nd hks] at hj
              obtain ⟨x, h1, _⟩ := findIx_lt hj
              obtain ⟨r', hr', rr⟩ := hv.get hw
              rw [List.getElem?_map, h1] at hr'
              cases hr'
              refine .inr (.inl ⟨p, b, xs, k, x.2.1, w', x.2.2, rfl, rfl, nd, nk, hd, ?_, rr, fin⟩)
              rw [atKey_ix, hj]
              show (xs[j]?).map (·.2) = _
              rw [h1]; rfl
            | false =>
              obtain ⟨is, rfl, rfl, rfl, hn, hl⟩ := dc.iks
              obtain ⟨i, hd, rfl, rfl⟩ := keyOk_ik hk r1
              rw [ixD_ik] at hj
              exact .inr (.inr ⟨p, _, .inl i, w', rfl, rfl, hp, by rw [valV_zip hl, hj]; exact hw, fin⟩)
          · cases hg
        · cases hg
      · cases hg
    · cases hg
  · exact .inl (opd_ix σ A ts H v u d e d' h hg Q q)
end
end Ab
end
section
namespace Ab
open PySem PySem.Spec PyProof.Rows L2
/-! ### an owned dict rewritten -/
mutual
theorem nkD_isF : ∀ {d : D} {k : NestedKey}, nkD d = some k → isF d = true
  | .non, _, _ => by simp [isF]
  | .bl b, _, _ => by simp [isF]
  | .int i, _, _ => by simp [isF]
  | .str x, _, _ => by simp [isF]
  | .tup ds, k, h => by
    rw [nkD] at h
    rw [isF]
    cases e : nkDs ds with
    | none => rw [e] at h; cases h
    | some ks => exact nkDs_isFs e
  | .lst _, _, h => by rw [nkD] at h; cases h
  | .mu _, _, h => by rw [nkD] at h; cases h
  | .fro _, _, h => by rw [nkD] at h; cases h
  | .fdi .., _, h => by rw [nkD] at h; cases h
  | .mdi .., _, h => by rw [nkD] at h; cases h
  | .al _, _, h => by rw [nkD] at h; cases h
  | .exc _, _, h => by rw [nkD] at h; cases h
  | .obj .., _, h => by rw [nkD] at h; cases h
  | .ty _, _, h => by rw [nkD] at h; cases h
theorem nkDs_isFs : ∀ {ds : List D} {ks : List NestedKey}, nkDs ds = some ks → isFs ds = true
  | [], _, _ => by simp [isFs]
  | d :: ds, _, h => by
    rw [nkDs] at h
    rw [isFs]
    cases e1 : nkD d with
    | none => rw [e1] at h; cases h
    | some k =>
      cases e2 : nkDs ds with
      | none => rw [e1, e2] at h; cases h
      | some ks => rw [nkD_isF e1, nkDs_isFs e2]; rfl
end
theorem keyOk_isF {n : Bool} {d : D} {k : NestedKey} (h : keyOk n d = some k) : isF d = true := by
  cases n <;> cases d <;> simp only [keyOk] at h <;> try cases h
  · simp [isF]
  · split at h
    · rename_i hk; exact nkD_isF hk
    · cases h
section
variable {K : Fw} {B : Bs} {G H : Hp} {σ : L2.St} {A : Sl} {ts : Ts} {p : Addr} {v y u : V} {o' : HO} {ks ds : List D} {d' e kd : D} {Lt L2 L' : List Addr} {n : Bool}
theorem dmut_core (gd : Gd B G H) (tm : Tms K σ G H ts Lt) (sl : Sls K G H σ A L2) (hp : H p ≠ none) (gp : G p = none) (hL : ∀ a ∈ L', G a = none) (mk : R K G (upd H p o') (.ref p) d' (p :: L')) (nd : (((p :: L') ++ Lt) ++ L2).Nodup) (ow : ∀ a ∈ ((p :: L') ++ Lt) ++ L2, Own B a) :
    Abs K B σ A ((.ref p, d') :: ts) (upd H p o') := by
  have np : p ∉ (L' ++ Lt) ++ L2 := (List.nodup_cons.mp nd).1
  have old : ∀ a ∈ (L' ++ Lt) ++ L2, G a = none := fun a ha => by
    rcases List.mem_append.mp ha with m | m
    · exact (List.mem_append.mp m).elim (hL a) (fun m => (tm.own a m).1)
    · exact (sl.own a m).1
  have keep : ∀ a ∈ (L' ++ Lt) ++ L2, upd H p o' a = H a ∧ G a = none := fun a ha => ⟨upd_ne (fun q => np (by rw [← q]; exact ha)), old a ha⟩
  have ownp : Own B p := ow p List.mem_cons_self
  refine ⟨G, (p :: L') ++ Lt, L2, ⟨fun a o h => ?_, gd.bg, fun a o hx h => ?_, gd.sep, fun a ha => ?_⟩, .cons mk (tm.mono (fun _ _ e => e) fun a ha => keep a (by simp [ha])), sl.mono (fun _ _ e => e) fun a ha => keep a (by simp [ha]), nd, ow⟩
  · have : a ≠ p := fun q => by rw [q, gp] at h; cases h
    rw [upd_ne this]; exact gd.gh a o h
  · have : a ≠ p := fun q => by
      subst q
      rcases ownp with n | n
      · rw [n] at h; cases h
      · exact hx n
    rw [upd_ne this]; exact gd.bh a o hx h
  · by_cases q : a = p
    · rw [q, upd_same]; exact fun z => nomatch z
    · rw [upd_ne q]; exact gd.alive a ha
theorem Rs.addL {us : List V} {ds : List D} {u : V} {d : D} (r : Rs K G H us ds []) (r1 : R K G H u d []) (o : Option Nat) : Rs K G H (Ab.addL o us u) (Ab.addL o ds d) [] := by
  cases o with
  | some j => exact r
  | none => exact (r.app (by simpa using Rs.one r1) : Rs K G H (us ++ [u]) (ds ++ [d]) ([] ++ []))
theorem Rs.putL {us : List V} {ds : List D} {u : V} {d : D} {L Le : List Addr} (r : Rs K G H us ds L) (r1 : R K G H u d Le) (o : Option Nat) (ho : ∀ j, o = some j → j < ds.length) : ∃ M N, Rs K G H (Ab.putL o us u) (Ab.putL o ds d) M ∧ M.Perm (Le ++ N) ∧ N.Sublist L := by
  cases o with
  | some j => exact r.setAt r1 (ho j rfl)
  | none => exact ⟨L ++ Le, L, r.app (by simpa using Rs.one r1), List.perm_append_comm, .refl _⟩
theorem Vals.putL {xs : List V} {us : List Value} {x : V} {u : Value} (r : Vals xs us) (r1 : RelV x u) (o : Option Nat) : Vals (Ab.putL o xs x) (Ab.putL o us u) := by
  cases o with
  | some j => exact r.set r1 j
  | none => exact r.append (.cons r1 .nil)
theorem nodup_addL {α : Type} [DecidableEq α] {l : List α} {k : α} (h : l.Nodup) : (Ab.addL (l.findIdx? fun x => decide (x = k)) l k).Nodup := by
  cases q : l.findIdx? fun x => decide (x = k) with
  | some j => exact h
  | none =>
    simp only [Ab.addL]
    rw [List.findIdx?_eq_none_iff] at q
    exact List.nodup_append.mpr ⟨h, by simp, fun a ha b hb e => by
      rw [List.mem_singleton] at hb
      have := q a ha
      rw [e, hb] at this
      simp at this⟩
theorem nd_addL {xs : List (NestedKey × Addr × Value)} {k : NestedKey} (h : (xs.map (·.1)).Nodup) : (Ab.addL (xs.findIdx? fun x => decide (x.1 = k)) (xs.map (·.1)) k).Nodup := by
  have := nodup_addL (k := k) h
  rw [List.findIdx?_map] at this
  exact this
/-- d[k] = e -/
theorem Abs.dput {k : NestedKey} (h : Abs K B σ A ((u, kd) :: (y, e) :: (v, .mdi n ks ds) :: ts) H) (hk : keyOk n kd = some k) (he : ∀ i, e ≠ .al i) (hl : ks.length < sizeLine) :
    ∃ p, v = .ref p ∧ ((∃ xs b, n = true ∧ xs.length = ks.length ∧ u = .ref b ∧ NdAt K.w H p xs ∧ NkV H (.ref b) k ∧ k.depth ≤ 8 ∧ xs.length < sizeLine ∧ ∀ r ep, RelV y r → Abs K B σ A ((v, .mdi n (addL (ixD ks k) ks kd) (putL (ixD ks k) ds e)) :: ts) (upd H p (ndHO K.w p ep (storedH xs k b r)))) ∨
      ∃ kvs i, n = false ∧ u = kV i ∧ H p = some (.dK kvs) ∧ kvs.length < sizeLine ∧ Abs K B σ A ((v, .mdi n (addL (ixD ks k) ks kd) (putL (ixD ks k) ds e)) :: ts) (upd H p (.dK (putK kvs i y)))) := by
  have hf := keyOk_isF hk
  obtain ⟨G, L1, L2, gd, tm, sl, nd, ow⟩ := h
  cases tm with
  | al _ _ => cases n <;> simp [keyOk] at hk
  | cons r1 tm =>
    cases tm with
    | al _ _ => exact absurd rfl (he _)
    | cons r2 tm =>
      cases tm with
      | cons r3 t =>
        rename_i Lk Le Lp Lt
        have ek := r1.isF hf
        subst ek
        cases r3 with
        | mdi q gp dc rk rv =>
          rename_i p o kv ws L
          have hlen := rv.length
          have hklen := rk.length
          have step : ∀ (o' : HO) (dc' : DicO K.w p n o' (addL (ixD ks k) ks kd) (addL (ixD ks k) kv u) (putL (ixD ks k) ws y)) (hj : ∀ j, ixD ks k = some j → j < ds.length), Abs K B σ A ((.ref p, .mdi n (addL (ixD ks k) ks kd) (putL (ixD ks k) ds e)) :: ts) (upd H p o') := by
            intro o' dc' hj
            obtain ⟨M, N, m1, m2, m3⟩ := rv.putL r2 (ixD ks k) hj
            have pp : ((([] : List Addr) ++ (Le ++ ((p :: L) ++ Lt))) ++ L2).Perm ((((p :: (Le ++ L))) ++ Lt) ++ L2) := by
              refine List.Perm.append_right _ ?_
              rw [List.nil_append, List.cons_append, List.cons_append]
              refine List.perm_middle.trans (List.Perm.cons _ ?_)
              rw [List.append_assoc]
            have sb : (((p :: (Le ++ N)) ++ Lt) ++ L2).Sublist (((p :: (Le ++ L)) ++ Lt) ++ L2) := List.Sublist.append_right (List.Sublist.append_right ((List.Sublist.append_left m3 _).cons₂ p) _) _
            have p2 : (((p :: M) ++ Lt) ++ L2).Perm (((p :: (Le ++ N)) ++ Lt) ++ L2) := List.Perm.append_right _ (List.Perm.append_right _ (List.Perm.cons _ m2))
            have nd' := nodup_perm p2.symm (sb.nodup (nodup_perm pp nd))
            have np : p ∉ M := fun hm => (List.nodup_cons.mp nd').1 (List.mem_append_left _ (List.mem_append_left _ hm))
            have own := m1.own
            refine dmut_core gd t sl (by rw [q]; exact fun z => nomatch z) gp (fun a ha => (own a ha).1) (.mdi upd_same gp dc' ((rk.addL r1 _).mono (fun _ _ e => e) fun _ z => nomatch z) (m1.mono (fun _ _ e => e) fun a ha => ⟨upd_ne (fun e => np (by rw [← e]; exact ha)), (own a ha).1⟩)) nd' fun a ha => ow a ?_
            have := sb.subset (p2.mem_iff.mp ha)
            exact pp.mem_iff.mpr this
          cases n with
          | true =>
            obtain ⟨xs, ⟨_, rfl⟩, nda, rfl, hv, hks⟩ := dc.nds gd.gh q rk
            obtain ⟨b, rfl, nk, hd, hnk⟩ := keyOk_nd hk gd.gh r1
            have hxl : xs.length = ks.length := by have := congrArg List.length hks; simpa using this.symm
            have hvl : ws.length = xs.length := by have := hv.length; simpa using this
            have ix := ixD_nd hks k
            refine ⟨p, rfl, .inl ⟨xs, b, rfl, hxl, rfl, nda, nk, hd, by omega, fun r ep rr => step _ ?_ fun j hj => ?_⟩⟩
            · have e1 : addL (ixD ks k) (xs.map fun x => V.ref x.2.1) (V.ref b) = (storedH xs k b r).map fun x => V.ref x.2.1 := by
                have := storedH_adrs (k := k) (a := b) (v := r) nda.nd
                rw [show (fun x : NestedKey × Addr × Value => V.ref x.2.1) = V.ref ∘ (fun x => x.2.1) from rfl, ← List.map_map, ← List.map_map, this, addL_map, ix]
              rw [e1]
              refine .nd nda.sys ?_ ?_ ?_ ?_ ?_
              · have := congrArg List.length (storedH_keys (k := k) (a := b) (v := r) nda.nd)
                have h2 : (addL (xs.findIdx? fun x => decide (x.1 = k)) (xs.map (·.1)) k).length ≤ xs.length + 1 := by
                  cases xs.findIdx? fun x => decide (x.1 = k) <;> simp [addL]
                simp only [List.length_map] at this
                omega
              · rw [storedH_keys nda.nd]; exact nd_addL nda.nd
              · intro x hx
                rcases storedH_mem nda.nd hx with ⟨h1, _⟩ | ⟨x', hx', h1, _⟩
                · rw [h1]; exact hd
                · rw [← h1]; exact (nda.ks x' hx').1
              · rw [storedH_vals nda.nd, ix]; exact Vals.putL hv rr _
              · have h1 := storedH_keys (k := k) (a := b) (v := r) nda.nd
                rw [addL_map, hks, ix, hnk]
                rw [show (fun x : NestedKey × Addr × Value => some x.1) = some ∘ (fun x => x.1) from rfl, ← List.map_map, ← List.map_map, h1, addL_map]
            · rw [ix] at hj
              obtain ⟨x, h1, _⟩ := findIx_lt hj
              have := (List.getElem?_eq_some_iff.mp h1).1
              omega
          | false =>
            obtain ⟨is, rfl, rfl, rfl, hn, hl2⟩ := dc.iks
            obtain ⟨i, rfl, rfl, rfl⟩ := keyOk_ik hk r1
            refine ⟨p, rfl, .inr ⟨_, .inl i, rfl, rfl, q, by simp at hl ⊢; omega, step _ ?_ fun j hj => ?_⟩⟩
            · rw [putK_zip hn hl2, ixD_ik]
              have e1 : addL (is.findIdx? fun x => decide (x = i)) (is.map D.int) (D.int i) = (addL (is.findIdx? fun x => decide (x = i)) is i).map D.int := (addL_map D.int _ _ _).symm
              have e2 : addL (is.findIdx? fun x => decide (x = i)) (is.map V.int) (V.int i) = (addL (is.findIdx? fun x => decide (x = i)) is i).map V.int := (addL_map V.int _ _ _).symm
              rw [e1, e2]
              exact .ik (nodup_addL hn) (addL_len _ _ _ _ _ hl2)
            · rw [ixD_ik] at hj
              obtain ⟨x, h1, _⟩ := findIx_lt hj
              have := (List.getElem?_eq_some_iff.mp h1).1
              omega
end
/-! ### d[k] = e by the layer -/
def rPutX (w : World) : TSet := fun o i v H Q => (∃ p b xs k, o = .ref p ∧ i = .ref b ∧ NdAt w H p xs ∧ NkV H (.ref b) k ∧ k.depth ≤ 8 ∧ xs.length < sizeLine ∧ ∀ r ep, RelV v r → Q (upd H p (ndHO w p ep (storedH xs k b r)))) ∨
  ∃ p kvs i', o = .ref p ∧ i = kV i' ∧ H p = some (.dK kvs) ∧ kvs.length < sizeLine ∧ Q (upd H p (.dK (putK kvs i' v)))
theorem set_dic {X : Cx} (hu : X.A.units + 65 < cLine) : PSet X (rPutX X.w) := by
  intro pins s σ H o i v ov iv u Q I ro ri ru h
  rcases h with ⟨p, b, xs, k, e1, e2, nd, nk, hd, hl, q⟩ | ⟨p, kvs, i', e1, e2, hp, hl, q⟩
  · subst e1; subst e2
    cases (show ov = Value.ref p from ro)
    cases (show iv = Value.ref b from ri)
    refine wpAny_setItem_heap (hsz := nd.len) (nk_room hu) (nk_is I nk hd) (nd.of I) fun h' dd hs => ?_
    have he : ∃ q, h'.get? p = some q := let ⟨q, _, _, hq, _⟩ := dd; ⟨q, hq⟩
    obtain ⟨ep, ob⟩ := nd_obj dd
    obtain ⟨e0, hep⟩ := nd.hp
    exact ⟨_, d_write I (by rw [hep]; exact True.intro) hs he (ob _), q u ep ru⟩
  · subst e1; subst e2
    cases (show ov = Value.ref p from ro)
    exact d_setItem (by omega) I (DPut.k hp hl) ri ru fun s' I' => ⟨_, I', q⟩
def slotD (i : Nat) (A : Sl) : Option (Bool × List D × List D) := match A[i]? with
  | some (some (.mdi n ks vs)) => some (n, ks, vs)
  | _ => none
theorem slotD_get {i : Nat} {A : Sl} {n : Bool} {ks vs : List D} (h : slotD i A = some (n, ks, vs)) : A[i]? = some (some (.mdi n ks vs)) := by
  unfold slotD at h
  split at h
  · rename_i e; cases h; exact e
  · cases h
def fSetD (i : Nat) (fk fe : FE) : FS := fun A => (fe A).bind fun e A1 => match closeD e A1 with
  | none => .stuck
  | some (e', A2) => match slotD i A2 with
    | none => .stuck
    | some _ => (fk A2).bind fun kd A3 => match slotD i A3 with
      | some (n, ks, ds) => match keyOk n kd with
        | some k => if ks.length < sizeLine then .ok .next (A3.set i (some (.mdi n (addL (ixD ks k) ks kd) (putL (ixD ks k) ds e')))) else .stuck
        | none => .stuck
      | none => .stuck
section
variable {z : Z} {X : Cx} {fk fe : FE}
/-- the owned dict of a slot -/
theorem Abs.slotAlD {K : Fw} {B : Bs} {σ : L2.St} {A : Sl} {ts : Ts} {H : Hp} {i n : _} {ks ds : List D} (h : Abs K B σ A ts H) (e : A[i]? = some (some (.mdi n ks ds))) : ∃ p, σ[i]? = some (some (.ref p)) ∧ Abs K B σ A ((.ref p, .al i) :: ts) H := by
  obtain ⟨v, ev, h1⟩ := h.var e
  have h2 : Abs K B σ A ((v, .al i) :: ts) H := by simpa [isF] using h1
  have this : see A (.al i) = .mdi n ks ds := by simp [see, e]
  obtain ⟨G, L, gh, r, _⟩ := h2.open (d := .al i) (by rw [this]; exact fun j q => nomatch q)
  rw [this] at r
  cases r with
  | mdi q _ _ _ _ => exact ⟨_, ev, h2⟩
theorem setD_go {i : Nat} {D : Ends} {σ : L2.St} {H : Hp} (h : tS z (fSetD i fk fe) D σ H) : tAsg (tE z fe) (gSub (tVar i) (tE z fk) (rPutX z.K.w)) D σ H := by
  obtain ⟨A, ts, hA, c, hp⟩ := h
  refine ⟨A, ts, hA, ?_⟩
  unfold fSetD at hp
  cases ea : fe A with
  | stuck => rw [ea] at hp; exact (pS_stuck hp).elim
  | exc c A1 => rw [ea] at hp; exact fun H' h' => hp σ H' h'
  | ok e A1 =>
    rw [ea] at hp
    simp only [Ou.bind_ok] at hp
    intro y H1 h1
    split at hp
    · exact (pS_stuck hp).elim
    · rename_i e' A2 ec
      obtain ⟨h2, n2⟩ := h1.closeD ec
      split at hp
      · exact (pS_stuck hp).elim
      · rename_i q0 e0
        obtain ⟨n0, ks0, ds0⟩ := q0
        obtain ⟨p0, ev, h3⟩ := h2.slotAlD (slotD_get e0)
        refine ⟨.ref p0, ev, A2, (.ref p0, .al i) :: (y, e') :: ts, h3, ?_⟩
        cases ek : fk A2 with
        | stuck => rw [ek] at hp; exact (pS_stuck hp).elim
        | exc c A3 => rw [ek] at hp; exact fun H' h' => hp σ H' h'.drop.drop
        | ok kd A3 =>
          rw [ek] at hp
          simp only [Ou.bind_ok] at hp
          intro u H3 h4
          split at hp
          · rename_i n ks ds es
            split at hp
            · rename_i k hk
              split at hp
              · rename_i hl
                have h5 : z.A σ A3 ((.ref p0, .al i) :: (u, kd) :: (y, e') :: ts) H3 := h4.perm (List.Perm.swap _ _ _)
                have h6 := h5.move (slotD_get es)
                have h7 : z.A σ (A3.set i none) ((u, kd) :: (y, e') :: (.ref p0, .mdi n ks ds) :: ts) H3 := h6.perm ((List.Perm.swap _ _ _).trans (List.Perm.cons _ (List.Perm.swap _ _ _)))
                obtain ⟨p, ep, hq⟩ := h7.dput hk n2 hl
                cases ep
                have back : ∀ H5, z.A σ (A3.set i none) ((.ref p0, .mdi n (addL (ixD ks k) ks kd) (putL (ixD ks k) ds e')) :: ts) H5 → D.nx σ H5 := fun H5 h8 => by
                  have h9 := h8.put (fun j q => nomatch q) (set_none_get (slotD_get es)) ev
                  rw [List.set_set] at h9
                  exact hp σ _ h9
                rcases hq with ⟨xs, b, _, _, rfl, nd, nk, hd, hl2, q⟩ | ⟨kvs, i', _, rfl, hp2, hl2, q⟩
                · exact .inl ⟨p0, b, xs, k, rfl, rfl, nd, nk, hd, hl2, fun r ep rr => back _ (q r ep rr)⟩
                · exact .inr ⟨p0, kvs, i', rfl, rfl, hp2, hl2, back _ q⟩
              · exact (pS_stuck hp).elim
            · exact (pS_stuck hp).elim
          · exact (pS_stuck hp).elim
theorem qs_setD {i : Nat} {o k e : Expr} {p pos : Pos} (hu : X.A.units + 65 < cLine) (hW : X.w = z.K.w) (ho : PE X o (tVar i)) (hk : PE X k (tE z fk)) (he : PE X e (tE z fe))
    (ha : ∀ v, assign (.Subscript o k p) X.env v = (do
      let ov ← holding [v] (eval o X.env)
      let iv ← holding [v, ov] (eval k X.env)
      standAt p
      holding [v, ov, iv] (setItem ov iv v)
      release [v, ov, iv] []) := by intro _; rfl)
    (hs : swapsWithSole [.Subscript o k p] e pos.line X.env = pure false := by rfl) (hw : swappedStores [.Subscript o k p] e X.env = pure none := by rfl)
    (h1 : (assignEach [.Subscript o k p] X.env).map (·.2) = [assign (.Subscript o k p) X.env] := by rfl) : PS X (.Assign [.Subscript o k p] e pos) (tS z (fSetD i fk fe)) :=
  PS.imp (ps_asg he (pg_sub ho hk (set_dic hu) ha) hs hw h1) fun _ _ _ h => by rw [hW]; exact setD_go h
/-! ### {} -/
def fDic0 (n : Bool) : FE := fun A => .ok (.mdi n [] []) A
theorem dic0_put {K : Fw} {B : Bs} {σ : L2.St} {A : Sl} {ts : Ts} {H : Hp} {p : Addr} {n : Bool} {o : HO} (h : Abs K B σ A ts H) (hp : H p = none) (dc : DicO K.w p n o [] [] []) : Abs K B σ A ((.ref p, .mdi n [] []) :: ts) (upd H p o) := by
  obtain ⟨G, g, f⟩ := h.fin
  exact f _ _ _ G [p] (same_new hp) (fun _ _ e => e) (g.trans (same_new hp)) (fun _ _ hn => hn) (.mdi upd_same (gp_none g hp) dc .nil .nil) (by simp) fun a ha => by rw [List.mem_singleton.mp ha]; exact hp
theorem qe_dic0K {pos : Pos} : PE X (.Dict [] [] pos) (tE z (fDic0 false)) := PE.imp pe_dnewK fun σ H Q ⟨A, ts, hA, hp⟩ p hn => hp _ _ (dic0_put hA hn (.ik (is := []) (vs := []) List.nodup_nil rfl))
def tDNewN (w : World) : TE := fun _ H Q => ∀ p, H p = none → (p == sysModules) = false → ∀ ep, Q (.ref p) (upd H p (ndHO w p ep []))
theorem pe_dnewN {pos : Pos} : PE X (.Dict [] [] pos) (tDNewN X.w) := ⟨fun pins s σ H Q I h => by
  obtain ⟨ep, ob⟩ := nd_obj (P := X.prog) (w := X.w) (Heap.DictOfH.new (knd := nestedKind X.prog X.w) s.heap)
  exact wpAny_Dict_empty ⟨.ref s.heap.objs.size, _, I.laid (a := s.heap.objs.size) (o := ndHO X.w s.heap.objs.size ep []) (t' := s.toks) (fun _ _ q => Heap.get?_push_of_some _ q) (Nat.le_refl _) (ob _), rfl, h _ (I.hok.fresh (Nat.le_refl _)) (beq_eq_false_iff_ne.mpr (Ne.symm (Nat.ne_of_lt I.big))) ep⟩⟩
theorem qe_dic0N {pos : Pos} (hW : X.w = z.K.w) : PE X (.Dict [] [] pos) (tE z (fDic0 true)) := PE.imp pe_dnewN fun σ H Q ⟨A, ts, hA, hp⟩ p hn hs ep => hp _ _ (dic0_put hA hn (by rw [hW]; exact .nd (xs := []) hs (Nat.zero_le _) List.nodup_nil (fun _ z => nomatch z) .nil rfl))
end
end Ab
end
section
namespace Ab
open PySem PySem.Spec PyProof.Rows L2
/-! ### {k: v} -/
def tDisp1N (w : World) (tk tv : TE) : TE := fun σ H Q => ∀ p, H p = none → (p == sysModules) = false → ∀ ep0, tk σ (upd H p (ndHO w p ep0 [])) fun x H1 => tv σ H1 fun y H2 => ∃ b k, x = .ref b ∧ NdAt w H2 p [] ∧ NkV H2 (.ref b) k ∧ k.depth ≤ 8 ∧ ∀ r ep, RelV y r → Q (.ref p) (upd H2 p (ndHO w p ep (storedH [] k b r)))
section
variable {prog : Program} {w : World} {K : Type} [DecidableEq K] {knd : HeapKind prog w K} {A : Around} {E : Value → Shared → Prop} {s : Shared}
theorem wpAny_Dict_x {env : Env} {keys : List (Option Expr)} {values : List Expr} {pos : Pos} {pairs : List (Sem Value × Sem Value)} {Q : Value → Shared → Prop} (hu : knd.room A)
    (hshape : (evalEachOpt keys env).zip ((evalEach values env).map fun v => do let x ← v; standAt pos; pure x) = pairs.map fun p => (some p.1, p.2)) (h0 : pairs ≠ []) (hlen : pairs.length ≤ 15)
    (h : wpAny (model prog w) A (evalPairs pairs) (fun vs s₁ => ∃ ps, CarriesH knd s₁.heap vs ps ∧ s₁.heap.DictOfH knd s.heap.objs.size [] ∧
      ∀ h' tk, h'.DictOfH knd s.heap.objs.size (storedAllH [] ps) → Heap.SameBut s.heap.objs.size s₁.heap h' → Q (.ref s.heap.objs.size) { s₁ with heap := h', toks := tk }) E
      { s with heap := s.heap.push { cls := .type "dict", data := .dict #[] } }) :
    wpAny (model prog w) A (eval (.Dict keys values pos) env) Q E s := by
  rw [arm_eval_Dict, hshape, dictDisplay_pairs pairs h0 (by omega)]
  exact wpAny_bind (wpAny_standAt (wpAny_bind (wpAny_subDictH (knd := knd) (Q := fun d s' => wpAny (model prog w) A (pure (Value.ref d)) Q E s') hu hlen
    (wpAny_mono h (fun vs s₁ h₁ => by obtain ⟨ps, hc, hm, hq⟩ := h₁; exact ⟨ps, hc, hm, fun h' tk a b => wpAny_pure (hq h' tk a b)⟩) fun _ _ e => e))))
end
section
variable {X : Cx}
theorem pe_disp1N {k v : Expr} {pos : Pos} {tk tv : TE} (hu : X.A.units + 65 < cLine) (hk : PE X k tk) (hv : PE X v tv) : PE X (.Dict [some k] [v] pos) (tDisp1N X.w tk tv) := by
  refine ⟨fun pins s σ H Q I q => ?_⟩
  have hn := I.hok.fresh (Nat.le_refl s.heap.objs.size)
  have hs : (s.heap.objs.size == sysModules) = false := beq_eq_false_iff_ne.mpr (Ne.symm (Nat.ne_of_lt I.big))
  obtain ⟨ep0, ob0⟩ := nd_obj (P := X.prog) (w := X.w) (Heap.DictOfH.new (knd := nestedKind X.prog X.w) s.heap)
  have I1 := I.laid (a := s.heap.objs.size) (o := ndHO X.w s.heap.objs.size ep0 []) (h' := s.heap.push { cls := .type "dict", data := .dict #[] }) (t' := s.toks) (fun _ _ q => Heap.get?_push_of_some _ q) (Nat.le_refl _) (ob0 _)
  refine wpAny_Dict_x (knd := nestedKind X.prog X.w) (pairs := pairTrees [some k] [v] X.env pos) (by show X.A.units + 8 < cLine; omega) (zip_pairTrees _ _ _ _ rfl rfl) (fun z => nomatch z) (by show 1 ≤ 15; decide) ?_
  refine pairTrees_cons_walk (thn (hk.run pins _ σ _ _ I1 (q _ hn hs ep0)) fun u s1 ⟨x, H1, I2, rx, q1⟩ => thn (hv.run pins s1 σ H1 _ I2 q1) fun w2 s2 ⟨y, H2, I3, ry, b, kk, e1, nd, nk, hd, q2⟩ => pairTrees_nil_walk ?_)
  subst e1
  cases (show u = Value.ref b from rx)
  have of := nd.of I3
  refine ⟨[(kk, b, w2)], ⟨rfl, rfl, nk_is I3 nk hd, True.intro⟩, of, fun h' tk' dd hs' => ?_⟩
  have he : ∃ q, h'.get? s.heap.objs.size = some q := let ⟨q, _, _, hq, _⟩ := dd; ⟨q, hq⟩
  obtain ⟨ep, ob⟩ := nd_obj (P := X.prog) (xs := storedH [] kk b w2) dd
  obtain ⟨e0, hep⟩ := nd.hp
  exact ⟨.ref s.heap.objs.size, _, d_write I3 (by rw [hep]; exact True.intro) hs' he (ob _), rfl, q2 w2 ep ry⟩
end
/-- {k: e} -/
def fDic1 (n : Bool) (fk fe : FE) : FE := fun A => (fk A).bind fun kd A1 => match keyOk n kd with
  | none => .stuck
  | some k => (fe A1).bind fun e A2 => match closeD e A2 with
    | some (e', A3) => .ok (.mdi n (addL (ixD [] k) [] kd) (putL (ixD [] k) [] e')) A3
    | none => .stuck
section
variable {z : Z} {X : Cx} {fk fe : FE}
theorem Abs.sw3 {K : Fw} {B : Bs} {σ : L2.St} {A : Sl} {ts : Ts} {H : Hp} {a b c : V × D} (h : Abs K B σ A (a :: b :: c :: ts) H) : Abs K B σ A (b :: a :: c :: ts) H := h.perm (List.Perm.swap _ _ _)
theorem qe_dic1N {k e : Expr} {pos : Pos} (hu : X.A.units + 65 < cLine) (hW : X.w = z.K.w) (hk : PE X k (tE z fk)) (he : PE X e (tE z fe)) : PE X (.Dict [some k] [e] pos) (tE z (fDic1 true fk fe)) := by
  refine PE.imp (pe_disp1N hu hk he) fun σ H Q ⟨A, ts, hA, hp⟩ p hn hs ep0 => ?_
  have h0 : z.A σ A ((.ref p, .mdi true [] []) :: ts) (upd H p (ndHO X.w p ep0 [])) := dic0_put hA hn (by rw [hW]; exact .nd (xs := []) hs (Nat.zero_le _) List.nodup_nil (fun _ z => nomatch z) .nil rfl)
  refine ⟨A, _, h0, ?_⟩
  unfold fDic1 at hp
  cases ek : fk A with
  | stuck => rw [ek] at hp; exact (show False from hp).elim
  | exc c A1 => rw [ek] at hp; exact fun H' h' => hp H' h'.drop
  | ok kd A1 =>
    rw [ek] at hp
    simp only [Ou.bind_ok] at hp
    intro u H1 h1
    split at hp
    · exact (show False from hp).elim
    · rename_i kk hkk
      refine ⟨A1, _, h1, ?_⟩
      cases ee : fe A1 with
      | stuck => rw [ee] at hp; exact (show False from hp).elim
      | exc c A2 => rw [ee] at hp; exact fun H' h' => hp H' h'.drop.drop
      | ok e A2 =>
        rw [ee] at hp
        simp only [Ou.bind_ok] at hp
        intro y H2 h2
        split at hp
        · rename_i e' A3 ec
          obtain ⟨h3, n3⟩ := h2.closeD ec
          obtain ⟨p2, ep, hq⟩ := h3.sw3.dput hkk n3 (by rw [sizeLine_eq]; decide)
          cases ep
          rcases hq with ⟨xs, b, _, hx, rfl, nd, nk, hd, hl2, q⟩ | ⟨kvs, i', e0, _⟩
          · have hx : xs = [] := List.length_eq_zero_iff.mp hx
            subst hx
            exact ⟨b, kk, rfl, by rw [hW]; exact nd, nk, hd, fun r ep rr => hp _ _ (by rw [hW]; exact q r ep rr)⟩
          · cases e0
        · exact (show False from hp).elim
theorem qe_dic1K {k e : Expr} {pos : Pos} (hk : PE X k (tE z fk)) (he : PE X e (tE z fe)) : PE X (.Dict [some k] [e] pos) (tE z (fDic1 false fk fe)) := by
  refine PE.imp (pe_disp (pps_cons hk he pps_nil) rfl rfl (fun q => nomatch q) (by show 1 ≤ 15; decide)) fun σ H Q ⟨A, ts, hA, hp⟩ p hn => ?_
  have h0 : z.A σ A ((.ref p, .mdi false [] []) :: ts) (upd H p (.dK [])) := dic0_put hA hn (.ik (is := []) (vs := []) List.nodup_nil rfl)
  refine ⟨A, _, h0, ?_⟩
  unfold fDic1 at hp
  cases ek : fk A with
  | stuck => rw [ek] at hp; exact (show False from hp).elim
  | exc c A1 => rw [ek] at hp; exact fun H' h' => hp H' h'.drop
  | ok kd A1 =>
    rw [ek] at hp
    simp only [Ou.bind_ok] at hp
    intro u H1 h1
    split at hp
    · exact (show False from hp).elim
    · rename_i kk hkk
      refine ⟨A1, _, h1, ?_⟩
      cases ee : fe A1 with
      | stuck => rw [ee] at hp; exact (show False from hp).elim
      | exc c A2 => rw [ee] at hp; exact fun H' h' => hp H' h'.drop.drop
      | ok e A2 =>
        rw [ee] at hp
        simp only [Ou.bind_ok] at hp
        intro y H2 h2
        split at hp
        · rename_i e' A3 ec
          obtain ⟨h3, n3⟩ := h2.closeD ec
          have h4 := h3.sw3
          obtain ⟨p2, ep, hq⟩ := h4.dput hkk n3 (by rw [sizeLine_eq]; decide)
          cases ep
          rcases hq with ⟨xs, b, e0, _⟩ | ⟨kvs, i', _, rfl, hp2, hl2, q⟩
          · cases e0
          · have hkv : kvs = [] := by
              obtain ⟨G, L1, L2, gd, tm, sl, _, _⟩ := id h4
              cases tm with
              | al _ _ => simp [keyOk] at hkk
              | cons r1 tm =>
                cases tm with
                | al _ _ => exact absurd rfl (n3 _)
                | cons r2 tm =>
                  cases tm with
                  | cons r3 t =>
                    cases r3 with
                    | mdi q0 gp dc rk rv =>
                      obtain ⟨is, e1, e2, e3, _, e4⟩ := dc.iks
                      have e5 : is = [] := by cases is with
                        | nil => rfl
                        | cons a b => simp at e2
                      have e6 := q0.symm.trans hp2
                      rw [e1, e5] at e6
                      have e7 := Option.some.inj e6
                      simp at e7
                      exact e7
            subst hkv
            exact ⟨hp2, [(i', y)], rfl, (by show 1 ≤ 15; decide), hp _ _ q⟩
        · exact (show False from hp).elim
end
end Ab
end
section
namespace Ab
open PySem PySem.Spec PyProof.Rows L2
/- hash values that lean on no text -/
mutual
def nkH : NestedKey → Option Int
  | .none => some (reduceHash 0xFCA86420)
  | .num i => some (hashInt i)
  | .text _ => none
  | .tup ks => (nkHs ks).map fun hs => reduceHash (Builtin.Tuple.tupleHashOf hs)
def nkHs : List NestedKey → Option (List Int)
  | [] => some []
  | k :: ks => match nkH k, nkHs ks with
    | some h, some hs => some (h :: hs)
    | _, _ => none
end
mutual
theorem nkH_hash (w : World) : ∀ {k : NestedKey} {i : Int}, nkH k = some i → NestedKey.hash w k = i
  | .none, _, h => by rw [nkH] at h; cases h; rw [NestedKey.hash]
  | .num i, _, h => by rw [nkH] at h; cases h; rw [NestedKey.hash]
  | .text _, _, h => by rw [nkH] at h; cases h
  | .tup ks, _, h => by
    rw [nkH] at h
    cases e : nkHs ks with
    | none => rw [e] at h; cases h
    | some hs => rw [e] at h; cases h; rw [NestedKey.hash, nkHs_hash w e]
theorem nkHs_hash (w : World) : ∀ {ks : List NestedKey} {hs : List Int}, nkHs ks = some hs → NestedKey.hashes w ks = hs
  | [], _, h => by rw [nkHs] at h; cases h; rw [NestedKey.hashes]
  | k :: ks, _, h => by
    rw [nkHs] at h
    cases e1 : nkH k with
    | none => rw [e1] at h; cases h
    | some a =>
      cases e2 : nkHs ks with
      | none => rw [e1, e2] at h; cases h
      | some b => rw [e1, e2] at h; cases h; rw [NestedKey.hashes, nkH_hash w e1, nkHs_hash w e2]
end
def hashesD : List D → Option (List Int)
  | [] => some []
  | d :: ds => match (nkD d).bind nkH, hashesD ds with
    | some h, some hs => some (h :: hs)
    | _, _ => none
def hashOk (ks : List D) : Bool := match hashesD ks with
  | some hs => decide hs.Nodup
  | none => false
theorem hashes_of {w : World} : ∀ {ks : List D} {xs : List (NestedKey × Addr × Value)} {hs : List Int}, ks.map nkD = xs.map (fun x => some x.1) → hashesD ks = some hs → xs.map (fun x => NestedKey.hash w x.1) = hs
  | [], [], _, _, h => by cases h; rfl
  | [], _ :: _, _, e, _ => by simp at e
  | _ :: _, [], _, e, _ => by simp at e
  | d :: ds, x :: xs, _, e, h => by
    rw [List.map_cons, List.map_cons] at e
    injection e with e1 e2
    unfold hashesD at h
    rw [e1] at h
    cases q : nkH x.1 with
    | none => simp only [Option.bind_some, q] at h; cases h
    | some a =>
      cases q2 : hashesD ds with
      | none => simp only [Option.bind_some, q, q2] at h; cases h
      | some b =>
        simp only [Option.bind_some, q, q2] at h
        cases h
        rw [List.map_cons, nkH_hash w q, hashes_of e2 q2]
theorem hashOk_of {w : World} {ks : List D} {xs : List (NestedKey × Addr × Value)} (e : ks.map nkD = xs.map (fun x => some x.1)) (h : hashOk ks = true) : (xs.map fun x => NestedKey.hash w x.1).Nodup := by
  unfold hashOk at h
  split at h
  · rename_i hs hq
    rw [hashes_of e hq]; exact of_decide_eq_true h
  · cases h
/-! ### dict(d) -/
section
variable {prog : Program} {w : World} {K : Type} [DecidableEq K] {knd : HeapKind prog w K} {A : Around} {E : Value → Shared → Prop} {s : Shared}
theorem kt_call_dictH (st : knd.Stays) {o : Addr} {more : List (K × Addr × Value)} {Q : Value → Shared → Prop} (hu : knd.room A.in1.in1) (hoS : (o == sysModules) = false) (ho : s.heap.DictOfH knd o more) (hap : (more.map fun x => knd.hash x.1).Nodup) (hsz : more.length ≤ sizeLine)
    (h : ∀ h', h'.DictOfH knd s.heap.objs.size more → Heap.SameBut s.heap.objs.size (s.heap.push { cls := .type "dict", data := .dict #[] }) h' → Q (.ref s.heap.objs.size) { s with heap := h' }) :
    wpAny (model prog w) A (call (.type "dict") [.ref o]) Q E s := by
  refine callType_codes (Q₁ := fun obj s₁ => obj = .ref s.heap.objs.size ∧ s₁ = { s with heap := s.heap.push { cls := .type "dict", data := .dict #[] } }) F.kt_called_dict (F.kt_typeCall_dict_1 _) F.entry_dict_init (kt_code_dict_new _ ⟨rfl, rfl⟩) ?_
  rintro obj s₁ ⟨rfl, rfl⟩
  have hnew : (s.heap.push { cls := .type "dict", data := .dict #[] }).DictOfH knd s.heap.objs.size [] := Heap.DictOfH.new s.heap
  have ho' : (s.heap.push { cls := .type "dict", data := .dict #[] }).DictOfH knd o more := by
    obtain ⟨oo, es, ep, h1, h2, h3, h4, h5, h6⟩ := ho
    exact ⟨oo, es, ep, Heap.get?_push_of_some _ h1, h2, h3, h4, fun x hx => st.stays (fun b o _ _ e _ => Heap.get?_push_of_some _ e) (h5 x hx), h6⟩
  have hn : (more.map (·.1)).Nodup := ho.nodup
  have hdo : s.heap.objs.size ≠ o := by
    obtain ⟨_, _, _, hg, _⟩ := ho
    exact fun e => absurd (Heap.lt_size hg) (by rw [e]; exact Nat.lt_irrefl _)
  refine ⟨hnew.typeIs, F.args_dict_init_2 _ _, ?_⟩
  unfold Builtin.«dict.__init__»
  refine wpAny_bind ?_
  unfold Builtin.Dict.selfAndRest
  refine wpAny_bind (wpAny_notOrdered_dict hnew.typeIs ?_)
  show wpAny _ _ (pure (s.heap.objs.size, [Value.ref o])) _ _ _
  refine wpAny_pure ?_
  show wpAny _ _ (Builtin.Dict.updateFrom "dict.__init__" s.heap.objs.size (.ref o) [] .none) _ _ _
  unfold Builtin.Dict.updateFrom
  refine wpAny_bind (wpAny_typeOf ho'.typeIs ?_)
  rw [if_neg (by decide)]
  refine wpAny_bind ?_
  unfold Builtin.Dict.merge
  refine wpAny_bind ?_
  unfold Builtin.Dict.readDirectly
  refine wpAny_bind (wpAny_isInstance ho'.typeIs isSubtype_dict_dict ?_)
  simp only [Bool.not_true, Bool.false_eq_true, if_false]
  refine wpAny_bind (wpAny_specialOf ho'.typeIs F.slot_dict_iter.lookup (wpAny_pure ?_))
  simp only [beq_self_eq_true, if_true]
  refine wpAny_bind (wpAny_pure ?_)
  refine wpAny_mergeDict_heap (hsz := by simpa using hsz) hu hdo hoS hnew ho' (.inr ⟨keyed_apart st ho', hap⟩) fun h' hd' _ hs' => ?_
  show wpAny _ _ (Builtin.Dict.addKeywords s.heap.objs.size [] >>= _) _ _ _
  rw [storedAllH_nil_of_nodup more hn] at hd'
  exact wpAny_bind (wpAny_pure (wpAny_pure ⟨rfl, h h' hd' hs'⟩))
end
def rDictOf (w : World) : List V → Hp → VK → Prop := fun as H Q => (∃ p xs, as = [.ref p] ∧ NdAt w H p xs ∧ (xs.map fun x => NestedKey.hash w x.1).Nodup ∧ ∀ l, H l = none → (l == sysModules) = false → ∀ ep, Q (.ref l) (upd H l (ndHO w l ep xs))) ∨
  ∃ p kvs, as = [.ref p] ∧ H p = some (.dK kvs) ∧ ∀ l, H l = none → Q (.ref l) (upd H l (.dK kvs))
section
variable {X : Cx}
theorem call_dictOf (hu : X.A.units + 65 < cLine) : CallR X (.type "dict") (rDictOf X.w) := by
  intro pins s σ H xs us Q I r h
  rcases h with ⟨p, es, rfl, nd, hh, q⟩ | ⟨p, kvs, rfl, hp, q⟩
  · obtain ⟨u, rfl, ru⟩ := vals1 r
    cases (show u = Value.ref p from ru)
    have hs : (s.heap.objs.size == sysModules) = false := beq_eq_false_iff_ne.mpr (Ne.symm (Nat.ne_of_lt I.big))
    have hn := I.hok.fresh (Nat.le_refl s.heap.objs.size)
    refine kt_call_dictH nestedKind_stays (by show X.A.units + 1 + 1 + 8 < cLine; omega) nd.sys (nd.of I) hh nd.len fun h' dd hs' => ?_
    obtain ⟨ep, ob⟩ := nd_obj dd
    refine ⟨.ref s.heap.objs.size, _, I.laid (a := s.heap.objs.size) (o := ndHO X.w s.heap.objs.size ep es) (t' := s.toks) (fun b q hq => ?_) (Nat.le_refl _) (ob _), rfl, q _ hn hs ep⟩
    exact (hs'.2 b (Nat.ne_of_lt (Heap.lt_size hq))).trans (Heap.get?_push_of_some _ hq)
  · obtain ⟨u, rfl, ru⟩ := vals1 r
    cases (show u = Value.ref p from ru)
    exact d_copyOf I (.inl hp) fun l s' hn I' => ⟨.ref l, _, I', rfl, q l hn⟩
variable {z : Z}
def gDictOf (ds : List D) (A : Sl) : Option D := match ds with
  | [d] => match dicOf (see A d) with
    | some (n, ks, vs) => if isFs vs = true ∧ (n = false ∨ hashOk ks = true) then some (.mdi n ks vs) else none
    | none => none
  | _ => none
theorem cd_dictOf : CallD z (rDictOf z.K.w) gDictOf := by
  intro σ A ts H vs ds d' hl h hg Q q
  unfold gDictOf at hg
  split at hg
  · rename_i d
    obtain ⟨v, rfl⟩ := call1 hl rfl
    have h : z.A σ A ((v, d) :: ts) H := h
    split at hg
    · rename_i n ks es hd
      split at hg
      · rename_i hf
        cases hg
        obtain ⟨G, L, gh, r, f⟩ := h.open (dicOf_al hd)
        obtain ⟨p, o, kv, ws, L2, rfl, hp, dc, rk, rv, _⟩ := r.dic gh hd
        have e1 := rv.isFs hf.1
        subst e1
        have fin : ∀ l o', H l = none → DicO z.K.w l n o' ks kv ws → Q (.ref l) (upd H l o') := fun l o' hln dc' =>
          q _ _ (f _ _ _ G [l] (same_new hln) (fun _ _ e => e) (gh.trans (same_new hln)) (fun _ _ hn => hn) (.mdi upd_same (gp_none gh hln) dc' (rk.free fun _ _ e => e) (rv.free fun _ _ e => e)) (by simp) fun a ha => by rw [List.mem_singleton.mp ha]; exact hln)
        cases n with
        | true =>
          obtain ⟨xs, ⟨_, rfl⟩, nd, rfl, hv, hks⟩ := dc.nds gh hp rk
          refine .inl ⟨p, xs, rfl, nd, hashOk_of hks (hf.2.resolve_left fun z => nomatch z), fun l hln hs ep => fin l _ hln (.nd hs nd.len nd.nd (fun x hx => (nd.ks x hx).1) hv hks)⟩
        | false =>
          obtain ⟨is, rfl, rfl, rfl, hn, hl2⟩ := dc.iks
          exact .inr ⟨p, _, rfl, hp, fun l hln => fin l _ hln (.ik hn hl2)⟩
      · cases hg
    · cases hg
  · cases hg
/-! ### a method of a tracked dict -/
def TyD (w : World) (x : V) (H : Hp) : Prop := (∃ p xs, x = .ref p ∧ NdAt w H p xs) ∨ ∃ p kvs, x = .ref p ∧ H p = some (.dK kvs)
theorem tyD_is {pins : List (Addr × Obj)} {σ : L2.St} {H : Hp} {s : Shared} {x : V} {v : Value} (I : Inv X pins σ H s) (r : RelV x v) (ty : TyD X.w x H) : s.TypeIs v "dict" ∧ ∀ a, v = .ref a → ∃ ob, s.heap.get? a = some ob ∧ ob.dict = none := by
  have z : ∀ p, (∃ o, s.heap.get? p = some o ∧ o.ExactDict) → s.TypeIs (.ref p) "dict" ∧ ∀ a, Value.ref p = .ref a → ∃ ob, s.heap.get? a = some ob ∧ ob.dict = none := by
    intro p ⟨o, e, ex⟩
    refine ⟨⟨o, e, ex.1⟩, fun a e2 => ?_⟩
    cases e2
    exact ⟨o, e, ex.2.1⟩
  rcases ty with ⟨p, xs, rfl, nd⟩ | ⟨p, kvs, rfl, hp⟩
  · cases (show v = Value.ref p from r)
    obtain ⟨o, _, _, e, ex, _⟩ := nd.of I
    exact z p ⟨o, e, ex⟩
  · cases (show v = Value.ref p from r)
    obtain ⟨_, _, _, _, o, _, _, e, ex, _⟩ := I.hok p _ hp
    exact z p ⟨o, e, ex⟩
def tBD0 (w : World) (r : V → List V → Hp → VK → Prop) (to : TE) : TE := fun σ H Q => to σ H fun x H1 => TyD w x H1 ∧ r x [] H1 Q
def tBD (w : World) (r : V → List V → Hp → VK → Prop) (to : TE) (t : L2.TA) : TE := fun σ H Q => to σ H fun x H1 => TyD w x H1 ∧ t σ H1 fun xs H2 => r x xs H2 Q
variable {o e : Expr} {es : List Expr} {to : TE} {t : L2.TA} {name : Str} {apos cpos : Pos} {id : String} {r : V → List V → Hp → VK → Prop}
theorem pe_bd0 (pa : PlainAttrs "dict") (slot : Slot "dict" name id) (hty : typeOf (.builtin id) = pure (.type "method_descriptor")) (hm : MtR X id r) (ho : PE X o to)
    (hbase : attributeBase o name X.env (eval o X.env) = eval o X.env := by rfl) (hline : (apos.endLine == cpos.line) = true := by rfl) : PE X (.Call (.Attribute o name apos) [] [] cpos) (tBD0 X.w r to) := by
  refine ⟨fun pins s σ H Q I h => ?_⟩
  refine wpAny_Call_method0_late hbase hline (thn (ho.run pins s σ H _ I h) fun v s1 ⟨x, H1, I1, r1, ty, q1⟩ => ?_)
  obtain ⟨h1, h2⟩ := tyD_is I1 r1 ty
  exact ⟨"dict", id, pa, slot, hty, h1, h2, Calls.callWith_builtin rfl (PySem.evalArgs_none (hm pins s1 σ H1 x [] v [] Q I1 r1 .nil q1))⟩
theorem pe_bd (pa : PlainAttrs "dict") (slot : Slot "dict" name id) (hty : typeOf (.builtin id) = pure (.type "method_descriptor")) (hm : MtR X id r) (ho : PE X o to) (ha : PA X (e :: es) t)
    (hbase : attributeBase o name X.env (eval o X.env) = eval o X.env := by rfl)
    (hfew : ((backTo cpos (starEach (e :: es) X.env)).all (fun x => !x.1) && (backToKw cpos (keywordEach [] X.env)).all (fun x => x.1.isSome)
      && decide ((e :: es).length + ([] : List Keyword).length + (if ([] : List Keyword).isEmpty then 0 else 1) < 30)) = true := by rfl)
    (hline : (apos.endLine == cpos.line) = true := by rfl) (hs : starEach (e :: es) X.env = (false, eval e X.env) :: starEach es X.env := by rfl) (hplain : (backTo cpos (starEach es X.env)).any (·.1) = false := by rfl) :
    PE X (.Call (.Attribute o name apos) (e :: es) [] cpos) (tBD X.w r to t) := by
  refine ⟨fun pins s σ H Q I h => ?_⟩
  refine wpAny_Call_method_late hbase hfew hline rfl (thn (ho.run pins s σ H _ I h) fun v s1 ⟨x, H1, I1, r1, ty, q1⟩ => ?_)
  obtain ⟨h1, h2⟩ := tyD_is I1 r1 ty
  refine ⟨"dict", id, pa, slot, hty, h1, h2, ?_⟩
  have hA := ha.run cpos pins s1 σ H1 _ I1 q1
  rw [hs] at hA ⊢
  refine Calls.callWith_builtin (by show (false || (backTo cpos (starEach es X.env)).any (·.1)) = false; rw [hplain] <;> rfl) (Calls.evalArgs_plain ?_)
  exact thn hA fun us s2 ⟨vs, H2, I2, r2, q2⟩ => hm pins s2 σ H2 x vs v us Q I2 r1 r2 q2
end
end Ab
end
section
namespace Ab
open PySem PySem.Spec PyProof.Rows L2
/-! ### a list inside an owned list or dict grows -/
section
variable {K : Fw} {B : Bs} {G H : Hp} {σ : L2.St} {A : Sl} {ts : Ts} {p q : Addr} {ws ws' : List V} {ds es es' : List D} {j : Nat} {L Lt L2 : List Addr} {o : HO}
/-- the inner list at j is replaced: what is rebuilt by `mk` -/
theorem inner_core {dnew : D} (gd : Gd B G H) (t : Tms K σ G H ts Lt) (sl : Sls K G H σ A L2) (hq : H q = some o) (gp : G q = none) {vs : List V} (rs : Rs K G H vs ds L) (nd : (((q :: L) ++ Lt) ++ L2).Nodup) (ow : ∀ a ∈ ((q :: L) ++ Lt) ++ L2, Own B a)
    (hj : ds[j]? = some (.mu es)) (he : isFs es = true) : ∃ p ws, vs[j]? = some (.ref p) ∧ H p = some (.lst ws) ∧ Rs K G H ws es [] ∧ p ≠ q ∧
    ∀ (ws' : List V) (es' : List D), Rs K G (upd H p (.lst ws')) ws' es' [] → (∀ H' M, H' q = some o → Rs K G H' vs (ds.set j (.mu es')) M → R K G H' (.ref q) dnew (q :: M)) → Abs K B σ A ((.ref q, dnew) :: ts) (upd H p (.lst ws')) := by
  obtain ⟨p, ws, Le, N, h1, h2, h3, h4, h5, h6⟩ := rs.pick hj
  have e0 := h4.isFs he
  subst e0
  have pm : L.Perm (p :: N) := by simpa using h5
  have pp : (((q :: L) ++ Lt) ++ L2).Perm (((q :: p :: N) ++ Lt) ++ L2) := List.Perm.append_right _ (List.Perm.append_right _ (List.Perm.cons _ pm))
  have nd2 := nodup_perm pp nd
  have ow2 : ∀ a ∈ ((q :: p :: N) ++ Lt) ++ L2, Own B a := fun a ha => ow a (pp.mem_iff.mpr ha)
  have qn : q ∉ (p :: N ++ Lt) ++ L2 := (List.nodup_cons.mp nd2).1
  have pn : p ∉ (N ++ Lt) ++ L2 := (List.nodup_cons.mp (List.nodup_cons.mp nd2).2).1
  have qp : q ≠ p := fun z => qn (by rw [z]; simp)
  refine ⟨p, ws, h1, h2, h4, Ne.symm qp, fun ws' es' wr mk => ?_⟩
  have old : ∀ a ∈ (N ++ Lt) ++ L2, G a = none := fun a ha => by
    rcases List.mem_append.mp ha with m | m
    · rcases List.mem_append.mp m with m | m
      · exact (rs.own a (pm.mem_iff.mpr (List.mem_cons_of_mem _ m))).1
      · exact (t.own a m).1
    · exact (sl.own a m).1
  have keep : ∀ a ∈ (N ++ Lt) ++ L2, upd H p (.lst ws') a = H a ∧ G a = none := fun a ha => ⟨upd_ne (fun z => pn (by rw [← z]; exact ha)), old a ha⟩
  obtain ⟨M, m1, m2⟩ := h6 (upd H p (.lst ws')) (.mu es') [p] (.mu upd_same h3 wr) fun a ha => keep a (by simp [ha])
  have ownp : Own B p := ow2 p (by simp)
  have pq : (((q :: M) ++ Lt) ++ L2).Perm (((q :: p :: N) ++ Lt) ++ L2) := List.Perm.append_right _ (List.Perm.append_right _ (List.Perm.cons _ (by simpa using m2)))
  refine ⟨G, (q :: M) ++ Lt, L2, ⟨fun a o h => ?_, gd.bg, fun a o hx h => ?_, gd.sep, fun a ha => ?_⟩, .cons (mk _ M ((upd_ne qp).trans hq) m1) (t.mono (fun _ _ e => e) fun a ha => keep a (by simp [ha])), sl.mono (fun _ _ e => e) fun a ha => keep a (by simp [ha]), nodup_perm pq.symm nd2, fun a ha => ow2 a (pq.mem_iff.mp ha)⟩
  · have : a ≠ p := fun z => by rw [z, h3] at h; cases h
    rw [upd_ne this]; exact gd.gh a o h
  · have : a ≠ p := fun z => by
      subst z
      rcases ownp with n | n
      · rw [n] at h; cases h
      · exact hx n
    rw [upd_ne this]; exact gd.bh a o hx h
  · by_cases z : a = p
    · rw [z, upd_same]; exact fun z => nomatch z
    · rw [upd_ne z]; exact gd.alive a ha
theorem Rs.scalApp {G H H' : Hp} {ws : List V} {es : List D} {y : V} {e : D} {L : List Addr} (r : Rs K G H ws es []) (re : R K G H y e L) (hs : isScal e = true) : Rs K G H' (ws ++ [y]) (es ++ [e]) [] := by
  have := (r.free (H' := H') fun _ _ e => e).app (Rs.one (re.scal hs G H'))
  simpa using this
/-- ds[j] of an owned list grows -/
theorem Abs.napp {v y : V} {e : D} (h : Abs K B σ A ((y, e) :: (v, .mu ds) :: ts) H) (hj : ds[j]? = some (.mu es)) (he : isFs es = true) (hs : isScal e = true) :
    ∃ q vs p ws, v = .ref q ∧ H q = some (.lst vs) ∧ vs.length = ds.length ∧ vs[j]? = some (.ref p) ∧ H p = some (.lst ws) ∧ ws.length = es.length ∧ Abs K B σ A ((v, .mu (ds.set j (.mu (es ++ [e])))) :: ts) (upd H p (.lst (ws ++ [y]))) := by
  obtain ⟨G, L1, L2, gd, tm, sl, nd, ow⟩ := h
  cases tm with
  | al _ _ => simp [isScal] at hs
  | cons r1 tm =>
    cases tm with
    | cons r2 t =>
      rename_i Le Lp Lt
      cases r2 with
      | mu hq gp rs =>
        rename_i q vs L
        have sb : (((q :: L) ++ Lt) ++ L2).Sublist ((Le ++ ((q :: L) ++ Lt)) ++ L2) := List.Sublist.append_right (List.sublist_append_right _ _) _
        obtain ⟨p, ws, h1, h2, h3, h4, h5⟩ := inner_core (dnew := .mu (ds.set j (.mu (es ++ [e])))) gd t sl hq gp rs (sb.nodup nd) (fun a ha => ow a (sb.subset ha)) hj he
        exact ⟨q, vs, p, ws, rfl, hq, rs.length, h1, h2, h3.length, h5 _ _ (h3.scalApp r1 hs) fun H' M e1 m => .mu e1 gp m⟩
/-- .. of an owned dict -/
theorem Abs.dapp {n : Bool} {ks : List D} {v y : V} {e : D} (h : Abs K B σ A ((y, e) :: (v, .mdi n ks ds) :: ts) H) (hj : ds[j]? = some (.mu es)) (he : isFs es = true) (hs : isScal e = true) :
    ∃ q vs p ws o kv, v = .ref q ∧ H q = some o ∧ DicO K.w q n o ks kv vs ∧ vs[j]? = some (.ref p) ∧ H p = some (.lst ws) ∧ ws.length = es.length ∧ Abs K B σ A ((v, .mdi n ks (ds.set j (.mu (es ++ [e])))) :: ts) (upd H p (.lst (ws ++ [y]))) := by
  obtain ⟨G, L1, L2, gd, tm, sl, nd, ow⟩ := h
  cases tm with
  | al _ _ => simp [isScal] at hs
  | cons r1 tm =>
    cases tm with
    | cons r2 t =>
      rename_i Le Lp Lt
      cases r2 with
      | mdi hq gp dc rk rs =>
        rename_i q o kv vs L
        have sb : (((q :: L) ++ Lt) ++ L2).Sublist ((Le ++ ((q :: L) ++ Lt)) ++ L2) := List.Sublist.append_right (List.sublist_append_right _ _) _
        obtain ⟨p, ws, h1, h2, h3, h4, h5⟩ := inner_core (dnew := .mdi n ks (ds.set j (.mu (es ++ [e])))) gd t sl hq gp rs (sb.nodup nd) (fun a ha => ow a (sb.subset ha)) hj he
        exact ⟨q, vs, p, ws, o, kv, rfl, hq, dc, h1, h2, h3.length, h5 _ _ (h3.scalApp r1 hs) fun H' M e1 m => .mdi e1 gp dc (rk.free fun _ _ e => e) m⟩
end
theorem Abs.dapp2 {K : Fw} {B : Bs} {H : Hp} {σ : L2.St} {A : Sl} {ts : Ts} {ds es : List D} {j : Nat} {ks : List D} {v y : V} {e : D} (h : Abs K B σ A ((y, e) :: (v, .mdi true ks ds) :: ts) H) (hj : ds[j]? = some (.mu es)) (he : isFs es = true) (hs : isScal e = true) :
    ∃ q vs p ws, v = .ref q ∧ (∃ xs, NdAt K.w H q xs ∧ Vals vs (xs.map (·.2.2)) ∧ ks.map nkD = xs.map fun x => some x.1) ∧ vs[j]? = some (.ref p) ∧ H p = some (.lst ws) ∧ ws.length = es.length ∧ Abs K B σ A ((v, .mdi true ks (ds.set j (.mu (es ++ [e])))) :: ts) (upd H p (.lst (ws ++ [y]))) := by
  obtain ⟨G, L1, L2, gd, tm, sl, nd, ow⟩ := h
  cases tm with
  | al _ _ => simp [isScal] at hs
  | cons r1 tm =>
    cases tm with
    | cons r2 t =>
      rename_i Le Lp Lt
      cases r2 with
      | mdi hq gp dc rk rs =>
        rename_i q o kv vs L
        have sb : (((q :: L) ++ Lt) ++ L2).Sublist ((Le ++ ((q :: L) ++ Lt)) ++ L2) := List.Sublist.append_right (List.sublist_append_right _ _) _
        obtain ⟨p, ws, h1, h2, h3, h4, h5⟩ := inner_core (dnew := .mdi true ks (ds.set j (.mu (es ++ [e])))) gd t sl hq gp rs (sb.nodup nd) (fun a ha => ow a (sb.subset ha)) hj he
        obtain ⟨xs, ⟨_, rfl⟩, nda, _, hv, hks⟩ := id (dc.nds gd.gh hq rk)
        exact ⟨q, vs, p, ws, rfl, ⟨xs, nda, hv, hks⟩, h1, h2, h3.length, h5 _ _ (h3.scalApp r1 hs) fun H' M e1 m => .mdi e1 gp dc (rk.free fun _ _ e => e) m⟩
/-! ### x[k].append(v), v a name's scalar -/
def fNApp (i : Nat) (fk : FE) (jv : Nat) : FE := fun A => match slotL i A with
  | none => .stuck
  | some _ => (fk A).bind fun kd A1 => match kd, slotL i A1, A1[jv]? with
    | .int k, some ds, some (some e) => match ixN ds.length k with
      | some m => match ds[m]? with
        | some (.mu es) => if isFs es = true ∧ isScal e = true ∧ es.length < sizeLine then .ok .non (A1.set i (some (.mu (ds.set m (.mu (es ++ [e])))))) else .stuck
        | _ => .stuck
      | none => .stuck
    | _, _, _ => .stuck
section
variable {z : Z} {X : Cx} {fk : FE}
theorem napp_go {i jv : Nat} {σ : L2.St} {H : Hp} {Q : VK} (h : tE z (fNApp i fk jv) σ H Q) : tBM z.K "list" rAppend (tOp (rIxL z.K) (tVar i) (tE z fk)) (L2.tCons (tVar jv) L2.tNil) σ H Q := by
  obtain ⟨A, ts, hA, hp⟩ := h
  unfold fNApp at hp
  split at hp
  · exact (show False from hp).elim
  · rename_i ds0 e0
    obtain ⟨p0, xs0, ev, hp0, _, h1⟩ := hA.slotAl (slotL_get e0)
    refine ⟨.ref p0, ev, A, (.ref p0, .al i) :: ts, h1, ?_⟩
    cases ek : fk A with
    | stuck => rw [ek] at hp; exact (show False from hp).elim
    | exc c A2 => rw [ek] at hp; exact fun H' h' => hp H' h'.drop
    | ok kd A1 =>
      rw [ek] at hp
      simp only [Ou.bind_ok] at hp
      intro u H1 h2
      split at hp
      · rename_i k ds e es ej
        split at hp
        · rename_i m hm
          split at hp
          · rename_i ee he
            split at hp
            · rename_i hc
              have eu := h2.int
              have h3 : z.A σ A1 ((.ref p0, .al i) :: ts) H1 := h2.drop
              obtain ⟨y, ey, h4⟩ := h3.var ej
              have h5 : z.A σ A1 ((y, e) :: (.ref p0, .al i) :: ts) H1 := by
                have : isF e = true := by cases e <;> simp [isScal] at hc <;> simp [isF]
                rw [if_pos this] at h4
                exact h4
              obtain ⟨q, vs, p, ws, eq, hq, hl, hj, hpp, hwl, h6⟩ := (h5.swapMove (slotL_get es)).napp he hc.1 hc.2.1
              cases eq
              have h7 := h6.put (fun j q => nomatch q) (set_none_get (slotL_get es)) ev
              rw [List.set_set] at h7
              have hat : atI vs k = some (.ref p) := by
                unfold atI
                rw [hl, hm]
                exact hj
              exact ⟨p0, vs, k, .ref p, rfl, eu, .inl (.inl hq), hat, .inl ⟨rfl, _, .inl (.inl hpp)⟩, y, ey, p, ws, y, rfl, rfl, hpp, by rw [hwl]; exact hc.2.2, hp _ _ h7.pnon⟩
            · exact (show False from hp).elim
          · exact (show False from hp).elim
        · exact (show False from hp).elim
      · exact (show False from hp).elim
theorem qe_napp {i jv : Nat} {o k e : Expr} {p1 apos cpos : Pos} (hK : X.K = z.K) (ho : PE X o (tVar i)) (hk : PE X k (tE z fk)) (he : PE X e (tVar jv)) (hs0 : PlainIx k)
    (hbase : attributeBase (.Subscript o k p1) "append" X.env (eval (.Subscript o k p1) X.env) = eval (.Subscript o k p1) X.env := by rfl)
    (hfew : ((backTo cpos (starEach [e] X.env)).all (fun x => !x.1) && (backToKw cpos (keywordEach [] X.env)).all (fun x => x.1.isSome)
      && decide ([e].length + ([] : List Keyword).length + (if ([] : List Keyword).isEmpty then 0 else 1) < 30)) = true := by rfl)
    (hline : (apos.endLine == cpos.line) = true := by rfl) (hs : starEach [e] X.env = (false, eval e X.env) :: starEach [] X.env := by rfl) (hplain : (backTo cpos (starEach [] X.env)).any (·.1) = false := by rfl) :
    PE X (.Call (.Attribute (.Subscript o k p1) "append" apos) [e] [] cpos) (tE z (fNApp i fk jv)) :=
  PE.imp (pe_bm PySem.F.plainAttrs_list PySem.F.slot_list_append PySem.F.type_list_append mt_append (pe_ix ix_list ho hk hs0) (pa_cons he pa_nil hs) hbase hfew hline hs hplain) fun _ _ _ h => by rw [hK]; exact napp_go h
end
/-! ### d.setdefault(k, []).append(v) -/
def rSd (w : World) : V → List V → Hp → VK → Prop := fun x as H Q => ∃ p b xs k v, x = .ref p ∧ as = [.ref b, v] ∧ NdAt w H p xs ∧ NkV H (.ref b) k ∧ k.depth ≤ 8 ∧
  (∀ a r, atKey xs k = some (a, r) → ∃ v', RelV v' r ∧ Q v' H) ∧ (atKey xs k = none → xs.length < sizeLine ∧ ∀ r ep, RelV v r → Q v (upd H p (ndHO w p ep (storedH xs k b r))))
section
variable {X : Cx}
theorem mt_setdefault (hu : X.A.units + 65 < cLine) : MtR X "dict.setdefault" (rSd X.w) := by
  intro pins s σ H x as v us Q I rx ra ⟨p, b, xs, k, v0, e1, e2, nd, nk, hd, q1, q2⟩
  subst e1; subst e2
  cases (show v = Value.ref p from rx)
  obtain ⟨u, r, rfl, ru, rr⟩ := Vals.two ra
  cases (show u = Value.ref b from ru)
  refine call_setdefault_heap (hsz := nd.len) (nk_room hu) (nk_is I nk hd) nd.sys (nd.of I) (fun p' hp' => ?_) fun hn h' dd hs => ?_
  · obtain ⟨v', rv, q⟩ := q1 p'.1 p'.2 hp'
    exact ⟨v', H, I.tok _, rv, q⟩
  · have he : ∃ q, h'.get? p = some q := let ⟨q, _, _, hq, _⟩ := dd; ⟨q, hq⟩
    obtain ⟨ep, ob⟩ := nd_obj dd
    obtain ⟨e0, hep⟩ := nd.hp
    exact ⟨v0, _, d_write I (by rw [hep]; exact True.intro) hs he (ob _), rr, (q2 hn).2 r ep rr⟩
end
def fSdA (i : Nat) (fk : FE) (jv : Nat) : FE := fun A => match slotD i A with
  | none => .stuck
  | some _ => (fk A).bind fun kd A1 => match slotD i A1, A1[jv]? with
    | some (n, ks, ds), some (some e) => match keyOk n kd with
      | some k => if n = true ∧ isScal e = true then match ixD ks k with
        | some m => match ds[m]? with
          | some (.mu es) => if isFs es = true ∧ es.length < sizeLine then .ok .non (A1.set i (some (.mdi n ks (ds.set m (.mu (es ++ [e])))))) else .stuck
          | _ => .stuck
        | none => if ks.length < sizeLine then .ok .non (A1.set i (some (.mdi n (ks ++ [kd]) (ds ++ [.mu [e]])))) else .stuck
        else .stuck
      | none => .stuck
    | _, _ => .stuck
section
variable {K : Fw} {B : Bs} {G H : Hp} {σ : L2.St} {A : Sl} {ts : Ts} {p : Addr} {v y u : V} {o o' : HO} {ks ds : List D} {e kd : D} {kv ws : List V} {L Le Lt L2 : List Addr} {n : Bool} {k : NestedKey}
theorem dput_step (gd : Gd B G H) (t : Tms K σ G H ts Lt) (sl : Sls K G H σ A L2) (r1 : R K G H u kd []) (r2 : R K G H y e Le) (q : H p = some o) (gp : G p = none) (rk : Rs K G H kv ks []) (rv : Rs K G H ws ds L)
    (nd : ((Le ++ ((p :: L) ++ Lt)) ++ L2).Nodup) (ow : ∀ a ∈ (Le ++ ((p :: L) ++ Lt)) ++ L2, Own B a) (dc' : DicO K.w p n o' (addL (ixD ks k) ks kd) (addL (ixD ks k) kv u) (putL (ixD ks k) ws y)) (hj : ∀ j, ixD ks k = some j → j < ds.length) :
    Abs K B σ A ((.ref p, .mdi n (addL (ixD ks k) ks kd) (putL (ixD ks k) ds e)) :: ts) (upd H p o') := by
  obtain ⟨M, N, m1, m2, m3⟩ := rv.putL r2 (ixD ks k) hj
  have pp : ((Le ++ ((p :: L) ++ Lt)) ++ L2).Perm ((((p :: (Le ++ L))) ++ Lt) ++ L2) := by
    refine List.Perm.append_right _ ?_
    rw [List.cons_append, List.cons_append]
    refine List.perm_middle.trans (List.Perm.cons _ ?_)
    rw [List.append_assoc]
  have sb : (((p :: (Le ++ N)) ++ Lt) ++ L2).Sublist (((p :: (Le ++ L)) ++ Lt) ++ L2) := List.Sublist.append_right (List.Sublist.append_right ((List.Sublist.append_left m3 _).cons₂ p) _) _
  have p2 : (((p :: M) ++ Lt) ++ L2).Perm (((p :: (Le ++ N)) ++ Lt) ++ L2) := List.Perm.append_right _ (List.Perm.append_right _ (List.Perm.cons _ m2))
  have nd' := nodup_perm p2.symm (sb.nodup (nodup_perm pp nd))
  have np : p ∉ M := fun hm => (List.nodup_cons.mp nd').1 (List.mem_append_left _ (List.mem_append_left _ hm))
  have own := m1.own
  exact dmut_core gd t sl (by rw [q]; exact fun z => nomatch z) gp (fun a ha => (own a ha).1) (.mdi upd_same gp dc' ((rk.addL r1 _).mono (fun _ _ e => e) fun _ z => nomatch z) (m1.mono (fun _ _ e => e) fun a ha => ⟨upd_ne (fun e => np (by rw [← e]; exact ha)), (own a ha).1⟩)) nd' fun a ha => ow a (pp.mem_iff.mpr (sb.subset (p2.mem_iff.mp ha)))
theorem dicO_put {ep : Nat} {w : World} {xs : List (NestedKey × Addr × Value)} {b : Addr} {r : Value} (nda : NdAt w H p xs) (hv : Vals ws (xs.map (·.2.2))) (hks : ks.map nkD = xs.map fun x => some x.1) (hd : k.depth ≤ 8) (hnk : nkD kd = some k) (hl : xs.length < sizeLine) (rr : RelV y r) :
    DicO w p true (ndHO w p ep (storedH xs k b r)) (addL (ixD ks k) ks kd) (addL (ixD ks k) (xs.map fun x => V.ref x.2.1) (.ref b)) (putL (ixD ks k) ws y) := by
  have ix := ixD_nd hks k
  have e1 : addL (ixD ks k) (xs.map fun x => V.ref x.2.1) (V.ref b) = (storedH xs k b r).map fun x => V.ref x.2.1 := by
    have := storedH_adrs (k := k) (a := b) (v := r) nda.nd
    rw [show (fun x : NestedKey × Addr × Value => V.ref x.2.1) = V.ref ∘ (fun x => x.2.1) from rfl, ← List.map_map, ← List.map_map, this, addL_map, ix]
  rw [e1]
  refine .nd nda.sys ?_ ?_ ?_ ?_ ?_
  · have := congrArg List.length (storedH_keys (k := k) (a := b) (v := r) nda.nd)
    have h2 : (addL (xs.findIdx? fun x => decide (x.1 = k)) (xs.map (·.1)) k).length ≤ xs.length + 1 := by
      cases xs.findIdx? fun x => decide (x.1 = k) <;> simp [addL]
    simp only [List.length_map] at this
    omega
  · rw [storedH_keys nda.nd]; exact nd_addL nda.nd
  · intro x hx
    rcases storedH_mem nda.nd hx with ⟨h1, _⟩ | ⟨x', hx', h1, _⟩
    · rw [h1]; exact hd
    · rw [← h1]; exact (nda.ks x' hx').1
  · rw [storedH_vals nda.nd, ix]; exact Vals.putL hv rr _
  · have h1 := storedH_keys (k := k) (a := b) (v := r) nda.nd
    rw [addL_map, hks, ix, hnk]
    rw [show (fun x : NestedKey × Addr × Value => some x.1) = some ∘ (fun x => x.1) from rfl, ← List.map_map, ← List.map_map, h1, addL_map]
theorem NdAt.updH {w : World} {H : Hp} {p q : Addr} {xs : List (NestedKey × Addr × Value)} {ob : HO} (h : NdAt w H p xs) (hq : H q = none) : NdAt w (upd H q ob) p xs :=
  ⟨let ⟨ep, e⟩ := h.hp; ⟨ep, (upd_ne (ne_of_none e hq)).trans e⟩, h.sys, h.len, h.nd, fun x hx => ⟨(h.ks x hx).1, (h.ks x hx).2.mono fun a ys e => by rw [upd_ne (ne_of_none e hq)]; exact e⟩⟩
/-- d.setdefault(k, []).append(y), k not there: q is the new list -/
theorem Abs.sdNew {q : Addr} (h : Abs K B σ A ((u, kd) :: (y, e) :: (v, .mdi true ks ds) :: ts) H) (hk : keyOk true kd = some k) (hs : isScal e = true) (hix : ixD ks k = none) (hl : ks.length < sizeLine) (hq : H q = none) :
    ∃ p xs b, v = .ref p ∧ u = .ref b ∧ NdAt K.w (upd H q (.lst [])) p xs ∧ NkV (upd H q (.lst [])) (.ref b) k ∧ k.depth ≤ 8 ∧ xs.length < sizeLine ∧ atKey xs k = none ∧ p ≠ q ∧ ∀ r ep, RelV (.ref q) r →
      Abs K B σ A ((v, .mdi true (ks ++ [kd]) (ds ++ [.mu [e]])) :: ts) (upd (upd (upd H q (.lst [])) p (ndHO K.w p ep (storedH xs k b r))) q (.lst [y])) := by
  have hf := keyOk_isF hk
  obtain ⟨G, L1, L2, gd, tm, sl, nd, ow⟩ := h
  cases tm with
  | al _ _ => simp [keyOk] at hk
  | cons r1 tm =>
    cases tm with
    | al _ _ => simp [isScal] at hs
    | cons r2 tm =>
      cases tm with
      | cons r3 t =>
        rename_i Lk Le Lp Lt
        have ek := r1.isF hf
        subst ek
        have r2s := fun G H => r2.scal hs G H
        cases r3 with
        | mdi q0 gp dc rk rv =>
          rename_i p o kv ws L
          obtain ⟨xs, ⟨_, rfl⟩, nda, rfl, hv, hks⟩ := dc.nds gd.gh q0 rk
          obtain ⟨b, rfl, nk, hd, hnk⟩ := keyOk_nd hk gd.gh r1
          have hxl : xs.length = ks.length := by have := congrArg List.length hks; simpa using this.symm
          have pq : p ≠ q := ne_of_none q0 hq
          refine ⟨p, xs, b, rfl, rfl, nda.updH hq, nk.mono fun a ys e => by rw [upd_ne (ne_of_none e hq)]; exact e, hd, by omega, ?_, pq, fun r ep rr => ?_⟩
          · rw [atKey_ix, ← ixD_nd hks, hix]; rfl
          have eH : upd (upd (upd H q (.lst [])) p (ndHO K.w p ep (storedH xs k b r))) q (.lst [y]) = upd (upd H q (.lst [y])) p (ndHO K.w p ep (storedH xs k b r)) := by
            funext a
            by_cases h1 : a = q
            · subst h1; rw [upd_same, upd_ne (Ne.symm pq), upd_same]
            · rw [upd_ne h1]
              by_cases h2 : a = p
              · subst h2; rw [upd_same, upd_same]
              · rw [upd_ne h2, upd_ne h2, upd_ne h1, upd_ne h1]
          rw [eH]
          have gq := gp_none gd.gh hq
          have neQ : ∀ a, H a ≠ none → a ≠ q := fun a ha z => ha (z ▸ hq)
          have keep : ∀ L' : List Addr, (∀ a ∈ L', G a = none ∧ H a ≠ none) → ∀ a ∈ L', upd H q (.lst [y]) a = H a ∧ G a = none := fun L' h a ha => ⟨upd_ne (neQ a (h a ha).2), (h a ha).1⟩
          have gd' : Gd B G (upd H q (.lst [y])) := ⟨fun a o e => same_new hq _ _ (gd.gh a o e), gd.bg, fun a o hx e => same_new hq _ _ (gd.bh a o hx e), gd.sep, fun a ha => by rw [upd_ne (neQ a (gd.alive a ha))]; exact gd.alive a ha⟩
          have t' := t.mono (H' := upd H q (.lst [y])) (fun _ _ e => e) (keep _ t.own)
          have sl' := sl.mono (H' := upd H q (.lst [y])) (fun _ _ e => e) (keep _ sl.own)
          have rv' := rv.mono (H' := upd H q (.lst [y])) (fun _ _ e => e) (keep _ rv.own)
          have sb : (((p :: L) ++ Lt) ++ L2).Sublist ((([] : List Addr) ++ (Le ++ ((p :: L) ++ Lt))) ++ L2) := List.Sublist.append_right (List.sublist_append_right _ _) _
          have nq : q ∉ ((p :: L) ++ Lt) ++ L2 := fun m => by
            rcases List.mem_append.mp m with m | m
            · rcases List.mem_append.mp m with m | m
              · rcases List.mem_cons.mp m with m | m
                · exact pq m.symm
                · exact (rv.own q m).2 hq
              · exact (t.own q m).2 hq
            · exact (sl.own q m).2 hq
          have := dput_step (k := k) (e := .mu [e]) (y := .ref q) (Le := [q]) gd' t' sl' (r1.free fun _ _ e => e) (.mu (L := []) upd_same gq (by simpa using Rs.one (r2s G (upd H q (.lst [y]))))) ((upd_ne pq).trans q0) gp (rk.free fun _ _ e => e) rv' (by
            rw [List.append_assoc, List.singleton_append, List.nodup_cons]
            exact ⟨by rw [List.append_assoc] at nq; simpa using nq, by simpa using sb.nodup nd⟩) (fun a ha => by
            rw [List.append_assoc] at ha
            rcases List.mem_append.mp ha with m | m
            · rw [List.mem_singleton.mp m]
              by_cases hx : q ∈ B.ex
              · exact .inr hx
              · refine .inl ?_
                cases qb : B.H q with
                | none => rfl
                | some ob => rw [gd.bh q ob hx qb] at hq; cases hq
            · exact ow a (sb.subset (by simpa using m))) (dicO_put (ep := ep) (b := b) nda hv hks hd hnk (by omega) rr) (fun j hj => by rw [hix] at hj; cases hj)
          rw [hix] at this
          exact this
theorem Abs.key {u : V} (h : Abs K B σ A ((u, kd) :: ts) H) (hk : keyOk true kd = some k) : ∃ b, u = .ref b ∧ NkV H (.ref b) k ∧ k.depth ≤ 8 := by
  obtain ⟨G, L1, L2, gd, tm, sl, nd, ow⟩ := h
  cases tm with
  | al _ _ => simp [keyOk] at hk
  | cons r1 t =>
    obtain ⟨b, h1, h2, h3, _⟩ := keyOk_nd hk gd.gh r1
    exact ⟨b, h1, h2, h3⟩
theorem Abs.tyD {d : D} {ks vs : List D} (h : Abs K B σ A ((v, d) :: ts) H) (hd : dicOf (see A d) = some (n, ks, vs)) : TyD K.w v H := by
  obtain ⟨G, L, gh, r, f⟩ := h.open (dicOf_al hd)
  obtain ⟨p, o, kv, ws, L2, rfl, hp, dc, rk, rv, _⟩ := r.dic gh hd
  cases n with
  | true =>
    obtain ⟨xs, ⟨_, rfl⟩, nd, _, _, _⟩ := dc.nds gh hp rk
    exact .inl ⟨p, xs, rfl, nd⟩
  | false =>
    obtain ⟨is, rfl, _⟩ := dc.iks
    exact .inr ⟨p, _, rfl, hp⟩
end
section
variable {z : Z} {X : Cx} {fk : FE}
theorem scal_isF {e : D} (h : isScal e = true) : isF e = true := by cases e <;> simp [isScal] at h <;> simp [isF]
theorem sda_go {i jv : Nat} {σ : L2.St} {H : Hp} {Q : VK} (h : tE z (fSdA i fk jv) σ H Q) : tBM z.K "list" rAppend (tBD z.K.w (rSd z.K.w) (tVar i) (L2.tCons (tE z fk) (L2.tCons (L2.tLst L2.tNil) L2.tNil))) (L2.tCons (tVar jv) L2.tNil) σ H Q := by
  obtain ⟨A, ts, hA, hp⟩ := h
  unfold fSdA at hp
  split at hp
  · exact (show False from hp).elim
  · rename_i q0 e0
    obtain ⟨n0, ks0, ds0⟩ := q0
    obtain ⟨p0, ev, h1⟩ := hA.slotAlD (slotD_get e0)
    have s0 : see A (.al i) = .mdi n0 ks0 ds0 := by simp [see, slotD_get e0]
    refine ⟨.ref p0, ev, h1.tyD (by rw [s0]; rfl), A, (.ref p0, .al i) :: ts, h1, ?_⟩
    cases ek : fk A with
    | stuck => rw [ek] at hp; exact (show False from hp).elim
    | exc c A2 => rw [ek] at hp; exact fun H' h' => hp H' h'.drop
    | ok kd A1 =>
      rw [ek] at hp
      simp only [Ou.bind_ok] at hp
      intro u H1 h2
      split at hp
      · rename_i n ks ds e es ej
        split at hp
        · rename_i k hk
          split at hp
          · rename_i hc
            obtain ⟨rfl, hsc⟩ := hc
            have hij : i ≠ jv := fun z => by
              subst z
              rw [slotD_get es] at ej
              cases ej
              simp [isScal] at hsc
            obtain ⟨y, ey, h3⟩ := h2.var ej
            rw [if_pos (scal_isF hsc)] at h3
            -- y, u, the dict as a temporary
            have h4 : z.A σ A1 ((.ref p0, .al i) :: (u, kd) :: (y, e) :: ts) H1 := h3.perm ((List.Perm.swap _ _ _).trans ((List.Perm.cons _ (List.Perm.swap _ _ _)).trans (List.Perm.swap _ _ _)))
            have h5 := h4.move (slotD_get es)
            have h6 : z.A σ (A1.set i none) ((u, kd) :: (y, e) :: (.ref p0, .mdi true ks ds) :: ts) H1 := h5.perm ((List.Perm.swap _ _ _).trans (List.Perm.cons _ (List.Perm.swap _ _ _)))
            have back : ∀ {ks' ds'} H5, z.A σ (A1.set i none) ((.ref p0, .mdi true ks' ds') :: ts) H5 → z.A σ (A1.set i (some (.mdi true ks' ds'))) ((.non, .non) :: ts) H5 := fun H5 h8 => by
              have h9 := h8.put (fun j q => nomatch q) (set_none_get (slotD_get es)) ev
              rw [List.set_set] at h9
              exact h9.pnon
            refine ⟨by show 0 ≤ sizeLine; exact Nat.zero_le _, fun q hq => ?_⟩
            split at hp
            · rename_i m hm
              split at hp
              · rename_i ee he
                split at hp
                · rename_i hcc
                  have h7 : z.A σ (A1.set i none) ((y, e) :: (.ref p0, .mdi true ks ds) :: ts) (upd H1 q (.lst [])) := h6.drop.same (same_new hq)
                  have h7k : z.A σ (A1.set i none) ((u, kd) :: (y, e) :: (.ref p0, .mdi true ks ds) :: ts) (upd H1 q (.lst [])) := h6.same (same_new hq)
                  obtain ⟨b, rfl, nk, hd⟩ := h7k.key hk
                  obtain ⟨q1, vs, p, ws, eq, nd4, hj, hpp, hwl, h8⟩ := h7.dapp2 he hcc.1 hsc
                  cases eq
                  obtain ⟨xs, nd, hv, hks⟩ := nd4
                  refine ⟨p0, b, xs, k, .ref q, rfl, rfl, nd, nk, hd, fun a r hat => ⟨.ref p, ?_, .inl ⟨rfl, _, .inl (.inl hpp)⟩, y, ey, p, ws, y, rfl, rfl, hpp, by rw [hwl]; exact hcc.2, hp _ _ (back _ h8)⟩, fun hn => ?_⟩
                  · rw [atKey_ix, ← ixD_nd hks, hm] at hat
                    obtain ⟨r', hr', rr⟩ := hv.get hj
                    rw [List.getElem?_map] at hr'
                    have hat : (xs[m]?).map (·.2) = some (a, r) := hat
                    cases hx : xs[m]? with
                    | none => rw [hx] at hat; cases hat
                    | some x =>
                      rw [hx] at hr' hat
                      cases hr'
                      have : x.2 = (a, r) := Option.some.inj hat
                      have rr : RelV (.ref p) x.2.2 := rr
                      rw [this] at rr
                      exact rr
                  · rw [atKey_ix, ← ixD_nd hks, hm] at hn
                    obtain ⟨r', hr', rr⟩ := hv.get hj
                    rw [List.getElem?_map] at hr'
                    have hn : (xs[m]?).map (·.2) = none := hn
                    cases hx : xs[m]? with
                    | none => rw [hx] at hr'; cases hr'
                    | some x => rw [hx] at hn; cases hn
                · exact (show False from hp).elim
              · exact (show False from hp).elim
            · rename_i hix
              split at hp
              · rename_i hl
                obtain ⟨p, xs, b, ep, rfl, nd, nk, hd, hxl, hat, pq, h8⟩ := h6.sdNew hk hsc hix hl hq
                cases ep
                refine ⟨p0, b, xs, k, .ref q, rfl, rfl, nd, nk, hd, (fun a r e => by rw [hat] at e; cases e), fun _ => ⟨hxl, fun r ep rr => ?_⟩⟩
                have hq2 : upd (upd H1 q (.lst [])) p0 (ndHO z.K.w p0 ep (storedH xs k b r)) q = some (.lst []) := by rw [upd_ne (Ne.symm pq), upd_same]
                exact ⟨.inl ⟨rfl, _, .inl (.inl hq2)⟩, y, ey, q, [], y, rfl, rfl, hq2, by rw [sizeLine_eq]; decide, hp _ _ (back _ (h8 r ep rr))⟩
              · exact (show False from hp).elim
          · exact (show False from hp).elim
        · exact (show False from hp).elim
      · exact (show False from hp).elim
theorem qe_sda {i jv : Nat} {o k e : Expr} {ps p1 p2 p3 apos cpos : Pos} (hu : X.A.units + 65 < cLine) (hK : X.K = z.K) (hW : X.w = z.K.w) (ho : PE X o (tVar i)) (hk : PE X k (tE z fk)) (he : PE X e (tVar jv))
    (hbase0 : attributeBase o "setdefault" X.env (eval o X.env) = eval o X.env := by rfl)
    (hfew0 : ((backTo p2 (starEach [k, .List [] p3] X.env)).all (fun x => !x.1) && (backToKw p2 (keywordEach [] X.env)).all (fun x => x.1.isSome)
      && decide ([k, Expr.List [] p3].length + ([] : List Keyword).length + (if ([] : List Keyword).isEmpty then 0 else 1) < 30)) = true := by rfl)
    (hline0 : (p1.endLine == p2.line) = true := by rfl) (hs0 : starEach [k, .List [] p3] X.env = (false, eval k X.env) :: starEach [.List [] p3] X.env := by rfl) (hs1 : starEach [.List [] p3] X.env = (false, eval (.List [] p3) X.env) :: starEach [] X.env := by rfl) (hplain0 : (backTo p2 (starEach [.List [] p3] X.env)).any (·.1) = false := by rfl)
    (hbase : attributeBase (.Call (.Attribute o "setdefault" p1) [k, .List [] p3] [] p2) "append" X.env (eval (.Call (.Attribute o "setdefault" p1) [k, .List [] p3] [] p2) X.env) = eval (.Call (.Attribute o "setdefault" p1) [k, .List [] p3] [] p2) X.env := by rfl)
    (hfew : ((backTo cpos (starEach [e] X.env)).all (fun x => !x.1) && (backToKw cpos (keywordEach [] X.env)).all (fun x => x.1.isSome)
      && decide ([e].length + ([] : List Keyword).length + (if ([] : List Keyword).isEmpty then 0 else 1) < 30)) = true := by rfl)
    (hline : (apos.endLine == cpos.line) = true := by rfl) (hs : starEach [e] X.env = (false, eval e X.env) :: starEach [] X.env := by rfl) (hplain : (backTo cpos (starEach [] X.env)).any (·.1) = false := by rfl) :
    PE X (.Call (.Attribute (.Call (.Attribute o "setdefault" p1) [k, .List [] p3] [] p2) "append" apos) [e] [] cpos) (tE z (fSdA i fk jv)) :=
  PE.imp (pe_bm PySem.F.plainAttrs_list PySem.F.slot_list_append PySem.F.type_list_append mt_append
    (pe_bd PySem.F.plainAttrs_dict PySem.F.slot_dict_setdefault PySem.F.type_dict_setdefault (mt_setdefault hu) ho (pa_cons hk (pa_cons (pe_lst pa_nil) pa_nil hs1) hs0) hbase0 hfew0 hline0 hs0 hplain0)
    (pa_cons he pa_nil hs) hbase hfew hline hs hplain) fun _ _ _ h => by rw [hK, hW]; exact sda_go h
end
end Ab
end
section
namespace Ab
open PySem PySem.Spec PyProof.Rows L2
/-! ### len(d) -/
def gLenX (ds : List D) (A : Sl) : Option D := match ds with
  | [d] => match dicOf (see A d) with
    | some (_, ks, _) => some (.int ks.length)
    | none => gLen [d] A
  | ds => gLen ds A
def LenX (K : PySem.W.Frag) (w : World) (x : V) (H : Hp) (n : Nat) : Prop := (∃ p xs, x = .ref p ∧ NdAt w H p xs ∧ xs.length = n) ∨ ∃ p kvs, x = .ref p ∧ H p = some (.dK kvs) ∧ kvs.length = n
def rLenD (K : PySem.W.Frag) (w : World) : List V → Hp → VK → Prop := fun as H Q => (∃ x n, as = [x] ∧ LenV K x H n ∧ Q (.int n) H) ∨ ∃ x n, as = [x] ∧ LenX K w x H n ∧ Q (.int n) H
section
variable {X : Cx}
theorem call_lenX : CallR X (.builtin "len") (rLenD X.K X.w) := by
  intro pins s σ H xs us Q I r h
  rcases h with h | ⟨x, n, rfl, hx, q⟩
  · exact call_len pins s σ H xs us Q I r h
  · obtain ⟨u, rfl, ru⟩ := vals1 r
    rcases hx with ⟨p, es, rfl, nd, hl⟩ | ⟨p, kvs, rfl, hp, hl⟩
    · cases (show u = Value.ref p from ru)
      have dd := nd.of I
      refine PyProof.Rows.call_len_slot (n := n) dd.typeIs PySem.F.slot_dict_len (fun Q' hq => len_keyed nd.sys ⟨es, dd, rfl⟩ (by rw [pairsH_length, hl]; exact hq)) (by have := nd.len; rw [sizeLine_eq] at this; omega) (by have := nd.len; rw [sizeLine_eq] at this; omega) ?_
      exact ⟨.int n, H, I.tok _, ⟨_, rfl⟩, q⟩
    · cases (show u = Value.ref p from ru)
      exact d_len I (.inl hp) fun t s' I' => ⟨.int n, H, I', ⟨t, by rw [hl]⟩, q⟩
variable {z : Z}
theorem cd_lenX : CallD z (rLenD z.K z.K.w) gLenX := by
  intro σ A ts H vs ds d' hl h hg Q q
  unfold gLenX at hg
  split at hg
  · rename_i d
    split at hg
    · rename_i n ks es hd
      cases hg
      obtain ⟨v, rfl⟩ := call1 hl rfl
      have h : z.A σ A ((v, d) :: ts) H := h
      obtain ⟨G, L, gh, r, f⟩ := h.open (dicOf_al hd)
      obtain ⟨p, o, kv, ws, L2, rfl, hp, dc, rk, rv, _⟩ := r.dic gh hd
      have fin := q _ _ (f.known gh (.int (ks.length : Int)))
      cases n with
      | true =>
        obtain ⟨xs, ⟨_, rfl⟩, nd, rfl, hv, hks⟩ := dc.nds gh hp rk
        have := congrArg List.length hks
        simp at this
        exact .inr ⟨_, _, rfl, .inl ⟨p, xs, rfl, nd, this.symm⟩, fin⟩
      | false =>
        obtain ⟨is, rfl, rfl, rfl, hn, hl2⟩ := dc.iks
        exact .inr ⟨_, _, rfl, .inr ⟨p, _, rfl, hp, by simp; omega⟩, fin⟩
    · exact .inl (cd_len σ A ts H vs [d] d' hl h hg Q q)
  · exact .inl (cd_len σ A ts H vs ds d' hl h hg Q q)
end
/-! ### d.update(e) -/
def mrgD : List D → List D → List D → List D → List D × List D
  | ks, ds, k :: ks2, d :: ds2 => match nkD k with
    | some n => mrgD (addL (ixD ks n) ks k) (putL (ixD ks n) ds d) ks2 ds2
    | none => (ks, ds)
  | ks, ds, _, _ => (ks, ds)
structure Ent (K : Fw) (G H : Hp) (xs : List (NestedKey × Addr × Value)) (ks ds : List D) (ws : List V) : Prop where
  rk : Rs K G H (xs.map fun x => V.ref x.2.1) ks []
  rv : Rs K G H ws ds []
  hv : Vals ws (xs.map (·.2.2))
  hks : ks.map nkD = xs.map fun x => some x.1
  nd : (xs.map (·.1)).Nodup
  dep : ∀ x ∈ xs, x.1.depth ≤ 8
section
variable {K : Fw} {G H : Hp} {xs ys : List (NestedKey × Addr × Value)} {ks ds ks2 ds2 : List D} {ws ws2 : List V}
theorem Ent.len (h : Ent K G H xs ks ds ws) : xs.length = ks.length ∧ ds.length = ks.length := by
  have h1 := congrArg List.length h.hks
  have h2 := h.hv.length
  have h3 := h.rv.length
  simp at h1 h2
  omega
theorem Ent.put (h : Ent K G H xs ks ds ws) {b : Addr} {kd e : D} {k : NestedKey} {y : V} {r : Value} (r1 : R K G H (.ref b) kd []) (hk : nkD kd = some k) (hd : k.depth ≤ 8) (r2 : R K G H y e []) (rr : RelV y r) :
    Ent K G H (storedH xs k b r) (addL (ixD ks k) ks kd) (putL (ixD ks k) ds e) (putL (ixD ks k) ws y) := by
  have ix := ixD_nd h.hks k
  have e1 : addL (ixD ks k) (xs.map fun x => V.ref x.2.1) (V.ref b) = (storedH xs k b r).map fun x => V.ref x.2.1 := by
    have := storedH_adrs (k := k) (a := b) (v := r) h.nd
    rw [show (fun x : NestedKey × Addr × Value => V.ref x.2.1) = V.ref ∘ (fun x => x.2.1) from rfl, ← List.map_map, ← List.map_map, this, addL_map, ix]
  refine ⟨?_, ?_, ?_, ?_, ?_, ?_⟩
  · rw [← e1]; exact h.rk.addL r1 _
  · obtain ⟨M, N, m1, m2, m3⟩ := h.rv.putL r2 (ixD ks k) fun j hj => by
      rw [ix] at hj
      obtain ⟨x, h1, _⟩ := findIx_lt hj
      have := (List.getElem?_eq_some_iff.mp h1).1
      have := h.len
      omega
    have n0 := List.sublist_nil.mp m3
    subst n0
    have m0 : M = [] := by simpa using m2
    subst m0
    exact m1
  · rw [storedH_vals h.nd, ix]; exact Vals.putL h.hv rr _
  · have h1 := storedH_keys (k := k) (a := b) (v := r) h.nd
    rw [addL_map, h.hks, ix, hk]
    rw [show (fun x : NestedKey × Addr × Value => some x.1) = some ∘ (fun x => x.1) from rfl, ← List.map_map, ← List.map_map, h1, addL_map]
  · rw [storedH_keys h.nd]; exact nd_addL h.nd
  · intro x hx
    rcases storedH_mem h.nd hx with ⟨h1, _⟩ | ⟨x', hx', h1, _⟩
    · rw [h1]; exact hd
    · rw [← h1]; exact h.dep x' hx'
theorem Rs.cons_nil {v : V} {vs : List V} {d : D} {ds : List D} (r : Rs K G H (v :: vs) (d :: ds) []) : R K G H v d [] ∧ Rs K G H vs ds [] := by
  generalize hL : ([] : List Addr) = L0 at r
  cases r with
  | cons r t =>
    obtain ⟨e1, e2⟩ := List.append_eq_nil_iff.mp hL.symm
    subst e1; subst e2
    exact ⟨r, t⟩
theorem Ent.mrg (h : Ent K G H xs ks ds ws) (h2 : Ent K G H ys ks2 ds2 ws2) : ∃ ws', Ent K G H (storedAllH xs ys) (mrgD ks ds ks2 ds2).1 (mrgD ks ds ks2 ds2).2 ws' := by
  induction ys generalizing xs ks ds ws ks2 ds2 ws2 with
  | nil =>
    have := h2.len
    have k0 : ks2 = [] := List.length_eq_zero_iff.mp (by simp at this; omega)
    subst k0
    exact ⟨ws, by unfold mrgD; exact h⟩
  | cons y ys ih =>
    have hl := h2.len
    obtain ⟨rk, rv, hv, hks, nd, dep⟩ := h2
    cases ks2 with
    | nil => simp at hl
    | cons k ks2 =>
      cases ds2 with
      | nil => simp at hl
      | cons d ds2 =>
        cases ws2 with
        | nil => have := hv.length; simp at this
        | cons w ws2 =>
          rw [List.map_cons] at rk hks hv nd
          rw [List.map_cons] at hks
          obtain ⟨rk1, rk2⟩ := rk.cons_nil
          obtain ⟨rv1, rv2⟩ := rv.cons_nil
          injection hks with e1 e2
          rw [List.nodup_cons] at nd
          cases hv with
          | cons hr hv =>
            have st := h.put rk1 e1 (dep y List.mem_cons_self) rv1 hr
            obtain ⟨ws', r⟩ := ih st ⟨rk2, rv2, hv, e2, nd.2, fun x hx => dep x (List.mem_cons_of_mem _ hx)⟩
            refine ⟨ws', ?_⟩
            have e3 : mrgD ks ds (k :: ks2) (d :: ds2) = mrgD (addL (ixD ks y.1) ks k) (putL (ixD ks y.1) ds d) ks2 ds2 := by
              rw [mrgD, e1]
            rw [e3]
            exact r
theorem storedAllH_len : ∀ (ys xs : List (NestedKey × Addr × Value)), (xs.map (·.1)).Nodup → (storedAllH xs ys).length ≤ xs.length + ys.length
  | [], xs, _ => by simp [storedAllH]
  | y :: ys, xs, nd => by
    have h1 : (storedH xs y.1 y.2.1 y.2.2).length ≤ xs.length + 1 := by
      have h2 := congrArg List.length (storedH_keys (k := y.1) (a := y.2.1) (v := y.2.2) nd)
      have h3 : (addL (xs.findIdx? fun x => decide (x.1 = y.1)) (xs.map (·.1)) y.1).length ≤ xs.length + 1 := by
        cases xs.findIdx? fun x => decide (x.1 = y.1) <;> simp [addL]
      simp only [List.length_map] at h2
      omega
    have h4 := storedAllH_len ys (storedH xs y.1 y.2.1 y.2.2) (by rw [storedH_keys nd]; exact nd_addL nd)
    show (storedAllH (storedH xs y.1 y.2.1 y.2.2) ys).length ≤ _
    rw [List.length_cons]; omega
end
def rUpd (w : World) : V → List V → Hp → VK → Prop := fun x as H Q => ∃ p o xs ys, x = .ref p ∧ as = [.ref o] ∧ p ≠ o ∧ NdAt w H p xs ∧ NdAt w H o ys ∧ (xs ≠ [] ∨ (ys.map fun x => NestedKey.hash w x.1).Nodup) ∧ xs.length + ys.length ≤ sizeLine ∧ ∀ ep, Q .non (upd H p (ndHO w p ep (storedAllH xs ys)))
section
variable {X : Cx}
theorem mt_updN (hu : X.A.units + 65 < cLine) : MtR X "dict.update" (rUpd X.w) := by
  intro pins s σ H x as v us Q I rx ra ⟨p, o, xs, ys, e1, e2, po, nd, nd2, hap, hsz, q⟩
  subst e1; subst e2
  cases (show v = Value.ref p from rx)
  obtain ⟨u, rfl, ru⟩ := Vals.one ra
  cases (show u = Value.ref o from ru)
  have d2 := nd2.of I
  refine call_update_dictH (nk_room hu) po nd2.sys (nd.of I) d2 (hap.imp id fun h => ⟨keyed_apart nestedKind_stays d2, h⟩) hsz fun h' dd _ hs => ?_
  have he : ∃ q, h'.get? p = some q := let ⟨q, _, _, hq, _⟩ := dd; ⟨q, hq⟩
  obtain ⟨ep, ob⟩ := nd_obj dd
  obtain ⟨e0, hep⟩ := nd.hp
  exact ⟨.non, _, d_write (t' := s.toks) I (by rw [hep]; exact True.intro) hs he (ob _), rfl, q ep⟩
end
def fUpd (i : Nat) (fe : FE) : FE := fun A => match slotD i A with
  | none => .stuck
  | some _ => (fe A).bind fun d A1 => match closeD d A1 with
    | none => .stuck
    | some (d', A2) => match fz d', slotD i A2 with
      | .fdi true ks2 ds2, some (true, ks, ds) => if isFs ds = true ∧ (ks ≠ [] ∨ hashOk ks2 = true) ∧ ks.length + ks2.length ≤ sizeLine then .ok .non (A2.set i (some (.mdi true (mrgD ks ds ks2 ds2).1 (mrgD ks ds ks2 ds2).2))) else .stuck
      | _, _ => .stuck
section
variable {z : Z} {X : Cx} {fe : FE}
theorem Abs.dupd {K : Fw} {B : Bs} {H : Hp} {σ : L2.St} {A : Sl} {ts : Ts} {v y : V} {ks ds ks2 ds2 : List D} (h : Abs K B σ A ((y, .fdi true ks2 ds2) :: (v, .mdi true ks ds) :: ts) H) (hf : isFs ds = true) (hl : ks.length + ks2.length ≤ sizeLine) :
    ∃ p o xs ys, v = .ref p ∧ y = .ref o ∧ p ≠ o ∧ NdAt K.w H p xs ∧ NdAt K.w H o ys ∧ ks.map nkD = xs.map (fun x => some x.1) ∧ ks2.map nkD = ys.map (fun x => some x.1) ∧ ∀ ep, Abs K B σ A ((v, .mdi true (mrgD ks ds ks2 ds2).1 (mrgD ks ds ks2 ds2).2) :: ts) (upd H p (ndHO K.w p ep (storedAllH xs ys))) := by
  obtain ⟨G, L1, L2, gd, tm, sl, nd, ow⟩ := h
  cases tm with
  | cons r1 tm =>
    cases tm with
    | cons r2 t =>
      rename_i Le Lp Lt
      cases r1 with
      | fdi q1 dc1 rk1 rv1 =>
        cases r2 with
        | mdi hq gp dc rk rv =>
          rename_i o2 ho2 kv2 ws2 p ho kv ws L
          have e0 := rv.isFs hf
          subst e0
          obtain ⟨xs, ⟨_, rfl⟩, nda, rfl, hv, hks⟩ := dc.nds gd.gh hq rk
          obtain ⟨ys, ⟨_, rfl⟩, nda2, rfl, hv2, hks2⟩ := dc1.nds gd.gh (gd.gh _ _ q1) rk1
          have po : p ≠ o2 := fun z => by rw [z, q1] at gp; cases gp
          have E1 : Ent K G H xs ks ds ws := ⟨rk, rv, hv, hks, nda.nd, fun x hx => (nda.ks x hx).1⟩
          have E2 : Ent K G H ys ks2 ds2 ws2 := ⟨rk1, rv1, hv2, hks2, nda2.nd, fun x hx => (nda2.ks x hx).1⟩
          obtain ⟨ws', E⟩ := E1.mrg E2
          have hxl := E1.len
          have hyl := E2.len
          have hsl := storedAllH_len ys xs nda.nd
          refine ⟨p, o2, xs, ys, rfl, rfl, po, nda, nda2, hks, hks2, fun ep => ?_⟩
          refine dmut_core (L' := []) gd t sl (by rw [hq]; exact fun z => nomatch z) gp (fun _ z => nomatch z) (.mdi upd_same gp (.nd nda.sys (by omega) E.nd E.dep E.hv E.hks) (E.rk.free fun _ _ e => e) (E.rv.free fun _ _ e => e)) (by simpa using nd) (by simpa using ow)
theorem upd_go {i : Nat} {σ : L2.St} {H : Hp} {Q : VK} (h : tE z (fUpd i fe) σ H Q) : tBD z.K.w (rUpd z.K.w) (tVar i) (L2.tCons (tE z fe) L2.tNil) σ H Q := by
  obtain ⟨A, ts, hA, hp⟩ := h
  unfold fUpd at hp
  split at hp
  · exact (show False from hp).elim
  · rename_i q0 e0
    obtain ⟨n0, ks0, ds0⟩ := q0
    obtain ⟨p0, ev, h1⟩ := hA.slotAlD (slotD_get e0)
    have s0 : see A (.al i) = .mdi n0 ks0 ds0 := by simp [see, slotD_get e0]
    refine ⟨.ref p0, ev, h1.tyD (by rw [s0]; rfl), A, (.ref p0, .al i) :: ts, h1, ?_⟩
    cases ea : fe A with
    | stuck => rw [ea] at hp; exact (show False from hp).elim
    | exc c A2 => rw [ea] at hp; exact fun H' h' => hp H' h'.drop
    | ok d A1 =>
      rw [ea] at hp
      simp only [Ou.bind_ok] at hp
      intro y H1 h2
      split at hp
      · exact (show False from hp).elim
      · rename_i d' A2 ec
        obtain ⟨h3, n3⟩ := h2.closeD ec
        split at hp
        · rename_i ks2 ds2 ks ds ef es
          split at hp
          · rename_i hc
            have h4 := (h3.swapMove (slotD_get es)).fz n3
            rw [ef] at h4
            obtain ⟨p, o, xs, ys, eq, rfl, po, nd, nd2, hks, hks2, h5⟩ := h4.dupd hc.1 hc.2.2
            cases eq
            have h6 := fun ep => (h5 ep).put (fun j q => nomatch q) (set_none_get (slotD_get es)) ev
            simp only [List.set_set] at h6
            have l1 := congrArg List.length hks
            have l2 := congrArg List.length hks2
            simp at l1 l2
            refine ⟨p0, o, xs, ys, rfl, rfl, po, nd, nd2, hc.2.1.imp (fun h e => h ?_) (fun h => hashOk_of hks2 h), by omega, fun ep => hp _ _ (h6 ep).pnon⟩
            rw [e] at l1
            exact List.length_eq_zero_iff.mp (by simpa using l1)
          · exact (show False from hp).elim
        · exact (show False from hp).elim
theorem qe_upd {i : Nat} {o e : Expr} {apos cpos : Pos} (hu : X.A.units + 65 < cLine) (hW : X.w = z.K.w) (ho : PE X o (tVar i)) (he : PE X e (tE z fe))
    (hbase : attributeBase o "update" X.env (eval o X.env) = eval o X.env := by rfl)
    (hfew : ((backTo cpos (starEach [e] X.env)).all (fun x => !x.1) && (backToKw cpos (keywordEach [] X.env)).all (fun x => x.1.isSome)
      && decide ([e].length + ([] : List Keyword).length + (if ([] : List Keyword).isEmpty then 0 else 1) < 30)) = true := by rfl)
    (hline : (apos.endLine == cpos.line) = true := by rfl) (hs : starEach [e] X.env = (false, eval e X.env) :: starEach [] X.env := by rfl) (hplain : (backTo cpos (starEach [] X.env)).any (·.1) = false := by rfl) :
    PE X (.Call (.Attribute o "update" apos) [e] [] cpos) (tE z (fUpd i fe)) :=
  PE.imp (pe_bd PySem.F.plainAttrs_dict PySem.F.slot_dict_update PySem.F.type_dict_update (mt_updN hu) ho (pa_cons he pa_nil hs) hbase hfew hline hs hplain) fun _ _ _ h => by rw [hW]; exact upd_go h
end
end Ab
end
section
namespace Ab
open PySem PySem.Spec PyProof.Rows L2
/-! ### x op= e, ints -/
def fAug (f : Int → Int → Int) (i : Nat) (fe : FE) : FS := fun A => match A[i]? with
  | some (some (.int a)) => (fe A).bind fun b A1 => match b with
    | .int b => .ok .next (A1.set i (some (.int (f a b))))
    | _ => .stuck
  | _ => .stuck
section
variable {z : Z} {X : Cx} {fe : FE}
theorem aug_go {f : Int → Int → Int} {i : Nat} {D : Ends} {σ : L2.St} {H : Hp} (h : tS z (fAug f i fe) D σ H) : tAug i (tE z fe) (ipI f) D σ H := by
  obtain ⟨A, ts, hA, c, hp⟩ := h
  unfold fAug at hp
  split at hp
  · rename_i a ea
    obtain ⟨v, ev, h1⟩ := hA.var ea
    rw [if_pos (by simp [isF])] at h1
    have e1 := h1.int
    subst e1
    refine ⟨_, ev, A, ts, hA, ?_⟩
    cases ee : fe A with
    | stuck => rw [ee] at hp; exact (pS_stuck hp).elim
    | exc c A1 => rw [ee] at hp; exact fun H' h' => hp σ H' h'
    | ok b A1 =>
      rw [ee] at hp
      simp only [Ou.bind_ok] at hp
      intro y H1 h2
      split at hp
      · rename_i b
        have e2 := h2.int
        subst e2
        exact ⟨a, b, rfl, rfl, hp _ _ ((h2.drop.pint _).set (fun j q => nomatch q) c)⟩
      · exact (pS_stuck hp).elim
  · exact (pS_stuck hp).elim
theorem qs_augA {i : Nat} {x : Str} {e : Expr} {pos pos' : Pos} (hN : X.N.Nodup) (hi : X.N[i]? = some x) (hx : Loc X.env.scope x) (he : PE X e (tE z fe)) (hf : X.fn x = true ∨ X.env.scope.names.lookup x = some .local := by first | exact .inl rfl | exact .inr rfl | assumption) :
    PS X (.AugAssign (.Name x pos') .Add e pos) (tS z (fAug (fun a b => a + b) i fe)) := PS.imp (ps_aug hN hi hx he ip_add hf) fun _ _ _ h => aug_go h
theorem qs_augS {i : Nat} {x : Str} {e : Expr} {pos pos' : Pos} (hN : X.N.Nodup) (hi : X.N[i]? = some x) (hx : Loc X.env.scope x) (he : PE X e (tE z fe)) (hf : X.fn x = true ∨ X.env.scope.names.lookup x = some .local := by first | exact .inl rfl | exact .inr rfl | assumption) :
    PS X (.AugAssign (.Name x pos') .Sub e pos) (tS z (fAug (fun a b => a - b) i fe)) := PS.imp (ps_aug hN hi hx he ip_sub hf) fun _ _ _ h => aug_go h
end
/-! ### min, sorted of ints -/
def intOf : D → Option Int
  | .int i => some i
  | _ => none
def intsOf : List D → Option (List Int)
  | [] => some []
  | e :: es => match intOf e, intsOf es with
    | some p, some ps => some (p :: ps)
    | _, _ => none
theorem intsOf_eq : ∀ {es : List D} {ps : List Int}, intsOf es = some ps → es = ps.map D.int
  | [], ps, h => by simp only [intsOf, Option.some.injEq] at h; subst h; rfl
  | e :: es, ps, h => by
    unfold intsOf at h
    split at h
    · rename_i p qs h1 h2
      cases h
      rw [intsOf_eq h2, List.map_cons]
      congr 1
      cases e <;> simp only [intOf] at h1 <;> cases h1
      rfl
    · cases h
theorem intsOf_map : ∀ ps : List Int, intsOf (ps.map D.int) = some ps
  | [] => rfl
  | p :: ps => by rw [List.map_cons, intsOf, intsOf_map ps]; rfl
theorem rs_ints {K : Fw} {G H : Hp} : ∀ {xs : List V} {ps : List Int} {L : List Addr}, Rs K G H xs (ps.map D.int) L → xs = ps.map V.int
  | [], [], _, _ => rfl
  | [], _ :: _, _, s => nomatch s
  | _ :: _, [], _, s => nomatch s
  | x :: xs, p :: ps, _, .cons r s => by
    cases r
    rw [rs_ints s]; rfl
theorem rs_of_ints {K : Fw} {G H : Hp} : ∀ (ps : List Int), Rs K G H (ps.map V.int) (ps.map D.int) []
  | [] => .nil
  | p :: ps => .cons (L := []) (L' := []) (.int p) (rs_of_ints ps)
def minI : List Int → Option Int
  | [] => none
  | x :: xs => some (xs.foldl min x)
theorem minI_spec : ∀ (xs : List Int) (x : Int), xs.foldl min x ∈ x :: xs ∧ ∀ y ∈ x :: xs, xs.foldl min x ≤ y
  | [], x => by simp
  | z :: xs, x => by
    obtain ⟨h1, h2⟩ := minI_spec xs (min x z)
    rw [List.foldl_cons]
    refine ⟨?_, fun y hy => ?_⟩
    · rcases List.mem_cons.mp h1 with e | m
      · rw [e]
        rcases Int.le_total x z with q | q
        · rw [Int.min_eq_left q]; exact List.mem_cons_self
        · rw [Int.min_eq_right q]; exact List.mem_cons_of_mem _ List.mem_cons_self
      · exact List.mem_cons_of_mem _ (List.mem_cons_of_mem _ m)
    · have q := h2 (min x z) List.mem_cons_self
      rcases List.mem_cons.mp hy with rfl | hy
      · omega
      · rcases List.mem_cons.mp hy with rfl | hy
        · omega
        · exact h2 y (List.mem_cons_of_mem _ hy)
def gMinL (ds : List D) (A : Sl) : Option D := match ds with
  | [d] => match lsOf (see A d) with
    | some es => match intsOf es with
      | some ps => (minI ps).map D.int
      | none => none
    | none => none
  | _ => none
def sortI (ps : List Int) : List Int := ps.mergeSort fun a b => decide (a ≤ b)
theorem sortI_uniq {qs ps : List Int} (h1 : qs.Pairwise (· ≤ ·)) (h2 : qs.Perm ps) : qs = sortI ps := by
  refine List.Perm.eq_of_pairwise (le := fun p q => p ≤ q) (fun a b _ _ x y => Int.le_antisymm x y) h1 ?_ (h2.trans (List.mergeSort_perm ps _).symm)
  refine (List.pairwise_mergeSort (le := fun a b : Int => decide (a ≤ b)) (fun a b c x y => ?_) (fun a b => ?_) ps).imp fun {a b} h => of_decide_eq_true h
  · exact decide_eq_true (Int.le_trans (of_decide_eq_true x) (of_decide_eq_true y))
  · rcases Int.le_total a b with q | q
    · simp [q]
    · simp [q]
def gSortedX (ds : List D) (A : Sl) : Option D := match ds with
  | [d] => match lsOf (see A d) with
    | some es => match intsOf es with
      | some ps => some (.mu ((sortI ps).map D.int))
      | none => gSorted [d] A
    | none => none
  | _ => none
def rSortedX (K : PySem.W.Frag) : List V → Hp → VK → Prop := fun vs H Q => rSortedPO K vs H Q ∨ rSortedI K vs H Q
section
variable {z : Z} {X : Cx}
theorem cr_sortedX : CallR X (.builtin "sorted") (rSortedX X.K) := by
  intro pins s σ H vs us Q I r h
  rcases h with h | h
  · exact cr_sortedPO pins s σ H vs us Q I r h
  · exact cr_sortedI pins s σ H vs us Q I r h
theorem cd_minL : CallD z (rMin z.K) gMinL := by
  intro σ A ts H vs ds d' hl h hg Q q
  unfold gMinL at hg
  split at hg
  · rename_i d
    obtain ⟨v, rfl⟩ := call1 hl rfl
    have h : z.A σ A ((v, d) :: ts) H := h
    split at hg
    · rename_i es hs
      split at hg
      · rename_i ps hp
        have e1 := intsOf_eq hp
        subst e1
        obtain ⟨G, L, gh, r, f⟩ := h.open (lsOf_al hs)
        obtain ⟨a, xs, M, rfl, k1, s1⟩ := r.list gh hs
        have e2 := rs_ints s1
        subst e2
        cases ps with
        | nil => cases hg
        | cons p ps =>
          have hg : some (D.int (ps.foldl min p)) = some d' := hg
          cases hg
          obtain ⟨m1, m2⟩ := minI_spec ps p
          refine ⟨a, p :: ps, rfl, k1, Nat.zero_lt_succ _, fun m hm hle => ?_⟩
          have : m = ps.foldl min p := Int.le_antisymm (hle _ m1) (m2 _ hm)
          rw [this]
          exact q _ _ (f.known gh (.int _))
      · cases hg
    · cases hg
  · cases hg
theorem cd_sortedX : CallD z (rSortedX z.K) gSortedX := by
  intro σ A ts H vs ds d' hl h hg Q q
  unfold gSortedX at hg
  split at hg
  · rename_i d
    split at hg
    · rename_i es hs
      split at hg
      · rename_i ps hp
        cases hg
        obtain ⟨v, rfl⟩ := call1 hl rfl
        have h : z.A σ A ((v, d) :: ts) H := h
        have e1 := intsOf_eq hp
        subst e1
        obtain ⟨G, L, gh, r, f⟩ := h.open (lsOf_al hs)
        obtain ⟨a, xs, M, rfl, k1, s1⟩ := r.list gh hs
        have e2 := rs_ints s1
        subst e2
        refine .inr ⟨a, ps, rfl, k1, fun ns' p h1 h2 hn => ?_⟩
        have e3 := sortI_uniq h2 h1
        subst e3
        exact q _ _ (f.lst gh (rs_of_ints _) hn)
      · exact .inl (cd_sorted σ A ts H vs [d] d' hl h hg Q q)
    · cases hg
  · cases hg
end
/-! ### list(d.values()) -/
def tVals (w : World) (te : TE) : TE := fun σ H Q => te σ H fun x H1 => ∃ p xs vs, x = .ref p ∧ NdAt w H1 p xs ∧ Vals vs (xs.map (·.2.2)) ∧ ∀ l, H1 l = none → Q (.ref l) (upd H1 l (.lst vs))
section
variable {X : Cx} {e : Expr} {te : TE} {p apos cpos pos : Pos}
theorem pe_vals (hc : X.calm = true) (he : PE X e te) (hg : Gl X "list") (hm : X.mg "list" = none) (hv : bootBuiltins "list" = some (.type "list")) (hbase : attributeBase e "values" X.env (eval e X.env) = eval e X.env := by rfl) (hline : (apos.endLine == cpos.line) = true := by rfl)
    (hs : starEach [.Call (.Attribute e "values" apos) [] [] cpos] X.env = (false, eval (.Call (.Attribute e "values" apos) [] [] cpos) X.env) :: starEach [] X.env := by rfl) :
    PE X (.Call (.Name "list" p) [.Call (.Attribute e "values" apos) [] [] cpos] [] pos) (tVals X.w te) := by
  refine ⟨fun pins s σ H Q I hq => ?_⟩
  refine wpAny_Call_Name_kw (ld_blt I hg hm hv ?_)
  refine PyProof.Rows.callWith_type1 ?_ hs rfl
  rw [hs]
  show wpAny _ _ (spliced ((false, eval (.Call (.Attribute e "values" apos) [] [] cpos) X.env) :: backTo pos (starEach [] X.env))) _ _ s
  refine Calls.spliced_cons ?_
  refine wpAny_Call_method (T := "dict") (id := "dict.values") hbase rfl hline F.plainAttrs_dict F.slot_dict_values F.type_dict_values (thn (he.run pins s σ H _ I hq) fun u s1 ⟨x, H1, I1, rx, d, xs, vs, ex, nd, hvs, q⟩ => ?_)
  subst ex
  obtain rfl : u = Value.ref d := rx
  obtain ⟨t1, t2⟩ := tyD_is I1 (show RelV (.ref d) (.ref d) from rfl) (.inl ⟨d, xs, rfl, nd⟩)
  obtain ⟨es, ep, hraw, hsz, hent⟩ := (nd.of I1).raw
  have hlen := nd.len
  refine ⟨t1, t2, ?_⟩
  show wpAny _ _ (callWith cpos (.builtin "dict.values") [.ref d] [] []) _ X.xe s1
  refine method_meetsIn F.slot_dict_values F.entry_dict_values rfl (PySem.evalArgs_none ⟨rfl, t1, F.args_dict_values_1 _, _, meets_dict_values_raw d nd.sys, ⟨es, ep, hraw⟩, ?_⟩)
  refine Calls.spliced_nil ?_
  refine PySem.W.kdl_call (KdlSrc.rawValues (es := es) (ep := ep) (d := d)) (I1.ok.hd hc) ⟨⟨_, Heap.get?_push_size _ rfl, rfl, rfl⟩, hraw.push _⟩ (by omega) fun h' tk acc c hk hS hacc => ?_
  have eacc : acc.toList = xs.map (·.2.2) := by
    refine List.ext_getElem? fun i => ?_
    by_cases hi : i < es.size
    · obtain ⟨y, h1, _, h2, _⟩ := hent i hi
      have ha : i < acc.size := by rw [hacc.1]; exact hi
      obtain ⟨hi2, h3⟩ := hacc.2 i acc[i] (by rw [Array.getElem?_eq_getElem ha])
      rw [List.getElem?_map, h1, Array.getElem?_toList, Array.getElem?_eq_getElem ha, h3, h2]
      rfl
    · rw [List.getElem?_eq_none (by rw [Array.length_toList, hacc.1]; omega), List.getElem?_eq_none (by rw [List.length_map]; omega)]
  have sz : (s1.heap.push { cls := .type "dict_values", data := .fields #[.ref d] }).objs.size = s1.heap.objs.size + 1 := Heap.size_push ..
  rw [sz] at hS
  have J := I1.laid (a := s1.heap.objs.size + 1) (o := .lst vs) (h' := h') (t' := tk) (fun b u e => hk b u (Heap.get?_push_of_some _ e)) (Nat.le_succ _)
    ⟨by have := hvs.length; rw [List.length_map] at this; omega, acc.toList, c, by rw [eacc]; exact hvs, by rw [Array.toArray_toList]; exact hS⟩
  have q2 := q (s1.heap.objs.size + 1) (I1.hok.fresh (Nat.le_succ _))
  show EP X pins σ Q (.ref (s1.heap.push { cls := .type "dict_values", data := .fields #[.ref d] }).objs.size) _
  rw [sz]
  exact ⟨.ref _, _, J, rfl, q2⟩
end
def fVals (fe : FE) : FE := fun A => (fe A).bind fun d A1 => match closeD d A1 with
  | some (d', A2) => match fz d' with
    | .fdi true _ vs => .ok (.mu vs) A2
    | _ => .stuck
  | none => .stuck
section
variable {z : Z} {X : Cx} {fe : FE}
theorem qe_vals {e : Expr} {p apos cpos pos : Pos} (hW : X.w = z.K.w) (hc : X.calm = true) (hg : Gl X "list") (hm : X.mg "list" = none) (hv : bootBuiltins "list" = some (.type "list")) (he : PE X e (tE z fe)) (hbase : attributeBase e "values" X.env (eval e X.env) = eval e X.env := by rfl) (hline : (apos.endLine == cpos.line) = true := by rfl)
    (hs : starEach [.Call (.Attribute e "values" apos) [] [] cpos] X.env = (false, eval (.Call (.Attribute e "values" apos) [] [] cpos) X.env) :: starEach [] X.env := by rfl) :
    PE X (.Call (.Name "list" p) [.Call (.Attribute e "values" apos) [] [] cpos] [] pos) (tE z (fVals fe)) := by
  refine PE.imp (pe_vals hc he hg hm hv hbase hline hs) fun σ H Q ⟨A, ts, hA, hp⟩ => ⟨A, ts, hA, ?_⟩
  unfold fVals at hp
  cases ee : fe A with
  | stuck => rw [ee] at hp; exact (show False from hp).elim
  | exc c A1 => rw [ee] at hp; exact hp
  | ok d A1 =>
    rw [ee] at hp
    simp only [Ou.bind_ok] at hp
    intro v H1 h1
    split at hp
    · rename_i d' A2 ec
      obtain ⟨h2, n2⟩ := h1.closeD ec
      have h3 := h2.fz n2
      split at hp
      · rename_i ks vs ef
        rw [ef] at h3
        obtain ⟨G, L, gh, r, f⟩ := h3.open (fun j q => nomatch q)
        have r : Ab.R z.K G H1 v (.fdi true ks vs) L := r
        cases r with
        | fdi q0 dc rk rv =>
          obtain ⟨xs, _, nd, rfl, hvv, hks⟩ := dc.nds gh (gh _ _ q0) rk
          exact ⟨_, xs, _, rfl, by rw [hW]; exact nd, hvv, fun l hl => hp _ _ (f.lst gh rv hl)⟩
      · exact (show False from hp).elim
    · exact (show False from hp).elim
end
end Ab
end
section
namespace Ab
open PySem PySem.Spec PyProof.Rows L2
/-! ### for k, v in d.items() -/
def ItX (w : World) (d : Addr) (ep : Nat) (xs : List (NestedKey × Addr × Value)) : It :=
  ⟨fun i H => H d = some (ndHO w d ep xs) ∧ ∃ v y, xs[i]? = some y ∧ RelV v y.2.2,
    fun i H x H' => ∃ T b v, x = .ref T ∧ H T = none ∧ H' = upd H T (.tup [.ref b, v]) ∧ ∀ ep' xs', H d = some (ndHO w d ep' xs') → ∃ y, xs'[i]? = some y ∧ y.2.1 = b ∧ RelV v y.2.2,
    fun i H => H d = some (ndHO w d ep xs) ∧ xs.length ≤ i⟩
section
variable {X : Cx} {pins : List (Addr × Obj)} {σ : L2.St} {H : Hp} {s : Shared} {d : Addr} {ep : Nat} {xs : List (NestedKey × Addr × Value)}
theorem nd_raw (I : Inv X pins σ H s) (h : H d = some (ndHO X.w d ep xs)) : ∃ es : Array DictEntry, s.heap.DictRaw d es ep ∧ es.size = xs.length ∧ es.toList = xs.map fun x => ⟨NestedKey.hash X.w x.1, .ref x.2.1, x.2.2⟩ := by
  obtain ⟨⟨o, es, h1, h2, h3, h4⟩, _, _⟩ := I.hok d _ h
  refine ⟨es, ⟨o, h1, h2, h3⟩, ?_, h4⟩
  have := congrArg List.length h4
  simpa using this
end
theorem es_get {es : Array DictEntry} {w : World} {xs : List (NestedKey × Addr × Value)} (h4 : es.toList = xs.map fun x => (⟨NestedKey.hash w x.1, .ref x.2.1, x.2.2⟩ : DictEntry)) {i : Nat} (hi : i < es.size) : ∃ y, xs[i]? = some y ∧ es[i].key = .ref y.2.1 ∧ es[i].val = y.2.2 := by
  have e := congrArg (fun l => l[i]?) h4
  simp only [Array.getElem?_toList, Array.getElem?_eq_getElem hi, List.getElem?_map] at e
  cases hx : xs[i]? with
  | none => rw [hx] at e; cases e
  | some y =>
    rw [hx] at e
    have e2 := Option.some.inj e
    exact ⟨y, rfl, by rw [e2], by rw [e2]⟩
theorem turn_x {P : Program} {w : World} {K : PySem.W.Frag} {elts : List Expr} {kk : Nat} {tpos : Pos} {d : Addr} {ep : Nat} {xs : List (NestedKey × Addr × Value)} (it : Addr) :
    Turn P w K (.Tuple elts kk tpos) (ItX w d ep xs) [it] it (fun i h => ∃ ok ov, IsItemIter h it d i xs.length ep ok ov) where
  mem := by simp
  obj := fun i h st b hb => by
    have e : b = it := by simpa using hb
    subst e
    obtain ⟨ok, ov, e⟩ := st
    exact ⟨_, e, fun v z => nomatch z⟩
  keep := fun i h h' st k => let ⟨ok, ov, e⟩ := st; ⟨ok, ov, k it (by simp) _ e⟩
  item := by
    intro X hP hw hK hc i pins s σ H E I hf st hg
    subst hP hw hK
    obtain ⟨hd, v, y, hx, rv⟩ := hg
    obtain ⟨es, hraw, hsz, hes⟩ := nd_raw I hd
    have hi : i < es.size := by rw [hsz]; exact (List.getElem?_eq_some_iff.mp hx).1
    obtain ⟨y1, hy1, hk1, hv1⟩ := es_get hes hi
    have ey : y1 = y := Option.some.inj (hy1.symm.trans hx)
    subst ey
    obtain ⟨ok, ov, he⟩ := st
    rw [← hsz] at he
    have hlt : it < s.heap.objs.size := Heap.lt_size he
    refine wpAny_pyNext_items_item_raw he hraw hi fun h' ho hT hz hk => ?_
    refine ⟨_, rfl, wpAny_letOwnedTupleGo_items (s := { s with heap := h' }) ho fun h'' he' sb => ?_⟩
    have hT2 : h''.get? s.heap.objs.size = some { cls := .type "tuple", data := .seq #[es[i].key, es[i].val] } := (sb.2 _ (Nat.ne_of_gt hlt)).trans hT
    have new : ObjOk X.prog X.w (upd H s.heap.objs.size (.tup [.ref y1.2.1, v])) h'' s.heap.objs.size (.tup [.ref y1.2.1, v]) :=
      ⟨by show 2 ≤ sizeLine; decide, [es[i].key, es[i].val], .cons (by rw [hk1]; rfl) (.cons (by rw [hv1]; exact rv) .nil), ⟨_, hT2, rfl, _, rfl⟩⟩
    have I1 : Inv X pins σ (upd H s.heap.objs.size (.tup [.ref y1.2.1, v])) { s with heap := h'' } :=
      I.turnedNew (t' := s.toks) (ch := [it]) (fun b ob hb e => (sb.2 b (by simpa using hb)).trans (hk b ob (by simpa using hb) e)) hf (Nat.le_refl _) new
    refine ⟨.ref s.heap.objs.size, _, I1, rfl, ⟨_, y1.2.1, v, rfl, I.hok.fresh (Nat.le_refl _), rfl, fun ep' xs' hd' => ?_⟩, ⟨es[i].key, es[i].val, ?_⟩, fun b hb => ?_⟩
    · obtain ⟨es', hraw', hsz', hes'⟩ := nd_raw I hd'
      obtain ⟨o, a1, a2, a3⟩ := hraw
      obtain ⟨o', b1, b2, b3⟩ := hraw'
      rw [a1] at b1
      cases b1
      rw [a3] at b3
      cases b3
      obtain ⟨y2, hy2, hk2, hv2⟩ := es_get hes' hi
      refine ⟨y2, hy2, ?_, ?_⟩
      · have := hk2.symm.trans hk1
        injection this
      · rw [← hv2, hv1]; exact rv
    · rw [← hsz]; exact he'
    · have e : b = it := by simpa using hb
      rw [e, upd_ne (Nat.ne_of_lt hlt)]
      exact (hf it (by simp)).1
  done := by
    intro X hP hw hK hc i pins s σ H E I hf st hg
    subst hP hw hK
    obtain ⟨hd, hi⟩ := hg
    obtain ⟨f0, f1, f2, f3, f4, f5⟩ := hf it (by simp)
    obtain ⟨es, hraw, hsz, hes⟩ := nd_raw I hd
    obtain ⟨ok, ov, he⟩ := st
    rw [← hsz] at he
    exact wpAny_pyNext_items_end_raw (I.ok.hd hc) he hraw (by omega) fun h' eb => ⟨rfl, I.turned (t' := s.toks) (fun b ob hb e => eb b ob hb e) f0 f1 f3 f4 f5⟩
  self := fun A i s Q E st h => let ⟨_, _, e⟩ := st; PySem.W.kcp_self e h
def iItemsX (w : World) (td : TE) : TI := fun σ H R => td σ H fun x H1 => ∃ d ep xs, x = .ref d ∧ NdAt w H1 d xs ∧ H1 d = some (ndHO w d ep xs) ∧ R (ItX w d ep xs) H1
theorem pi_itemsX {X : Cx} {e : Expr} {td : TE} {apos cpos tpos : Pos} {elts : List Expr} {kk : Nat} (he : PE X e td) (hbase : attributeBase e "items" X.env (eval e X.env) = eval e X.env := by rfl) (hline : (apos.endLine == cpos.line) = true := by rfl) :
    PI X (.Tuple elts kk tpos) (.Call (.Attribute e "items" apos) [] [] cpos) (iItemsX X.w td) := by
  refine ⟨fun pins s σ H R I h => ?_⟩
  refine wpAny_Call_method (T := "dict") (id := "dict.items") hbase rfl hline F.plainAttrs_dict F.slot_dict_items F.type_dict_items (thn (he.run pins s σ H _ I h) fun u s1 ⟨x, H1, I1, rx, d, ep, xs, ex, nd, hd, q⟩ => ?_)
  subst ex
  obtain rfl : u = Value.ref d := rx
  obtain ⟨t1, t2⟩ := tyD_is I1 (show RelV (.ref d) (.ref d) from rfl) (.inl ⟨d, xs, rfl, nd⟩)
  obtain ⟨es, hraw, hsz, hes⟩ := nd_raw I1 hd
  refine ⟨t1, t2, ?_⟩
  have I2 : Inv X pins σ H1 { s1 with heap := s1.heap.push { cls := .type "dict_items", data := .fields #[.ref d] } } := I1.kept (t' := s1.toks) fun b ob q => Heap.get?_push_of_some _ q
  have fin : wpAny (model X.prog X.w) X.A (pyIter (.ref s1.heap.objs.size)) (PIE X pins σ (.Tuple elts kk tpos) R) X.xe { s1 with heap := s1.heap.push { cls := .type "dict_items", data := .fields #[.ref d] } } := by
    refine wpAny_pyIter_items_raw (d := d) ⟨_, Heap.get?_push_size _ rfl, rfl, rfl⟩ (hraw.push _) (pi_one (tk := s1.toks) I2 _ (turn_x _) ⟨.none, .none, ?_⟩ q)
    rw [← hsz]
    exact Heap.get?_push_size _ rfl
  show wpAny _ _ (callWith cpos (.builtin "dict.items") [.ref d] [] []) _ X.xe s1
  exact method_meetsIn F.slot_dict_items F.entry_dict_items rfl (PySem.evalArgs_none ⟨rfl, t1, F.args_dict_items_1 _, _, meets_dict_items_raw d nd.sys, ⟨es, ep, hraw⟩, fin⟩)
def prD (ks vs : List D) : List D := List.zipWith (fun k v => D.tup [k, v]) ks vs
def fItems (fe : FE) : FI := fun A => (fe A).bind fun d A1 => match closeD d A1 with
  | some (d', A2) => match fz d' with
    | .fdi true ks vs => .ok (prD ks vs) A2
    | _ => .stuck
  | none => .stuck
section
variable {z : Z} {X : Cx} {fe : FE}
theorem itd_x {d : Addr} {ep : Nat} {xs : List (NestedKey × Addr × Value)} {ks ds : List D} {ws0 : List V} (hv0 : Vals ws0 (xs.map (·.2.2))) (hlen : xs.length = (prD ks ds).length) : ItD z (ItX z.K.w d ep xs) [(.ref d, .fdi true ks ds), (.ref d, .exc (ndHO z.K.w d ep xs))] (prD ks ds) := by
  have key : ∀ (σ : L2.St) (A : Sl) (ts : Ts) (H : Hp), z.A σ A ([(.ref d, .fdi true ks ds), (.ref d, .exc (ndHO z.K.w d ep xs))] ++ ts) H → ∃ G ep' ys ws, Same G H ∧ H d = some (ndHO z.K.w d ep xs) ∧ ndHO z.K.w d ep xs = ndHO z.K.w d ep' ys ∧ Vals ws (ys.map (·.2.2)) ∧ Rs z.K G H (ys.map fun x => V.ref x.2.1) ks [] ∧ Rs z.K G H ws ds [] ∧
      Fin z.K z.B σ A ([(.ref d, .fdi true ks ds), (.ref d, .exc (ndHO z.K.w d ep xs))] ++ ts) H G := by
    intro σ A ts H h
    obtain ⟨G, L1, L2, gd, tm, sl, nd, ow⟩ := id h
    have f : Fin z.K z.B σ A ([(.ref d, .fdi true ks ds), (.ref d, .exc (ndHO z.K.w d ep xs))] ++ ts) H G := fun w e H' G' L' he g1 g2 g3 r rn rf => step_core gd tm sl nd ow he g1 g2 g3 r rn rf
    have gh := gd.gh
    cases tm with
    | cons r1 t1 =>
      cases t1 with
      | cons r2 t2 =>
        cases r2 with
        | pin q2 =>
          cases r1 with
          | fdi q1 dc rk rv =>
            have e0 := q1.symm.trans q2
            have e1 := Option.some.inj e0
            subst e1
            generalize hu : ndHO z.K.w d ep xs = u at dc
            have hd : H d = some u := by rw [← hu]; exact gh _ _ q2
            obtain ⟨ys, ⟨ep', e3⟩, nda, rfl, hv, hks⟩ := dc.nds gh hd rk
            exact ⟨G, ep', ys, _, gh, hd, e3, hv, rk, rv, by rw [← hu]; exact f⟩
  have val : ∀ {G H : Hp} {ys : List (NestedKey × Addr × Value)} {ws : List V} {i : Nat} {e : D}, Vals ws (ys.map (·.2.2)) → Rs z.K G H (ys.map fun x => V.ref x.2.1) ks [] → Rs z.K G H ws ds [] → (prD ks ds)[i]? = some e → ∃ y w k v, ys[i]? = some y ∧ RelV w y.2.2 ∧ e = .tup [k, v] ∧ R z.K G H (.ref y.2.1) k [] ∧ R z.K G H w v [] := by
    intro G H ys ws i e hv rk rv he
    unfold prD at he
    rw [List.getElem?_zipWith] at he
    cases hk : ks[i]? with
    | none => rw [hk] at he; cases he
    | some k =>
      cases hd : ds[i]? with
      | none => rw [hk, hd] at he; cases he
      | some v =>
        rw [hk, hd] at he
        cases he
        obtain ⟨a, La, h1, h2, h3⟩ := rk.getD hk
        obtain ⟨w, Lw, h4, h5, h6⟩ := rv.getD hd
        rw [List.sublist_nil.mp h3] at h2
        rw [List.sublist_nil.mp h6] at h5
        rw [List.getElem?_map] at h1
        cases hy : ys[i]? with
        | none => rw [hy] at h1; cases h1
        | some y =>
          rw [hy] at h1
          cases h1
          obtain ⟨r, h7, h8⟩ := hv.get h4
          rw [List.getElem?_map, hy] at h7
          cases h7
          exact ⟨y, w, k, v, rfl, h8, rfl, h2, h5⟩
  refine ⟨fun σ A ts H i h hi => ?_, fun σ A ts H i x H' e h he hyl => ?_, fun σ A ts H i h hi => ?_⟩
  · obtain ⟨G, ep', ys, ws, gh, hd, hu, hv, rk, rv, f⟩ := key σ A ts H h
    refine ⟨hd, ?_⟩
    have hx : i < xs.length := by rw [hlen]; exact hi
    have h0 : i < ws0.length := by have := hv0.length; rw [List.length_map] at this; omega
    obtain ⟨r, h7, h8⟩ := hv0.get (List.getElem?_eq_getElem h0)
    rw [List.getElem?_map, List.getElem?_eq_getElem hx] at h7
    cases h7
    exact ⟨_, xs[i], List.getElem?_eq_getElem hx, h8⟩
  · obtain ⟨G, ep', ys, ws, gh, hd, hu, hv, rk, rv, f⟩ := key σ A ts H h
    obtain ⟨T, b, v, rfl, hT, rfl, g1⟩ := hyl
    obtain ⟨y, w, k, v2, h1, h2, rfl, h4, h5⟩ := val hv rk rv he
    obtain ⟨y2, h6, h7, h8⟩ := g1 ep' ys (by rw [← hu]; exact hd)
    have e1 : y2 = y := Option.some.inj (h6.symm.trans h1)
    subst e1
    have e2 : v = w := RelV.inj h8 h2
    subst e2
    subst h7
    exact f.tup gh (.cons (L := []) (L' := []) h4 (.cons (L := []) (L' := []) h5 .nil)) hT
  · obtain ⟨G, ep', ys, ws, gh, hd, hu, hv, rk, rv, f⟩ := key σ A ts H h
    exact ⟨hd, by rw [hlen]; exact hi⟩
theorem qi_items {e : Expr} {apos cpos tpos : Pos} {elts : List Expr} {kk : Nat} (hW : X.w = z.K.w) (he : PE X e (tE z fe)) (hbase : attributeBase e "items" X.env (eval e X.env) = eval e X.env := by rfl) (hline : (apos.endLine == cpos.line) = true := by rfl) :
    PI X (.Tuple elts kk tpos) (.Call (.Attribute e "items" apos) [] [] cpos) (tI z (fItems fe)) := by
  refine ⟨fun pins s σ H R I w => (pi_itemsX he hbase hline).run pins s σ H R I ?_⟩
  obtain ⟨A, ts, hA, hp⟩ := w
  refine ⟨A, ts, hA, ?_⟩
  unfold fItems at hp
  cases ee : fe A with
  | stuck => rw [ee] at hp; exact (show False from hp).elim
  | exc c A1 => rw [ee] at hp; exact hp
  | ok d A1 =>
    rw [ee] at hp
    simp only [Ou.bind_ok] at hp
    intro v H1 h1
    split at hp
    · rename_i d' A2 ec
      obtain ⟨h2, n2⟩ := h1.closeD ec
      have h3 := h2.fz n2
      split at hp
      · rename_i ks vs ef
        rw [ef] at h3
        obtain ⟨G, L1, L2, gd, tm, sl, nd, ow⟩ := id h3
        cases tm with
        | cons r1 t1 =>
          cases r1 with
          | fdi q1 dc rk rv =>
            rename_i p o kv ws
            have hd : H1 p = some o := gd.gh _ _ q1
            obtain ⟨xs, ⟨ep, rfl⟩, nda, rfl, hv, hks⟩ := dc.nds gd.gh hd rk
            have l1 := congrArg List.length hks
            have l2 := hv.length
            have l3 := rv.length
            simp only [List.length_map] at l1 l2
            have hlen : xs.length = (prD ks vs).length := by unfold prD; rw [List.length_zipWith]; omega
            have h4 : z.A σ A2 ([(.ref p, .fdi true ks vs), (.ref p, .exc (ndHO z.K.w p ep xs))] ++ ts) H1 :=
              ⟨G, _, L2, gd, .cons (L := []) (.fdi q1 (.nd nda.sys nda.len nda.nd (fun x hx => (nda.ks x hx).1) hv hks) rk rv) (.cons (L := []) (.pin q1) t1), sl, nd, ow⟩
            rw [hW]
            exact ⟨p, ep, xs, rfl, nda, hd, hp _ _ _ (fun p m j e => by
              rcases List.mem_cons.mp m with rfl | m
              · cases e
              · rw [List.mem_singleton.mp m] at e; cases e) (itd_x hv hlen) h4⟩
      · exact (show False from hp).elim
    · exact (show False from hp).elim
end
/-! ### x[k].clear() -/
theorem Abs.nclr {K : Fw} {B : Bs} {σ : L2.St} {A : Sl} {ts : Ts} {H : Hp} {v : V} {ds es : List D} {j : Nat} (h : Abs K B σ A ((v, .mu ds) :: ts) H) (hj : ds[j]? = some (.mu es)) (he : isFs es = true) :
    ∃ q vs p ws, v = .ref q ∧ H q = some (.lst vs) ∧ vs.length = ds.length ∧ vs[j]? = some (.ref p) ∧ H p = some (.lst ws) ∧ Abs K B σ A ((v, .mu (ds.set j (.mu []))) :: ts) (upd H p (.lst [])) := by
  obtain ⟨G, L1, L2, gd, tm, sl, nd, ow⟩ := h
  cases tm with
  | cons r2 t =>
    cases r2 with
    | mu hq gp rs =>
      rename_i Lt q vs L
      obtain ⟨p, ws, h1, h2, h3, h4, h5⟩ := inner_core (dnew := .mu (ds.set j (.mu []))) gd t sl hq gp rs nd ow hj he
      exact ⟨q, vs, p, ws, rfl, hq, rs.length, h1, h2, h5 _ _ .nil fun H' M e1 m => .mu e1 gp m⟩
def fNClr (i : Nat) (fk : FE) : FE := fun A => match slotL i A with
  | none => .stuck
  | some _ => (fk A).bind fun kd A1 => match kd, slotL i A1 with
    | .int k, some ds => match ixN ds.length k with
      | some m => match ds[m]? with
        | some (.mu es) => if isFs es = true then .ok .non (A1.set i (some (.mu (ds.set m (.mu []))))) else .stuck
        | _ => .stuck
      | none => .stuck
    | _, _ => .stuck
section
variable {z : Z} {X : Cx} {fk : FE}
theorem nclr_go {i : Nat} {σ : L2.St} {H : Hp} {Q : VK} (h : tE z (fNClr i fk) σ H Q) : tBM0 z.K "list" rClear (tOp (rIxL z.K) (tVar i) (tE z fk)) σ H Q := by
  obtain ⟨A, ts, hA, hp⟩ := h
  unfold fNClr at hp
  split at hp
  · exact (show False from hp).elim
  · rename_i ds0 e0
    obtain ⟨p0, xs0, ev, hp0, _, h1⟩ := hA.slotAl (slotL_get e0)
    refine ⟨.ref p0, ev, A, (.ref p0, .al i) :: ts, h1, ?_⟩
    cases ek : fk A with
    | stuck => rw [ek] at hp; exact (show False from hp).elim
    | exc c A2 => rw [ek] at hp; exact fun H' h' => hp H' h'.drop
    | ok kd A1 =>
      rw [ek] at hp
      simp only [Ou.bind_ok] at hp
      intro u H1 h2
      split at hp
      · rename_i k ds es
        split at hp
        · rename_i m hm
          split at hp
          · rename_i ee he
            split at hp
            · rename_i hc
              have eu := h2.int
              have h3 : z.A σ A1 ((.ref p0, .al i) :: ts) H1 := h2.drop
              obtain ⟨q, vs, p, ws, eq, hq, hl, hj, hpp, h6⟩ := (h3.move (slotL_get es)).nclr he hc
              cases eq
              have h7 := h6.put (fun j q => nomatch q) (set_none_get (slotL_get es)) ev
              rw [List.set_set] at h7
              have hat : atI vs k = some (.ref p) := by
                unfold atI
                rw [hl, hm]
                exact hj
              exact ⟨p0, vs, k, .ref p, rfl, eu, .inl (.inl hq), hat, tyV_lst hpp, p, ws, rfl, rfl, hpp, hp _ _ h7.pnon⟩
            · exact (show False from hp).elim
          · exact (show False from hp).elim
        · exact (show False from hp).elim
      · exact (show False from hp).elim
theorem qe_nclr {i : Nat} {o k : Expr} {p1 apos cpos : Pos} (hK : X.K = z.K) (ho : PE X o (tVar i)) (hk : PE X k (tE z fk)) (hs0 : PlainIx k)
    (hbase : attributeBase (.Subscript o k p1) "clear" X.env (eval (.Subscript o k p1) X.env) = eval (.Subscript o k p1) X.env := by rfl) (hline : (apos.endLine == cpos.line) = true := by rfl) :
    PE X (.Call (.Attribute (.Subscript o k p1) "clear" apos) [] [] cpos) (tE z (fNClr i fk)) :=
  PE.imp (pe_bm0 PySem.F.plainAttrs_list PySem.F.slot_list_clear PySem.F.type_list_clear mt_clear (pe_ix ix_list ho hk hs0) hbase hline) fun _ _ _ h => by rw [hK]; exact nclr_go h
end
/-! ### d.pop(k, []) -/
theorem Abs.sw2 {K : Fw} {B : Bs} {σ : L2.St} {A : Sl} {ts : Ts} {H : Hp} {a b : V × D} (h : Abs K B σ A (a :: b :: ts) H) : Abs K B σ A (b :: a :: ts) H := h.perm (List.Perm.swap _ _ _)
section
variable {K : Fw} {G H : Hp}
theorem Rs.erase : ∀ {vs : List V} {ds : List D} {L : List Addr} {m : Nat} {d : D}, Rs K G H vs ds L → ds[m]? = some d → ∃ x Lx N, vs[m]? = some x ∧ R K G H x d Lx ∧ Rs K G H (vs.eraseIdx m) (ds.eraseIdx m) N ∧ L.Perm (Lx ++ N)
  | _, _, _, _, _, .nil, e => by simp at e
  | _, _, _, 0, d, .cons (L := La) (L' := Lb) r t, e => by
    simp at e
    subst e
    exact ⟨_, La, Lb, rfl, r, t, .refl _⟩
  | _, _, _, m + 1, d, .cons (L := La) (L' := Lb) r t, e => by
    obtain ⟨x, Lx, N, h1, h2, h3, h4⟩ := Rs.erase (m := m) t (by simpa using e)
    refine ⟨x, Lx, La ++ N, by simpa using h1, h2, .cons r h3, ?_⟩
    refine (List.Perm.append_left _ h4).trans ?_
    rw [← List.append_assoc, ← List.append_assoc]
    exact List.Perm.append_right _ List.perm_append_comm
theorem Rs.erase_nil {vs : List V} {ds : List D} {m : Nat} (r : Rs K G H vs ds []) : Rs K G H (vs.eraseIdx m) (ds.eraseIdx m) [] := by
  cases e : ds[m]? with
  | none =>
    have h1 := List.getElem?_eq_none_iff.mp e
    rw [List.eraseIdx_of_length_le h1, List.eraseIdx_of_length_le (by rw [r.length]; exact h1)]
    exact r
  | some d =>
    obtain ⟨x, Lx, N, _, _, h3, h4⟩ := r.erase e
    have := h4.symm.eq_nil
    obtain ⟨_, e2⟩ := List.append_eq_nil_iff.mp this
    subst e2
    exact h3
end
theorem Vals.eraseIdx : ∀ {vs : List V} {us : List Value} (m : Nat), Vals vs us → Vals (vs.eraseIdx m) (us.eraseIdx m)
  | _, _, _, .nil => by simpa using Paired.nil
  | _, _, 0, .cons r t => t
  | _, _, m + 1, .cons r t => .cons r (Vals.eraseIdx m t)
theorem without_ix {xs : List (NestedKey × Addr × Value)} {k : NestedKey} {m : Nat} (nd : (xs.map (·.1)).Nodup) (h : (xs.findIdx? fun x => decide (x.1 = k)) = some m) : withoutH xs k = xs.eraseIdx m := by
  obtain ⟨x, h1, h2⟩ := findIx_lt h
  have e : x.1 = k := of_decide_eq_true h2
  obtain ⟨a, b⟩ := x
  subst e
  exact (eraseIdx_withoutH nd h1).symm
theorem Abs.dpop {K : Fw} {B : Bs} {σ : L2.St} {A : Sl} {ts : Ts} {H : Hp} {v : V} {ks ds : List D} {k : NestedKey} {m : Nat} {r : D} (h : Abs K B σ A ((v, .mdi true ks ds) :: ts) H) (hm : ixD ks k = some m) (hr : ds[m]? = some r) :
    ∃ p xs x a u, v = .ref p ∧ NdAt K.w H p xs ∧ atKey xs k = some (a, u) ∧ RelV x u ∧ ∀ ep, Abs K B σ A ((x, r) :: (v, .mdi true (ks.eraseIdx m) (ds.eraseIdx m)) :: ts) (upd H p (ndHO K.w p ep (withoutH xs k))) := by
  obtain ⟨G, L1, L2, gd, tm, sl, nd, ow⟩ := h
  cases tm with
  | cons r2 t =>
    cases r2 with
    | mdi hq gp dc rk rv =>
      rename_i Lt p o kv ws L
      obtain ⟨xs, ⟨_, rfl⟩, nda, rfl, hv, hks⟩ := dc.nds gd.gh hq rk
      obtain ⟨x, Lx, N, h1, h2, h3, h4⟩ := rv.erase hr
      have hix : (xs.findIdx? fun x => decide (x.1 = k)) = some m := by rw [← ixD_nd hks]; exact hm
      obtain ⟨y, hy, _⟩ := findIx_lt hix
      obtain ⟨u, hu, ru⟩ := hv.get h1
      rw [List.getElem?_map, hy] at hu
      cases hu
      refine ⟨p, xs, x, y.2.1, y.2.2, rfl, nda, by rw [atKey_ix, hix]; show (xs[m]?).map (·.2) = _; rw [hy]; rfl, ru, fun ep => ?_⟩
      have pp : (((p :: L) ++ Lt) ++ L2).Perm (((p :: N) ++ (Lx ++ Lt)) ++ L2) := by
        refine List.Perm.append_right _ ?_
        rw [List.cons_append, List.cons_append]
        refine List.Perm.cons _ ?_
        refine (List.Perm.append_right _ (h4.trans List.perm_append_comm)).trans ?_
        rw [List.append_assoc]
      have nd' := nodup_perm pp nd
      have ow' : ∀ a ∈ ((p :: N) ++ (Lx ++ Lt)) ++ L2, Own B a := fun a ha => ow a (pp.mem_iff.mpr ha)
      have own := h3.own
      have np : p ∉ N := fun ha => (List.nodup_cons.mp nd').1 (List.mem_append_left _ (List.mem_append_left _ ha))
      have hxl : (withoutH xs k).length ≤ xs.length := withoutH_length xs k
      have ew := without_ix nda.nd hix
      have e1 : ((withoutH xs k).map fun x => V.ref x.2.1) = (xs.map fun x => V.ref x.2.1).eraseIdx m := by rw [ew, map_eraseIdx]
      have e2 : ((withoutH xs k).map (·.2.2)) = (xs.map (·.2.2)).eraseIdx m := by rw [ew, map_eraseIdx]
      have e3 : (ks.eraseIdx m).map nkD = (withoutH xs k).map fun x => some x.1 := by rw [map_eraseIdx, hks, ew, map_eraseIdx]
      refine Abs.sw2 (dmut_core (d' := .mdi true (ks.eraseIdx m) (ds.eraseIdx m)) (L' := N) gd (.cons h2 t) sl (by rw [hq]; exact fun z => nomatch z) gp (fun a ha => (own a ha).1) (.mdi (kv := (withoutH xs k).map fun x => V.ref x.2.1) (vs := ws.eraseIdx m) upd_same gp (.nd nda.sys (Nat.le_trans hxl nda.len) (nodup_withoutH nda.nd k) (fun y hy => (nda.ks y (mem_withoutH hy)).1) (by rw [e2]; exact hv.eraseIdx m) e3) ?_ ?_) nd' ow')
      · rw [e1]; exact rk.erase_nil.free fun _ _ e => e
      · exact h3.mono (fun _ _ e => e) fun a ha => ⟨upd_ne (fun z => np (by rw [← z]; exact ha)), (own a ha).1⟩
def rPopN (w : World) : V → List V → Hp → VK → Prop := fun x as H Q => ∃ p b xs k v, x = .ref p ∧ as = [.ref b, v] ∧ NdAt w H p xs ∧ NkV H (.ref b) k ∧ k.depth ≤ 8 ∧
  (∀ a r, atKey xs k = some (a, r) → ∃ v', RelV v' r ∧ ∀ ep, Q v' (upd H p (ndHO w p ep (withoutH xs k)))) ∧ (atKey xs k = none → Q v H)
section
variable {X : Cx}
theorem mt_popN (hu : X.A.units + 65 < cLine) : MtR X "dict.pop" (rPopN X.w) := by
  intro pins s σ H x as v us Q I rx ra ⟨p, b, xs, k, v0, e1, e2, nd, nk, hd, q1, q2⟩
  subst e1; subst e2
  cases (show v = Value.ref p from rx)
  obtain ⟨u, r, rfl, ru, rr⟩ := Vals.two ra
  cases (show u = Value.ref b from ru)
  cases hat : atKey xs k with
  | none => exact call_pop_default_heap (hsz := nd.len) (nk_room hu) (nk_is I nk hd) nd.sys (nd.of I) hat fun tk => ⟨v0, H, I.tok _, rr, q2 hat⟩
  | some ar =>
    obtain ⟨a, r1⟩ := ar
    obtain ⟨v', rv, q⟩ := q1 a r1 hat
    refine call_pop_heap (hsz := nd.len) (more := [r]) (.inr ⟨_, rfl⟩) (F.args_dict_pop_3 _ _ _) (nk_room hu) (nk_is I nk hd) nd.sys (nd.of I) hat fun h' dd hs => ?_
    have he : ∃ q, h'.get? p = some q := let ⟨q, _, _, hq, _⟩ := dd; ⟨q, hq⟩
    obtain ⟨ep, ob⟩ := nd_obj dd
    obtain ⟨e0, hep⟩ := nd.hp
    exact ⟨v', _, d_write I (by rw [hep]; exact True.intro) hs he (ob _), rv, q ep⟩
end
def fPop (i : Nat) (fk : FE) : FE := fun A => match slotD i A with
  | none => .stuck
  | some _ => (fk A).bind fun kd A1 => match slotD i A1 with
    | some (n, ks, ds) => match keyOk n kd with
      | some k => if n = true then match ixD ks k with
        | some m => match ds[m]? with
          | some r => match r with
            | .mu es => .ok (.mu es) (A1.set i (some (.mdi n (ks.eraseIdx m) (ds.eraseIdx m))))
            | _ => .stuck
          | none => .stuck
        | none => .ok (.mu []) A1
        else .stuck
      | none => .stuck
    | none => .stuck
section
variable {z : Z} {X : Cx} {fk : FE}
theorem pop_go {i : Nat} {σ : L2.St} {H : Hp} {Q : VK} (h : tE z (fPop i fk) σ H Q) : tBD z.K.w (rPopN z.K.w) (tVar i) (L2.tCons (tE z fk) (L2.tCons (tLst L2.tNil) L2.tNil)) σ H Q := by
  obtain ⟨A, ts, hA, hp⟩ := h
  unfold fPop at hp
  split at hp
  · exact (show False from hp).elim
  · rename_i q0 e0
    obtain ⟨n0, ks0, ds0⟩ := q0
    obtain ⟨p0, ev, h1⟩ := hA.slotAlD (slotD_get e0)
    have s0 : see A (.al i) = .mdi n0 ks0 ds0 := by simp [see, slotD_get e0]
    refine ⟨.ref p0, ev, h1.tyD (by rw [s0]; rfl), A, (.ref p0, .al i) :: ts, h1, ?_⟩
    cases ek : fk A with
    | stuck => rw [ek] at hp; exact (show False from hp).elim
    | exc c A2 => rw [ek] at hp; exact fun H' h' => hp H' h'.drop
    | ok kd A1 =>
      rw [ek] at hp
      simp only [Ou.bind_ok] at hp
      intro u H1 h2
      split at hp
      · rename_i n ks ds es
        split at hp
        · rename_i k hk
          split at hp
          · rename_i hn
            subst hn
            refine ⟨by show 0 ≤ sizeLine; exact Nat.zero_le _, fun q hq => ?_⟩
            have h6 := (h2.swapMove (slotD_get es))
            have h7 : z.A σ (A1.set i none) ((u, kd) :: (.ref p0, .mdi true ks ds) :: ts) (upd H1 q (.lst [])) := h6.same (same_new hq)
            obtain ⟨b, rfl, nk, hd⟩ := h7.key hk
            have h8 : z.A σ (A1.set i none) ((.ref p0, .mdi true ks ds) :: ts) (upd H1 q (.lst [])) := h7.drop
            split at hp
            · rename_i m hm
              split at hp
              · rename_i r he
                split at hp
                · rename_i es2
                  obtain ⟨p, xs, x, a, uu, eq, nd, hat, ru, h9⟩ := h8.dpop hm he
                  cases eq
                  refine ⟨p0, b, xs, k, .ref q, rfl, rfl, nd, nk, hd, fun a' r' hat' => ?_, fun hn => by rw [hat] at hn; cases hn⟩
                  rw [hat] at hat'
                  cases hat'
                  refine ⟨x, ru, fun ep => ?_⟩
                  have h10 := (Abs.sw2 (h9 ep)).put (fun j q => nomatch q) (set_none_get (slotD_get es)) ev
                  rw [List.set_set] at h10
                  exact hp _ _ h10
                · exact (show False from hp).elim
              · exact (show False from hp).elim
            · rename_i hm
              obtain ⟨G, L, gh, rr, _⟩ := h8.open (fun j q => nomatch q)
              have rr : Ab.R z.K G _ (.ref p0) (.mdi true ks ds) L := rr
              cases rr with
              | mdi hq2 gp dc rk rv =>
                obtain ⟨xs, ⟨_, rfl⟩, nd, rfl, hv, hks⟩ := dc.nds gh hq2 rk
                have hat : atKey xs k = none := by rw [atKey_ix, ← ixD_nd hks, hm]; rfl
                refine ⟨p0, b, xs, k, .ref q, rfl, rfl, nd, nk, hd, (fun a' r' hat' => by rw [hat] at hat'; cases hat'), fun _ => ?_⟩
                have h9 : z.A σ A1 ts H1 := h2.drop.drop
                exact hp _ _ (by
                  have := Abs.lst (K := z.K) (B := z.B) (vs := []) (ds := []) rfl rfl h9 hq
                  exact this)
          · exact (show False from hp).elim
        · exact (show False from hp).elim
      · exact (show False from hp).elim
theorem qe_pop {i : Nat} {o k : Expr} {p3 apos cpos : Pos} (hu : X.A.units + 65 < cLine) (hK : X.K = z.K) (hW : X.w = z.K.w) (ho : PE X o (tVar i)) (hk : PE X k (tE z fk))
    (hbase0 : attributeBase o "pop" X.env (eval o X.env) = eval o X.env := by rfl)
    (hfew0 : ((backTo cpos (starEach [k, .List [] p3] X.env)).all (fun x => !x.1) && (backToKw cpos (keywordEach [] X.env)).all (fun x => x.1.isSome)
      && decide ([k, Expr.List [] p3].length + ([] : List Keyword).length + (if ([] : List Keyword).isEmpty then 0 else 1) < 30)) = true := by rfl)
    (hline0 : (apos.endLine == cpos.line) = true := by rfl) (hs0 : starEach [k, .List [] p3] X.env = (false, eval k X.env) :: starEach [.List [] p3] X.env := by rfl) (hs1 : starEach [.List [] p3] X.env = (false, eval (.List [] p3) X.env) :: starEach [] X.env := by rfl) (hplain0 : (backTo cpos (starEach [.List [] p3] X.env)).any (·.1) = false := by rfl) :
    PE X (.Call (.Attribute o "pop" apos) [k, .List [] p3] [] cpos) (tE z (fPop i fk)) :=
  PE.imp (pe_bd PySem.F.plainAttrs_dict PySem.F.slot_dict_pop PySem.F.type_dict_pop (mt_popN hu) ho (pa_cons hk (pa_cons (pe_lst pa_nil) pa_nil hs1) hs0) hbase0 hfew0 hline0 hs0 hplain0) fun _ _ _ h => by rw [hW]; exact pop_go h
end
/-! ### list(range(n)) -/
def fListRange (fe : FE) : FE := fun A => (fe A).bind fun d A1 => match d with
  | .int n => if n.natAbs ≤ 16777216 then .ok (.mu (((List.range n.toNat).map fun i : Nat => (i : Int)).map D.int)) A1 else .stuck
  | _ => .stuck
theorem rgV_nat (n : Int) : rgV 0 n = (((List.range n.toNat).map fun i : Nat => (i : Int)).map V.int) := by
  unfold rgV
  rw [List.map_map, Int.sub_zero]
  exact List.map_congr_left fun i _ => by simp
section
variable {z : Z} {X : Cx} {fe : FE}
theorem qe_listRange {e : Expr} {p p2 pos pos2 : Pos} (hc : X.calm = true) (hg : Gl X "list") (hm : X.mg "list" = none) (hg2 : Gl X "range") (hm2 : X.mg "range" = none) (he : PE X e (tE z fe)) (ha : starEach [e] X.env = (false, eval e X.env) :: starEach [] X.env := by rfl)
    (na : starEach [.Call (.Name "range" p2) [e] [] pos2] X.env = (false, eval (.Call (.Name "range" p2) [e] [] pos2) X.env) :: starEach [] X.env := by rfl) :
    PE X (.Call (.Name "list" p) [.Call (.Name "range" p2) [e] [] pos2] [] pos) (tE z (fListRange fe)) := by
  refine PE.imp (pe_listRg hc hg hm (prg_1 hg2 hm2 he ha) na) fun σ H Q ⟨A, ts, hA, hp⟩ => ⟨A, ts, hA, ?_⟩
  unfold fListRange at hp
  cases ee : fe A with
  | stuck => rw [ee] at hp; exact (show False from hp).elim
  | exc c A1 => rw [ee] at hp; exact hp
  | ok d A1 =>
    rw [ee] at hp
    simp only [Ou.bind_ok] at hp
    intro v H1 h1
    split at hp
    · rename_i n
      split at hp
      · rename_i hn
        obtain ⟨G, L, gh, r, f⟩ := h1.open (fun j q => nomatch q)
        have r : Ab.R z.K G H1 v (.int n) L := r
        cases r
        refine ⟨n, rfl, ⟨by omega, by omega, by omega, by omega, by omega⟩, fun q hq => ?_⟩
        rw [rgV_nat]
        exact hp _ _ (f.lst gh (rs_of_ints _) hq)
      · exact (show False from hp).elim
    · exact (show False from hp).elim
end
/-! ### from here on a slot's list is only read -/
def fFzS (i : Nat) (f : FS) : FS := fun A => match slotL i A with
  | some ds => f (A.set i (some (fz (.mu ds))))
  | none => .stuck
section
variable {z : Z} {X : Cx} {f : FS}
theorem fzS_go {i : Nat} {D : Ends} {σ : L2.St} {H : Hp} (h : tS z (fFzS i f) D σ H) : tS z f D σ H := by
  obtain ⟨A, ts, hA, c, hp⟩ := h
  unfold fFzS at hp
  split at hp
  · rename_i ds e
    obtain ⟨p0, xs0, ev, hp0, _, h1⟩ := hA.slotAl (slotL_get e)
    have ec : closeD (.al i) A = some (fz (.mu ds), A.set i (some (fz (.mu ds)))) := by
      simp only [closeD, slotL_get e]
    exact ⟨_, ts, (h1.closeD ec).1.drop, c, hp⟩
  · exact (pS_stuck hp).elim
theorem qs_fzs {i : Nat} {b : List Stmt} (hb : PSs X b (tS z f)) : PSs X b (tS z (fFzS i f)) := PSs.imp hb fun _ _ _ h => fzS_go h
theorem qs_fz1 {i : Nat} {b : Stmt} (hb : PS X b (tS z f)) : PS X b (tS z (fFzS i f)) := PS.imp hb fun _ _ _ h => fzS_go h
end
end Ab
end
section
namespace Ab
open PySem PySem.Spec PyProof.Rows L2
/-! ### for x in xs: if not t1(x): return ..; for y in x: if not t2(y): return .. -- looked through, the lists stay the def's own -/
def inA (n j : Nat) (d : D) : Sl := (List.replicate n none).set j (some d)
def isFls : Ou Bool → Bool
  | .ok false _ => true
  | _ => false
def lookD (n jp jn : Nat) (f1 f2 : FT) : D → Bool
  | .mu es => match intsOf es with
    | some ps => isFls (f1 (inA n jp (.lst es))) && ps.all fun p => isFls (f2 (inA n jn (.int p)))
    | none => false
  | _ => false
def fLook (i jp jn : Nat) (f1 f2 : FT) : FS := fun A => match slotL i A with
  | some ds => if ds.all (lookD A.length jp jn f1 f2) = true ∧ jp < A.length ∧ jn < A.length then .ok .next (wipeA A [jp, jn]) else .stuck
  | none => .stuck
theorem isFls_eq {o : Ou Bool} (h : isFls o = true) : ∃ A, o = .ok false A := by
  unfold isFls at h
  split at h
  · exact ⟨_, rfl⟩
  · cases h
def tTB (z : Z) (f : FT) : TT := fun σ H Q => ∃ B, tT { z with B := B } f σ H Q
section
variable {K : Fw} {B : Bs} {σ : L2.St} {A : Sl} {ts : Ts} {G H H' : Hp}
theorem Sls.lens {L : List Addr} (s : Sls K G H σ A L) : σ.length = A.length := by
  induction s with
  | nil => rfl
  | skip _ ih => simp [ih]
  | cons _ _ ih => simp [ih]
theorem sls_none : ∀ σ : L2.St, Sls K G H σ (List.replicate σ.length none) []
  | [] => .nil
  | o :: σ => by rw [List.length_cons, List.replicate_succ]; exact .skip (sls_none σ)
theorem Abs.heap (h : Abs K B σ A ts H) (sm : Same H H') : Abs K B σ A ts H' := by
  obtain ⟨G, L1, L2, gd, tm, sl, nd, ow⟩ := h
  have one : ∀ a, H a ≠ none → H' a = H a := fun a hn => by
    cases e : H a with
    | none => exact absurd e hn
    | some o => exact sm _ _ e
  have o1 := tm.own
  have o2 := sl.own
  refine ⟨G, L1, L2, ⟨fun a o e => sm _ _ (gd.gh _ _ e), gd.bg, fun a o h1 h2 => sm _ _ (gd.bh a o h1 h2), gd.sep, fun a m => ?_⟩, tm.mono (fun _ _ e => e) fun a ha => ⟨one a (o1 a ha).2, (o1 a ha).1⟩, sl.mono (fun _ _ e => e) fun a ha => ⟨one a (o2 a ha).2, (o2 a ha).1⟩, nd, ow⟩
  rw [one a (gd.alive a m)]
  exact gd.alive a m
/-- one slot alone, seen from a ground of one known thing -/
theorem look_abs {j : Nat} {v : V} {d : D} (hl : σ.length = n) (hv : σ[j]? = some (some v)) (hg : Same G H) (r : R K G H v d []) : Abs K ⟨G, H, []⟩ σ (inA n j d) [] H := by
  have hj : j < σ.length := (List.getElem?_eq_some_iff.mp hv).1
  subst hl
  obtain ⟨L', s, p⟩ := (sls_none (K := K) (G := G) (H := H) σ).put (i := j) (by rw [List.getElem?_replicate, if_pos hj]) hv r
  have e : L' = [] := List.Perm.eq_nil (by simpa using p)
  subst e
  exact ⟨G, [], [], ⟨hg, fun _ _ e => e, fun _ _ _ e => e, fun _ _ _ e => e, fun _ m => nomatch m⟩, .nil, s, by simp, fun _ m => nomatch m⟩
end
section
variable {z : Z} {X : Cx} {f1 f2 : FT}
theorem test_go {j : Nat} {v : V} {d : D} {σ : L2.St} {G H : Hp} {n : Nat} {f : FT} {Q : Bool → Hp → Prop} (hl : σ.length = n) (hv : σ[j]? = some (some v)) (hg : Same G H) (r : R z.K G H v d []) (hf : isFls (f (inA n j d)) = true) (q : ∀ H', Same H H' → Q false H') : tTB z f σ H Q := by
  obtain ⟨A', e⟩ := isFls_eq hf
  refine ⟨⟨G, H, []⟩, inA n j d, [], look_abs hl hv hg r, ?_⟩
  rw [e]
  intro H' h'
  obtain ⟨G', L1, L2, gd, _⟩ := h'
  exact q H' fun a o e => gd.bh a o (fun m => nomatch m) e
theorem intsOf_is {es : List D} {ps : List Int} (h : intsOf es = some ps) : es = ps.map D.int := intsOf_eq h
theorem R.mu_inv {K : Fw} {G H : Hp} {v : V} {ds : List D} {L : List Addr} (r : R K G H v (.mu ds) L) : ∃ p xs L', v = .ref p ∧ H p = some (.lst xs) ∧ G p = none ∧ Rs K G H xs ds L' := by
  cases r with
  | mu h g s => exact ⟨_, _, _, rfl, h, g, s⟩
theorem look_go {i jp jn : Nat} {D : Ends} {σ : L2.St} {H : Hp} (hK : X.K = z.K) (h1 : i ≠ jp) (h2 : i ≠ jn) (h3 : jp ≠ jn) (h : tS z (fLook i jp jn f1 f2) D σ H) :
    tFor (iList X.K (tVar i)) (gName jp) (tSeq (tIfS (tTB z f1) tNever tNext) (tFor (iList X.K (tVar jp)) (gName jn) (tIfS (tTB z f2) tNever tNext))) D σ H := by
  obtain ⟨A, ts, hA, c, hp⟩ := h
  unfold fLook at hp
  split at hp
  · rename_i ds es
    split at hp
    · rename_i hall
      obtain ⟨hall, hjp, hjn⟩ := hall
      rw [List.all_eq_true] at hall
      obtain ⟨G, L1, L2, gd, tm, sl, nd, ow⟩ := id hA
      obtain ⟨v, Li, L', ev, r, s9, p9⟩ := sl.take (slotL_get es)
      have hlen := sl.lens
      cases r with
      | mu hq gp rs =>
        rename_i p xs L
        have hrl : xs.length = ds.length := rs.length
        rw [hK]
        refine ⟨.ref p, ev, p, rfl, ⟨xs, .inl (.inl hq)⟩, ?_⟩
        refine ⟨fun k m σ' H' => m = ds.length - k ∧ k ≤ ds.length ∧ Same H H' ∧ SameOff [jp, jn] σ σ', ⟨_, rfl, Nat.zero_le _, fun _ _ e => e, .refl⟩, fun k m σ' H' ⟨hm, hk, sm, so⟩ => ?_⟩
        have sq : SqL z.K H' p xs := .inl (.inl (sm _ _ hq))
        by_cases hlt : k < ds.length
        · refine .inr ⟨⟨xs, xs[k]'(by omega), sq, List.getElem?_eq_getElem (by omega)⟩, fun σ2 H2 => Same H H2 ∧ SameOff [jp, jn] σ σ2, fun σ2 H2 ⟨a, b⟩ => ⟨ds.length - (k + 1), by omega, rfl, hlt, a, b⟩, fun x H2 ⟨eH, hx⟩ => ?_⟩
          subst eH
          have hx := hx xs sq
          have hd : ds[k]? = some ds[k] := List.getElem?_eq_getElem hlt
          have hok := hall _ (List.mem_of_getElem? hd)
          obtain ⟨x', Lx, hx', rx, s8⟩ := rs.getD hd
          have exx : x' = x := Option.some.inj (hx'.symm.trans hx)
          subst exx
          generalize ds[k] = dk at hok rx
          cases dk <;> simp only [lookD] at hok <;> try cases hok
          rename_i ws
          split at hok
          · rename_i ps eps
            have ews := intsOf_eq eps
            subst ews
            rw [Bool.and_eq_true, List.all_eq_true] at hok
            obtain ⟨q, us, L2', erx, hq2, gq2, rs2⟩ := R.mu_inv rx
            · subst erx
              have eus := rs_ints rs2
              subst eus
              have hq3 : H2 q = some (.lst (ps.map V.int)) := sm _ _ hq2
              show tSeq _ _ _ (σ'.set jp (some (.ref q))) H2
              have so2 : SameOff [jp, jn] σ (σ'.set jp (some (.ref q))) := so.set (by simp)
              have hlen2 : (σ'.set jp (some (.ref q))).length = A.length := by rw [so2.1, hlen]
              have hj : jp < σ'.length := by rw [so.1, hlen]; exact hjp
              have hv : (σ'.set jp (some (V.ref q)))[jp]? = some (some (.ref q)) := by simp [hj]
              refine test_go (G := fun a => if a = q then some (.lst (ps.map V.int)) else none) hlen2 hv (fun a o e => ?_) (.lst (by simp) (rs_of_ints ps)) hok.1 fun H3 sm3 => ?_
              · by_cases ea : a = q
                · subst ea; simp at e; rw [hq3, e]
                · simp [ea] at e
              · rw [if_neg (by decide)]
                unfold tNext
                dsimp only
                unfold tFor iList tVar
                refine ⟨.ref q, hv, q, rfl, ⟨_, .inl (.inl (sm3 _ _ hq3))⟩, ?_⟩
                refine ⟨fun k2 m2 σ4 H4 => m2 = ps.length - k2 ∧ k2 ≤ ps.length ∧ Same H3 H4 ∧ SameOff [jp, jn] σ σ4, ⟨_, rfl, Nat.zero_le _, fun _ _ e => e, so2⟩, fun k2 m2 σ4 H4 ⟨hm2, hk2, sm4, so4⟩ => ?_⟩
                have sq4 : SqL z.K H4 q (ps.map V.int) := .inl (.inl (sm4 _ _ (sm3 _ _ hq3)))
                by_cases hlt2 : k2 < ps.length
                · refine .inr ⟨⟨_, .int ps[k2], sq4, by rw [List.getElem?_map, List.getElem?_eq_getElem hlt2]; rfl⟩, fun σ5 H5 => Same H3 H5 ∧ SameOff [jp, jn] σ σ5, fun σ5 H5 ⟨a, b⟩ => ⟨ps.length - (k2 + 1), by omega, rfl, hlt2, a, b⟩, fun y H5 ⟨eH5, hy⟩ => ?_⟩
                  subst eH5
                  have hy := hy _ sq4
                  rw [List.getElem?_map, List.getElem?_eq_getElem hlt2] at hy
                  have ey : V.int ps[k2] = y := Option.some.inj hy
                  subst ey
                  show tIfS _ _ _ _ (σ4.set jn (some (.int ps[k2]))) H5
                  have so5 : SameOff [jp, jn] σ (σ4.set jn (some (.int ps[k2]))) := so4.set (by simp)
                  have hjn4 : jn < σ4.length := by rw [so4.1, hlen]; exact hjn
                  refine test_go (G := fun _ => none) (v := .int ps[k2]) (by rw [so5.1, hlen]) (by simp [hjn4]) (fun a o e => nomatch e) (.int _) (hok.2 _ (List.getElem_mem hlt2)) fun H6 sm6 => ?_
                  rw [if_neg (by decide)]
                  exact ⟨fun a o e => sm6 _ _ (sm4 _ _ e), so5⟩
                · exact .inl ⟨⟨_, sq4, by rw [List.length_map]; omega⟩, fun a o e => sm4 _ _ (sm3 _ _ (sm _ _ e)), so4⟩
          · cases hok
        · have hk2 : k = ds.length := by omega
          refine .inl ⟨⟨xs, sq, by omega⟩, hp _ _ ?_⟩
          have := (hA.heap sm).block so
          rw [clsd_id c] at this
          exact this
    · exact (pS_stuck hp).elim
  · exact (pS_stuck hp).elim
theorem qs_look {i jp jn : Nat} {tg1 tg2 found part c1 c2 : Expr} {b1 b2 : List Stmt} {p1 p2 p3 p4 : Pos} (hp : PassesOwn (model X.prog X.w) X.A X.env X.xe) (hc : X.calm = true) (hK : X.K = z.K) (h1 : i ≠ jp) (h2 : i ≠ jn) (h3 : jp ≠ jn)
    (ho : PE X found (tVar i)) (hpt : PE X part (tVar jp)) (hg1 : PG X tg1 (gName jp)) (hg2 : PG X tg2 (gName jn)) (ht1 : ∀ B, PT X c1 (tT { z with B := B } f1)) (ht2 : ∀ B, PT X c2 (tT { z with B := B } f2))
    (hs1 : ∀ x, foldedSetIterable found X.env x = pure x := by intro _; rfl) (hs2 : ∀ x, foldedSetIterable part X.env x = pure x := by intro _; rfl) :
    PS X (.For tg1 found [.If c1 b1 [] p1, .For tg2 part [.If c2 b2 [] p2] [] p3] [] p4) (tS z (fLook i jp jn f1 f2)) := by
  have k1 : PT X c1 (tTB z f1) := ⟨fun pins s σ H Q I ⟨B, h⟩ => (ht1 B).run pins s σ H Q I h⟩
  have k2 : PT X c2 (tTB z f2) := ⟨fun pins s σ H Q I ⟨B, h⟩ => (ht2 B).run pins s σ H Q I h⟩
  exact PS.imp (ps_for hp hc (pi_list ho) hg1 (pss_cons (ps_if k1 pss_never pss_nil) (pss_one (ps_for hp hc (pi_list hpt) hg2 (pss_one (ps_if k2 pss_never pss_nil)) hs2))) hs1) fun D σ H h => look_go hK h1 h2 h3 h
end
/-! ### xs[k].append(c) -/
def fNAppI (i : Nat) (fk : FE) (c : Int) : FE := fun A => match slotL i A with
  | none => .stuck
  | some _ => (fk A).bind fun kd A1 => match kd, slotL i A1 with
    | .int k, some ds => match ixN ds.length k with
      | some m => match ds[m]? with
        | some (.mu es) => if isFs es = true ∧ es.length < sizeLine then .ok .non (A1.set i (some (.mu (ds.set m (.mu (es ++ [.int c])))))) else .stuck
        | _ => .stuck
      | none => .stuck
    | _, _ => .stuck
section
variable {z : Z} {X : Cx} {fk : FE}
theorem nappI_go {i : Nat} {c : Int} {σ : L2.St} {H : Hp} {Q : VK} (h : tE z (fNAppI i fk c) σ H Q) : tBM z.K "list" rAppend (tOp (rIxL z.K) (tVar i) (tE z fk)) (L2.tCons (tC (.int c)) L2.tNil) σ H Q := by
  obtain ⟨A, ts, hA, hp⟩ := h
  unfold fNAppI at hp
  split at hp
  · exact (show False from hp).elim
  · rename_i ds0 e0
    obtain ⟨p0, xs0, ev, hp0, _, h1⟩ := hA.slotAl (slotL_get e0)
    refine ⟨.ref p0, ev, A, (.ref p0, .al i) :: ts, h1, ?_⟩
    cases ek : fk A with
    | stuck => rw [ek] at hp; exact (show False from hp).elim
    | exc c A2 => rw [ek] at hp; exact fun H' h' => hp H' h'.drop
    | ok kd A1 =>
      rw [ek] at hp
      simp only [Ou.bind_ok] at hp
      intro u H1 h2
      split at hp
      · rename_i k ds es
        split at hp
        · rename_i m hm
          split at hp
          · rename_i ee he
            split at hp
            · rename_i hc0
              have hc : isFs ee = true ∧ isScal (.int c) = true ∧ ee.length < sizeLine := ⟨hc0.1, rfl, hc0.2⟩
              have eu := h2.int
              have h3 : z.A σ A1 ((.ref p0, .al i) :: ts) H1 := h2.drop
              have h5 : z.A σ A1 ((.int c, .int c) :: (.ref p0, .al i) :: ts) H1 := h3.pint c
              obtain ⟨q, vs, p, ws, eq, hq, hl, hj, hpp, hwl, h6⟩ := (h5.swapMove (slotL_get es)).napp he hc.1 hc.2.1
              cases eq
              have h7 := h6.put (fun j q => nomatch q) (set_none_get (slotL_get es)) ev
              rw [List.set_set] at h7
              have hat : atI vs k = some (.ref p) := by
                unfold atI
                rw [hl, hm]
                exact hj
              exact ⟨p0, vs, k, .ref p, rfl, eu, .inl (.inl hq), hat, .inl ⟨rfl, _, .inl (.inl hpp)⟩, p, ws, .int c, rfl, rfl, hpp, by rw [hwl]; exact hc.2.2, hp _ _ h7.pnon⟩
            · exact (show False from hp).elim
          · exact (show False from hp).elim
        · exact (show False from hp).elim
      · exact (show False from hp).elim
theorem qe_nappI {i : Nat} {c : Int} {o k e : Expr} {p1 apos cpos : Pos} (hK : X.K = z.K) (ho : PE X o (tVar i)) (hk : PE X k (tE z fk)) (he : PE X e (tC (.int c))) (hs0 : PlainIx k)
    (hbase : attributeBase (.Subscript o k p1) "append" X.env (eval (.Subscript o k p1) X.env) = eval (.Subscript o k p1) X.env := by rfl)
    (hfew : ((backTo cpos (starEach [e] X.env)).all (fun x => !x.1) && (backToKw cpos (keywordEach [] X.env)).all (fun x => x.1.isSome)
      && decide ([e].length + ([] : List Keyword).length + (if ([] : List Keyword).isEmpty then 0 else 1) < 30)) = true := by rfl)
    (hline : (apos.endLine == cpos.line) = true := by rfl) (hs : starEach [e] X.env = (false, eval e X.env) :: starEach [] X.env := by rfl) (hplain : (backTo cpos (starEach [] X.env)).any (·.1) = false := by rfl) :
    PE X (.Call (.Attribute (.Subscript o k p1) "append" apos) [e] [] cpos) (tE z (fNAppI i fk c)) :=
  PE.imp (pe_bm PySem.F.plainAttrs_list PySem.F.slot_list_append PySem.F.type_list_append mt_append (pe_ix ix_list ho hk hs0) (pa_cons he pa_nil hs) hbase hfew hline hs hplain) fun _ _ _ h => by rw [hK]; exact nappI_go h
end
/-! ### tuple(range(n)) -/
def fTupRange (fe : FE) : FE := fun A => (fe A).bind fun d A1 => match d with
  | .int n => if n.natAbs ≤ 16777216 then .ok (.tup (((List.range n.toNat).map fun i : Nat => (i : Int)).map D.int)) A1 else .stuck
  | _ => .stuck
section
variable {z : Z} {X : Cx} {fe : FE}
theorem qe_tupRange {e : Expr} {p p2 pos pos2 : Pos} (hc : X.calm = true) (hg : Gl X "tuple") (hm : X.mg "tuple" = none) (hg2 : Gl X "range") (hm2 : X.mg "range" = none) (he : PE X e (tE z fe)) (ha : starEach [e] X.env = (false, eval e X.env) :: starEach [] X.env := by rfl)
    (na : starEach [.Call (.Name "range" p2) [e] [] pos2] X.env = (false, eval (.Call (.Name "range" p2) [e] [] pos2) X.env) :: starEach [] X.env := by rfl) :
    PE X (.Call (.Name "tuple" p) [.Call (.Name "range" p2) [e] [] pos2] [] pos) (tE z (fTupRange fe)) := by
  refine PE.imp (pe_tupRg hc hg hm (prg_1 hg2 hm2 he ha) na) fun σ H Q ⟨A, ts, hA, hp⟩ => ⟨A, ts, hA, ?_⟩
  unfold fTupRange at hp
  cases ee : fe A with
  | stuck => rw [ee] at hp; exact (show False from hp).elim
  | exc c A1 => rw [ee] at hp; exact hp
  | ok d A1 =>
    rw [ee] at hp
    simp only [Ou.bind_ok] at hp
    intro v H1 h1
    split at hp
    · rename_i n
      split at hp
      · rename_i hn
        obtain ⟨G, L, gh, r, f⟩ := h1.open (fun j q => nomatch q)
        have r : Ab.R z.K G H1 v (.int n) L := r
        cases r
        refine ⟨n, rfl, ⟨by omega, by omega, by omega, by omega, by omega⟩, fun q hq => ?_⟩
        rw [rgV_nat]
        exact hp _ _ (f.tup gh (rs_of_ints _) hq)
      · exact (show False from hp).elim
    · exact (show False from hp).elim
end
/-! ### xs.append(y), y's own handed over -/
def moveD (d : D) (A : Sl) : Option (D × Sl) := match d with
  | .al i => match A[i]? with
    | some (some t) => some (t, A.set i none)
    | _ => none
  | d => some (d, A)
theorem Abs.moveD {K : Fw} {B : Bs} {σ : L2.St} {A A' : Sl} {ts : Ts} {H : Hp} {v : V} {d d' : D} (h : Abs K B σ A ((v, d) :: ts) H) (hc : Ab.moveD d A = some (d', A')) : Abs K B σ A' ((v, d') :: ts) H ∧ ∀ i, d' ≠ .al i := by
  unfold Ab.moveD at hc
  split at hc
  · split at hc
    · rename_i et
      cases hc
      exact ⟨h.move et, h.slot_al et⟩
    · cases hc
  · rename_i hna
    cases hc
    exact ⟨h, fun i q => hna i q⟩
def fAppM (i : Nat) (fe : FE) : FE := fun A => match slotL i A with
  | none => .stuck
  | some _ => (fe A).bind fun e A2 => match moveD e A2 with
    | none => .stuck
    | some (e', A3) => match slotL i A3 with
      | some ds => if ds.length < sizeLine then .ok .non (A3.set i (some (.mu (ds ++ [e'])))) else .stuck
      | none => .stuck
section
variable {z : Z} {X : Cx} {fe : FE}
theorem appM_go {i : Nat} {σ : L2.St} {H : Hp} {Q : VK} (h : tE z (fAppM i fe) σ H Q) : tBM z.K "list" rAppend (tVar i) (L2.tCons (tE z fe) L2.tNil) σ H Q := by
  obtain ⟨A, ts, hA, hp⟩ := h
  unfold fAppM at hp
  split at hp
  · exact (show False from hp).elim
  · rename_i ds0 e0
    obtain ⟨p0, xs0, ev, hp0, _, h1⟩ := hA.slotAl (slotL_get e0)
    refine ⟨.ref p0, ev, tyV_lst hp0, A, (.ref p0, .al i) :: ts, h1, ?_⟩
    cases eb : fe A with
    | stuck => rw [eb] at hp; exact (show False from hp).elim
    | exc c A2 => rw [eb] at hp; exact fun H' h' => hp H' h'.drop
    | ok e A2 =>
      rw [eb] at hp
      simp only [Ou.bind_ok] at hp
      intro y H2 h2
      split at hp
      · exact (show False from hp).elim
      · rename_i e' A3 ec
        obtain ⟨h3, n3⟩ := h2.moveD ec
        split at hp
        · rename_i ds e3
          split at hp
          · rename_i hl
            obtain ⟨p, xs, q, hp2, hlen, h5⟩ := (h3.swapMove (slotL_get e3)).app n3
            cases q
            have h6 := h5.put (fun j q => nomatch q) (set_none_get (slotL_get e3)) ev
            rw [List.set_set] at h6
            exact ⟨p0, xs, y, rfl, rfl, hp2, by rw [hlen]; exact hl, hp _ _ h6.pnon⟩
          · exact (show False from hp).elim
        · exact (show False from hp).elim
theorem qe_appM {i : Nat} {o e : Expr} {apos cpos : Pos} (hK : X.K = z.K) (ho : PE X o (tVar i)) (he : PE X e (tE z fe))
    (hbase : attributeBase o "append" X.env (eval o X.env) = eval o X.env := by rfl)
    (hfew : ((backTo cpos (starEach [e] X.env)).all (fun x => !x.1) && (backToKw cpos (keywordEach [] X.env)).all (fun x => x.1.isSome)
      && decide ([e].length + ([] : List Keyword).length + (if ([] : List Keyword).isEmpty then 0 else 1) < 30)) = true := by rfl)
    (hline : (apos.endLine == cpos.line) = true := by rfl) (hs : starEach [e] X.env = (false, eval e X.env) :: starEach [] X.env := by rfl) (hplain : (backTo cpos (starEach [] X.env)).any (·.1) = false := by rfl) :
    PE X (.Call (.Attribute o "append" apos) [e] [] cpos) (tE z (fAppM i fe)) :=
  PE.imp (pe_bm PySem.F.plainAttrs_list PySem.F.slot_list_append PySem.F.type_list_append mt_append ho (pa_cons he pa_nil hs) hbase hfew hline hs hplain) fun _ _ _ h => by rw [hK]; exact appM_go h
end
/-! ### (x, ..) * k -/
def gMulT (d e : D) (A : Sl) : Option D := match see A d, e with
  | .tup ds, .int k => if isFs ds = true ∧ ds ≠ [] ∧ 2 ≤ k ∧ k ≤ 1000 ∧ ds.length ≤ 1000 then some (.tup (List.replicate k.toNat ds).flatten) else none
  | _, _ => none
theorem opd_mulT {z : Z} : OpD z (rRepT z.K) gMulT := by
  intro σ A ts H v u d e d' h hg Q q
  unfold gMulT at hg
  split at hg
  · rename_i ds k hs
    split at hg
    · rename_i hl
      cases hg
      have eu := h.int
      obtain ⟨G, L, gh, r, f⟩ := h.drop.open (fun j q => by rw [hs] at q; cases q)
      rw [hs] at r
      cases r with
      | tup q0 rs =>
        have e1 := rs.isFs hl.1
        subst e1
        refine ⟨_, k, _, rfl, eu, .inl (.inl (gh _ _ q0)), ?_, hl.2.2.1, hl.2.2.2.1, by rw [rs.length]; exact hl.2.2.2.2, fun p hp => q _ _ (f.tup gh (rs.rep _) hp)⟩
        intro ex
        have := rs.length
        rw [ex] at this
        exact hl.2.1 (List.length_eq_zero_iff.mp this.symm)
    · cases hg
  · cases hg
end Ab
end
section
/-! typed data as told values -/
namespace Ab
open PySem L2
structure EncOk {α : Type} [DecidableEq α] (e : α → D) (n : Nat) : Prop where
  f : ∀ x, isF (e x) = true
  lay : ∀ x, (dat (e x)).canLay0 = true
  dep : ∀ x, (dat (e x)).depth ≤ n
  eqv : ∀ x y, PyData.eqv (dat (e x)) (dat (e y)) = decide (x = y)
section
variable {α β : Type} [DecidableEq α] [DecidableEq β] {e : α → D} {e' : β → D} {n m : Nat}
theorem enc_int : EncOk D.int 0 := ⟨fun _ => by simp [isF], fun _ => by simp [dat, PyData.canLay0], fun _ => by simp [dat, PyData.depth], fun x y => by rw [dat, dat]; exact eqv_int x y⟩
theorem EncOk.fs (h : EncOk e n) : ∀ xs : List α, isFs (xs.map e) = true
  | [] => by simp [isFs]
  | x :: xs => by rw [List.map_cons, isFs, h.f x, EncOk.fs h xs]; rfl
theorem EncOk.lays (h : EncOk e n) : ∀ xs : List α, PyData.canLayAll0 (dats (xs.map e)) = true
  | [] => by simp [dats, PyData.canLayAll0]
  | x :: xs => by rw [List.map_cons, dats, PyData.canLayAll0, h.lay x, EncOk.lays h xs]; rfl
theorem EncOk.deps (h : EncOk e n) : ∀ xs : List α, PyData.depthAll (dats (xs.map e)) ≤ n
  | [] => by simp [dats, PyData.depthAll]
  | x :: xs => by
    rw [List.map_cons, dats, PyData.depthAll]
    exact Nat.max_le.mpr ⟨h.dep x, EncOk.deps h xs⟩
theorem EncOk.eqvs (h : EncOk e n) : ∀ xs ys : List α, PyData.eqvAll (dats (xs.map e)) (dats (ys.map e)) = decide (xs = ys)
  | [], [] => by simp [dats, PyData.eqvAll]
  | [], _ :: _ => by simp [dats, PyData.eqvAll]
  | _ :: _, [] => by simp [dats, PyData.eqvAll]
  | x :: xs, y :: ys => by
    rw [List.map_cons, List.map_cons, dats, dats, PyData.eqvAll, h.eqv, EncOk.eqvs h xs ys]
    simp only [List.cons.injEq]
    by_cases h1 : x = y <;> by_cases h2 : xs = ys <;> simp [h1, h2]
abbrev eT (e : α → D) : List α → D := fun xs => .tup (xs.map e)
abbrev eL (e : α → D) : List α → D := fun xs => .lst (xs.map e)
abbrev eM (e : α → D) : List α → D := fun xs => .mu (xs.map e)
abbrev eP (e : α → D) (e' : β → D) : α × β → D := fun p => .tup [e p.1, e' p.2]
theorem enc_tup (h : EncOk e n) : EncOk (eT e) (n + 1) where
  f := fun xs => by rw [isF]; exact h.fs xs
  lay := fun xs => by rw [dat, PyData.canLay0]; exact h.lays xs
  dep := fun xs => by rw [dat, PyData.depth]; have := h.deps xs; omega
  eqv := fun xs ys => by rw [dat, dat, PyData.eqv]; exact h.eqvs xs ys
theorem enc_lst (h : EncOk e n) : EncOk (eL e) (n + 1) where
  f := fun xs => by simp [isF]
  lay := fun xs => by rw [dat, PyData.canLay0]; exact h.lays xs
  dep := fun xs => by rw [dat, PyData.depth]; have := h.deps xs; omega
  eqv := fun xs ys => by rw [dat, dat, PyData.eqv]; exact h.eqvs xs ys
theorem enc_pair (h : EncOk e n) (h' : EncOk e' m) : EncOk (eP e e') (max n m + 1) where
  f := fun p => by simp [isF, isFs, h.f, h'.f]
  lay := fun p => by simp [dat, dats, PyData.canLay0, PyData.canLayAll0, h.lay, h'.lay]
  dep := fun p => by
    simp only [dat, dats, PyData.depth, PyData.depthAll]
    have := h.dep p.1; have := h'.dep p.2
    omega
  eqv := fun p q => by
    cases p with | mk a b => cases q with | mk c d =>
    simp only [dat, dats, PyData.eqv, PyData.eqvAll, h.eqv, h'.eqv, Bool.and_true, Prod.mk.injEq]
    by_cases h1 : a = c <;> by_cases h2 : b = d <;> simp [h1, h2]
/-- None, or a value that is never None -/
def eO (e : α → D) : Option α → D
  | none => .non
  | some x => e x
theorem enc_opt (h : EncOk e n) (hn : ∀ x, PyData.eqv .none (dat (e x)) = false) (hn' : ∀ x, PyData.eqv (dat (e x)) .none = false) : EncOk (eO e) n where
  f := fun o => by cases o <;> simp [eO, isF, h.f]
  lay := fun o => by cases o <;> simp [eO, dat, PyData.canLay0, h.lay]
  dep := fun o => by
    cases o with
    | none => simp [eO, dat, PyData.depth]
    | some x => exact h.dep x
  eqv := fun o q => by
    cases o <;> cases q
    · simp [eO, dat, PyData.eqv]
    · simp only [eO, dat, hn]; simp
    · simp only [eO, dat, hn']; simp
    · simp only [eO, h.eqv]; simp
theorem EncOk.ok (h : EncOk e n) (hn : n ≤ 64 := by decide) (x : α) : okD (e x) = true := by
  unfold okD SeqAt.shaped
  rw [h.lay x, Bool.true_and, decide_eq_true_iff]
  exact Nat.le_trans (h.dep x) hn
theorem EncOk.okSeq (h : EncOk e n) (hn : n ≤ 63 := by decide) {d : D} {xs : List α} (hd : sqOf d = some (xs.map e)) : okD d = true := by
  have l := h.lays xs
  have p := h.deps xs
  unfold okD SeqAt.shaped
  rcases dat_seq hd with q | q <;> rw [q, PyData.canLay0, l, PyData.depth, Bool.true_and, decide_eq_true_iff] <;> omega
theorem EncOk.see (h : EncOk e n) (A : Sl) (x : α) : see A (e x) = e x := see_isF (h.f x)
section
variable {A : Sl} {d : D} {xs ys : List α} {x y : α}
theorem gEq_enc (h : EncOk e n) (hn : n ≤ 64 := by decide) : gEq (e x) (e y) A = some (.bl (decide (x = y))) := by
  unfold gEq; simp only [h.see, h.ok hn, Bool.and_self, if_true, h.eqv]
theorem gNe_enc (h : EncOk e n) (hn : n ≤ 64 := by decide) : gNe (e x) (e y) A = some (.bl (!decide (x = y))) := by
  unfold gNe; simp only [h.see, h.ok hn, Bool.and_self, if_true, h.eqv]
theorem EncOk.any (h : EncOk e n) (x : α) : ∀ ys : List α, ((dats (ys.map e)).any fun z => PyData.eqv z (dat (e x))) = decide (x ∈ ys)
  | [] => by simp [dats]
  | y :: ys => by
    rw [List.map_cons, dats, List.any_cons, h.eqv, EncOk.any h x ys]
    by_cases h1 : y = x <;> by_cases h2 : x ∈ ys <;> simp [h1, h2, eq_comm]
    · intro q; exact h1 q.symm
theorem inB_enc (h : EncOk e n) (hs : sqOf (Ab.see A d) = some (ys.map e)) (hn : n ≤ 63 := by decide) : inB (e x) d A = some (decide (x ∈ ys)) := by
  unfold inB
  split
  · rename_i z hz; rw [hz] at hs; cases hs
  · rw [hs]
    simp only [h.see, h.ok (Nat.le_trans hn (by decide)), h.okSeq hn hs, Bool.and_self, if_true, h.any]
theorem gIn_enc (h : EncOk e n) (hs : sqOf (Ab.see A d) = some (ys.map e)) (hn : n ≤ 63 := by decide) : gIn (e x) d A = some (.bl (decide (x ∈ ys))) := by
  unfold gIn; rw [inB_enc h hs hn]; rfl
theorem gNotIn_enc (h : EncOk e n) (hs : sqOf (Ab.see A d) = some (ys.map e)) (hn : n ≤ 63 := by decide) : gNotIn (e x) d A = some (.bl (!decide (x ∈ ys))) := by
  unfold gNotIn; rw [inB_enc h hs hn]; rfl
end
end
/-! ### items -/
section
variable {A : Sl} {d e : D} {ds : List D} {i : Int}
theorem atI_nn {α : Type} {xs : List α} {i : Int} {x : α} (h0 : 0 ≤ i) (h : xs[i.toNat]? = some x) : atI xs i = some x := by
  have hl := (List.getElem?_eq_some_iff.mp h).1
  unfold atI ixN
  rw [if_pos h0, if_pos (by omega)]
  exact h
theorem atI_neg {α : Type} {xs : List α} {i : Int} {x : α} (h0 : i < 0) (h1 : 0 ≤ i + xs.length) (h : xs[(i + xs.length).toNat]? = some x) : atI xs i = some x := by
  unfold atI ixN
  rw [if_neg (by omega), if_pos (by omega)]
  exact h
theorem gIx_at (hs : sqOf (see A d) = some ds) (h : atI ds i = some e) (hf : isF e = true) : gIx d (.int i) A = some e := by
  unfold gIx
  simp only
  split
  · rename_i z hz; rw [hz] at hs; cases hs
  · rw [hs]; simp only [h, hf, if_true]
theorem gIx_map {α : Type} {f : α → D} {xs : List α} {x : α} (hs : sqOf (see A d) = some (xs.map f)) (h0 : 0 ≤ i) (h : xs[i.toNat]? = some x) (hf : isF (f x) = true) : gIx d (.int i) A = some (f x) :=
  gIx_at hs (atI_nn h0 (by rw [List.getElem?_map, h]; rfl)) hf
theorem idxOf_enc {α : Type} [DecidableEq α] {f : α → D} {n : Nat} (h : EncOk f n) (x : α) : ∀ (ys : List α) (k : Nat), x ∈ ys → idxOf (dat (f x)) (dats (ys.map f)) k = some (k + ys.idxOf x)
  | y :: ys, k, m => by
    rw [List.map_cons, dats, idxOf, h.eqv]
    by_cases e : y = x
    · subst e; simp
    · have m' : x ∈ ys := (List.mem_cons.mp m).resolve_left fun q => e q.symm
      rw [decide_eq_false e, if_neg Bool.false_ne_true, idxOf_enc h x ys (k + 1) m', List.idxOf_cons, show (y == x) = false by simpa using e]
      simp only [cond_false]
      congr 1; omega
theorem gIndex_enc {α : Type} [DecidableEq α] {f : α → D} {n : Nat} {x : α} {ys : List α} (h : EncOk f n) (hs : lsOf (see A d) = some (ys.map f)) (m : x ∈ ys) (hn : n ≤ 63 := by decide) : gIndex d [f x] A = some (.int ((ys.idxOf x : Nat) : Int)) := by
  have hs2 : sqOf (see A d) = some (ys.map f) := by
    revert hs
    cases see A d <;> simp [lsOf, sqOf]
  unfold gIndex
  simp only [hs, h.see, h.ok (Nat.le_trans hn (by decide)), h.okSeq hn hs2, Bool.and_self, if_true, idxOf_enc h x ys 0 m, Option.map_some, Nat.zero_add]
end
section
variable {A A1 : Sl} {fe : FE} {i : Nat} {ds es : List D}
theorem ev_it_al (h : A[i]? = some (some (.mu ds))) (hf : isFs ds = true) : fIt (fVar i) A = .ok ds (A.set i (some (.lst ds))) := by
  unfold fIt
  rw [ev_al h (by simp [isF])]
  simp only [Ou.bind_ok, closeD, h, fz, fzs_isFs hf, iterOf]
theorem gAdd_tup (h1 : isFs ds = true) (h2 : isFs es = true) (h3 : ds.length + es.length ≤ sizeLine) : gAdd (.tup ds) (.tup es) A = some (.tup (ds ++ es)) := by
  unfold gAdd
  simp only [see, h1, h2, h3, and_self, if_true]
theorem gAdd_lst {d e : D} (h0 : exOf (see A d) = some ds) (h00 : exOf (see A e) = some es) (h1 : isFs ds = true) (h2 : isFs es = true) (h3 : ds.length + es.length ≤ sizeLine) : gAdd d e A = some (.mu (ds ++ es)) := by
  unfold gAdd
  split
  · rename_i q _; rw [q] at h0; cases h0
  · rename_i q _; rw [q] at h0; cases h0
  · rename_i q _; rw [q] at h0; cases h0
  · rw [h0, h00]; simp only [h1, h2, h3, and_self, if_true]
end
end Ab
end
section
/-! statements by what holds behind them -/
namespace Ab
open PySem L2
def W (o : Ou Fl) (P : Fl → Sl → Prop) : Prop := ∃ r A', o = .ok r A' ∧ P r A'
section
variable {A A0 A1 A2 : Sl} {f g k : FS} {fe fa fb : FE} {ft : FT} {P Q : Fl → Sl → Prop} {r : Fl} {b : Bool}
theorem w_of (h : f A = .ok r A1) (hp : P r A1) : W (f A) P := ⟨r, A1, h, hp⟩
theorem w_imp (h : W (f A) P) (hq : ∀ r A, P r A → Q r A) : W (f A) Q := let ⟨r, A', e, p⟩ := h; ⟨r, A', e, hq _ _ p⟩
theorem w_seq_n (h : f A = .ok .next A1) (hk : W (g A1) P) : W (fSeq f g A) P := by
  obtain ⟨r, A', e, p⟩ := hk
  exact ⟨r, A', (seq_next h).trans e, p⟩
theorem w_seq (h : W (f A) fun r A1 => match r with | .next => W (g A1) P | r => P r A1) : W (fSeq f g A) P := by
  obtain ⟨r, A', e, p⟩ := h
  unfold fSeq
  rw [e]
  simp only [Ou.bind_ok]
  cases r with
  | next => exact p
  | brk => exact ⟨_, _, rfl, p⟩
  | cont => exact ⟨_, _, rfl, p⟩
  | ret d => exact ⟨_, _, rfl, p⟩
theorem w_seq_W (h : W (f A) fun r A1 => r = .next ∧ W (g A1) P) : W (fSeq f g A) P := by
  obtain ⟨r, A', e, rfl, p⟩ := h
  exact w_seq_n e p
theorem wf_next (h : P .next A) : W (fNext A) P := ⟨_, _, rfl, h⟩
theorem w_cont (h : P .cont A) : W (fCont A) P := ⟨_, _, rfl, h⟩
theorem w_brk (h : P .brk A) : W (fBrk A) P := ⟨_, _, rfl, h⟩
theorem w_seq_next (h : W (k A) P) : W (fSeq fNext k A) P := w_seq_n rfl h
theorem w_seq_cont (h : P .cont A) : W (fSeq fCont k A) P := w_seq ⟨_, _, rfl, h⟩
theorem w_if (h : ft A = .ok b A1) (ht : b = true → W (f A1) P) (hf : b = false → W (g A1) P) : W (fIf ft f g A) P := by
  cases b with
  | true => obtain ⟨r, A', e, p⟩ := ht rfl; exact ⟨r, A', (fif_t h).trans e, p⟩
  | false => obtain ⟨r, A', e, p⟩ := hf rfl; exact ⟨r, A', (fif_f h).trans e, p⟩
theorem w_seq_if (h : ft A = .ok b A1) (ht : b = true → W (fSeq f k A1) P) (hf : b = false → W (fSeq g k A1) P) : W (fSeq (fIf ft f g) k A) P := by
  cases b with
  | true =>
    have := ht rfl
    unfold fSeq at this ⊢
    rw [fif_t h]; exact this
  | false =>
    have := hf rfl
    unfold fSeq at this ⊢
    rw [fif_f h]; exact this
theorem w_assoc (h : W (fSeq f (fSeq g k) A) P) : W (fSeq (fSeq f g) k A) P := by
  have e : fSeq (fSeq f g) k A = fSeq f (fSeq g k) A := by
    unfold fSeq
    cases f A with
    | ok r A1 => cases r <;> rfl
    | exc _ _ => rfl
    | stuck => rfl
  rw [e]; exact h
/-- a for by an invariant; its turns go on -/
theorem w_seq_for {fi : FI} {t : Tg} {fb : FS} {xs : List D} (I : Nat → Sl → Prop) (hi : fi A = .ok xs A0) (h0 : I 0 A0) (hs : ∀ j d A, xs[j]? = some d → I j A → ∃ A1, t.set d A = some A1 ∧ W (fb A1) fun r A2 => (r = .next ∨ r = .cont) ∧ I (j + 1) A2)
    (hk : ∀ A', I xs.length A' → W (k A') P) : W (fSeq (fFor fi t fb) k A) P := by
  obtain ⟨A', h1, h2⟩ := for_ind I hi h0 fun j d A e h => by
    obtain ⟨A1, e1, r, A2, e2, hr, hI⟩ := hs j d A e h
    exact ⟨A1, A2, e1, hr.elim (fun z => .inl (by rw [← z]; exact e2)) fun z => .inr (by rw [← z]; exact e2), hI⟩
  exact w_seq_n h1 (hk A' h2)
theorem w_for {fi : FI} {t : Tg} {fb : FS} {xs : List D} (I : Nat → Sl → Prop) (hi : fi A = .ok xs A0) (h0 : I 0 A0) (hs : ∀ j d A, xs[j]? = some d → I j A → ∃ A1, t.set d A = some A1 ∧ W (fb A1) fun r A2 => (r = .next ∨ r = .cont) ∧ I (j + 1) A2)
    (hk : ∀ A', I xs.length A' → P .next A') : W (fFor fi t fb A) P := by
  obtain ⟨A', h1, h2⟩ := for_ind I hi h0 fun j d A e h => by
    obtain ⟨A1, e1, r, A2, e2, hr, hI⟩ := hs j d A e h
    exact ⟨A1, A2, e1, hr.elim (fun z => .inl (by rw [← z]; exact e2)) fun z => .inr (by rw [← z]; exact e2), hI⟩
  exact ⟨_, _, h1, hk A' h2⟩
/-- a for that may be left by a return: up to some turn all go on, then one gives r -/
theorem forL_find {t : Tg} {fb : FS} (I : Nat → Sl → Prop) (E : D → Prop) : ∀ (xs : List D) (n : Nat) (A : Sl), I n A → (∀ j d A, xs[j]? = some d → I (n + j) A → ∃ A1, t.set d A = some A1 ∧ W (fb A1) fun r A2 => (r = .next ∨ r = .cont) ∧ I (n + j + 1) A2 ∨ ∃ v, r = .ret v ∧ E v) →
    W (forL t fb xs A) fun r A' => r = .next ∧ I (n + xs.length) A' ∨ ∃ v, r = .ret v ∧ E v
  | [], n, A, h0, _ => ⟨.next, A, rfl, .inl ⟨rfl, h0⟩⟩
  | x :: xs, n, A, h0, hs => by
    obtain ⟨A1, h1, r, A2, h2, h3⟩ := hs 0 x A rfl h0
    unfold forL
    simp only [h1]
    rcases h3 with ⟨hr, h3⟩ | ⟨v, rfl, hv⟩
    · have ih := forL_find I E xs (n + 1) A2 h3 fun j d A e h => by
        have := hs (j + 1) d A (by simpa using e) (by rw [show n + (j + 1) = n + 1 + j by omega]; exact h)
        rw [show n + (j + 1) + 1 = n + 1 + j + 1 by omega] at this
        exact this
      rw [List.length_cons, show n + (xs.length + 1) = n + 1 + xs.length by omega]
      rcases hr with rfl | rfl <;> simp only [h2] <;> exact ih
    · simp only [h2]
      exact ⟨_, _, rfl, .inr ⟨v, rfl, hv⟩⟩
theorem w_seq_find {fi : FI} {t : Tg} {fb : FS} {xs : List D} (I : Nat → Sl → Prop) (E : D → Prop) (hi : fi A = .ok xs A0) (h0 : I 0 A0) (hs : ∀ j d A, xs[j]? = some d → I j A → ∃ A1, t.set d A = some A1 ∧ W (fb A1) fun r A2 => (r = .next ∨ r = .cont) ∧ I (j + 1) A2 ∨ ∃ v, r = .ret v ∧ E v)
    (hk : ∀ A', I xs.length A' → W (k A') P) (he : ∀ v A', E v → P (.ret v) A') : W (fSeq (fFor fi t fb) k A) P := by
  obtain ⟨r, A', h1, h2⟩ := forL_find (t := t) (fb := fb) I E xs 0 A0 h0 fun j d A e h => by rw [Nat.zero_add] at h ⊢; exact hs j d A e h
  have e : fFor fi t fb A = .ok r A' := by unfold fFor; rw [hi]; exact h1
  rcases h2 with ⟨rfl, h2⟩ | ⟨v, rfl, hv⟩
  · exact w_seq_n e (hk A' (by simpa using h2))
  · exact w_seq ⟨_, _, e, he v A' hv⟩
/-- while, by an invariant that falls -/
theorem whileN_w {c : FT} {fb : FS} (I : Nat → Sl → Prop) : ∀ (m n : Nat) (A : Sl), m < n → I m A → (∀ m A, I m A → ∃ b A1, c A = .ok b A1 ∧ (b = true → W (fb A1) fun r A2 => (r = .next ∨ r = .cont) ∧ ∃ m', m' < m ∧ I m' A2) ∧ (b = false → P .next A1)) → W (whileN c fb n A) P
  | m, 0, A, h, _, _ => absurd h (Nat.not_lt_zero _)
  | m, n + 1, A, h, hI, hs => by
    obtain ⟨b, A1, h1, h2, h3⟩ := hs m A hI
    unfold whileN
    cases b with
    | false => simp only [h1]; exact ⟨_, _, rfl, h3 rfl⟩
    | true =>
      obtain ⟨r, A2, h4, hr, m', hm, hI'⟩ := h2 rfl
      simp only [h1]
      have ih := whileN_w I m' n A2 (by omega) hI' hs
      rcases hr with rfl | rfl <;> simp only [h4] <;> exact ih
theorem w_seq_while {n : Nat} {c : FT} {fb : FS} (I : Nat → Sl → Prop) (m : Nat) (hm : m < n) (h0 : I m A) (hs : ∀ m A, I m A → ∃ b A1, c A = .ok b A1 ∧ (b = true → W (fb A1) fun r A2 => (r = .next ∨ r = .cont) ∧ ∃ m', m' < m ∧ I m' A2) ∧ (b = false → W (k A1) P)) : W (fSeq (fWhile n c fb) k A) P := by
  obtain ⟨r, A', e, p⟩ := whileN_w (P := fun r A1 => r = .next ∧ W (k A1) P) I m n A hm h0 fun m A hI => by
    obtain ⟨b, A1, h1, h2, h3⟩ := hs m A hI
    exact ⟨b, A1, h1, h2, fun hb => ⟨rfl, h3 hb⟩⟩
  obtain ⟨rfl, p⟩ := p
  exact w_seq_n e p
theorem w_ret {d : D} (h : fe A = .ok d A1) (hd : isF d = true) (hp : P (.ret d) A1) : W (fRet fe A) P := ⟨_, _, ev_ret h (isF_al hd), hp⟩
theorem w_ret_mu {ds : List D} (h : fe A = .ok (.mu ds) A1) (hp : P (.ret (.mu ds)) A1) : W (fRet fe A) P := ⟨_, _, ev_ret h (fun _ q => nomatch q), hp⟩
theorem w_ret_al {i : Nat} {ds : List D} (h : A[i]? = some (some (.mu ds))) (hp : P (.ret (.mu ds)) (A.set i none)) : W (fRet (fVar i) A) P := ⟨_, _, ev_ret_al h, hp⟩
theorem w_seq_ret (h : W (f A) fun r A1 => ∃ v, r = .ret v ∧ P (.ret v) A1) : W (fSeq f g A) P := by
  obtain ⟨r, A', e, v, rfl, p⟩ := h
  exact w_seq ⟨_, _, e, p⟩
end
/-- a def's answer -/
def Ret (P : D → Prop) : Fl → Sl → Prop := fun r _ => match r with
  | .ret d => (∀ i, d ≠ .al i) ∧ P d
  | .next => P .non
  | _ => False
theorem ret_of {P : D → Prop} {d : D} {A : Sl} (hd : isF d = true) (h : P d) : Ret P (.ret d) A := ⟨isF_al hd, h⟩
theorem ret_mu {P : D → Prop} {ds : List D} {A : Sl} (h : P (.mu ds)) : Ret P (.ret (.mu ds)) A := ⟨(fun _ q => nomatch q), h⟩
theorem def_w {ds : List D} {k n : Nat} {fs : FS} {P : D → Prop} (A0 : Sl) (hA : ds.map some ++ List.replicate (n - ds.length) none = A0) (hk : ds.length = k) (h : W (fs A0) (Ret P)) : ∃ d, defF k n fs ds = .ok d ∧ P d := by
  obtain ⟨r, A', e, p⟩ := h
  unfold defF runF
  rw [if_pos hk, hA, e]
  cases r with
  | next => exact ⟨_, rfl, p⟩
  | brk => exact p.elim
  | cont => exact p.elim
  | ret d =>
    obtain ⟨p1, p2⟩ := p
    refine ⟨d, ?_, p2⟩
    cases d <;> first | rfl | exact absurd rfl (p1 _)
theorem def_is {ds : List D} {k n : Nat} {fs : FS} {d : D} (A0 : Sl) (hA : ds.map some ++ List.replicate (n - ds.length) none = A0) (hk : ds.length = k) (h : W (fs A0) (Ret fun x => x = d)) : defF k n fs ds = .ok d := by
  obtain ⟨_, e, rfl⟩ := def_w A0 hA hk h
  exact e
theorem getD_get {α : Type} {xs : List α} {k : Nat} {d : α} (h : k < xs.length) : xs[k]? = some (xs.getD k d) := by
  rw [List.getD_eq_getElem?_getD, List.getElem?_eq_getElem h]; rfl
/-- menus -/
theorem gIx_2 {a b i : Int} {A : Sl} (h0 : 0 ≤ i) (h1 : i < 2) : gIx (.mu [.int a, .int b]) (.int i) A = some (.int (if i = 0 then a else b)) := by
  rcases (by omega : i = 0 ∨ i = 1) with rfl | rfl
  · exact gIx_at (ds := [.int a, .int b]) rfl rfl rfl
  · exact gIx_at (ds := [.int a, .int b]) rfl rfl rfl
theorem gIx_3 {a b c i : Int} {A : Sl} (h0 : 0 ≤ i) (h1 : i < 3) : gIx (.mu [.int a, .int b, .int c]) (.int i) A = some (.int (if i = 0 then a else if i = 1 then b else c)) := by
  rcases (by omega : i = 0 ∨ i = 1 ∨ i = 2) with rfl | rfl | rfl
  · exact gIx_at (ds := [.int a, .int b, .int c]) rfl rfl rfl
  · exact gIx_at (ds := [.int a, .int b, .int c]) rfl rfl rfl
  · exact gIx_at (ds := [.int a, .int b, .int c]) rfl rfl rfl
theorem gIx_4 {a b c d i : Int} {A : Sl} (h0 : 0 ≤ i) (h1 : i < 4) : gIx (.mu [.int a, .int b, .int c, .int d]) (.int i) A = some (.int (if i = 0 then a else if i = 1 then b else if i = 2 then c else d)) := by
  rcases (by omega : i = 0 ∨ i = 1 ∨ i = 2 ∨ i = 3) with rfl | rfl | rfl | rfl
  · exact gIx_at (ds := [.int a, .int b, .int c, .int d]) rfl rfl rfl
  · exact gIx_at (ds := [.int a, .int b, .int c, .int d]) rfl rfl rfl
  · exact gIx_at (ds := [.int a, .int b, .int c, .int d]) rfl rfl rfl
  · exact gIx_at (ds := [.int a, .int b, .int c, .int d]) rfl rfl rfl
theorem range_get {n j : Nat} {d : D} (h : ((List.range n).map fun i => D.int (i : Nat))[j]? = some d) : d = .int (j : Nat) ∧ j < n := by
  have hj : j < n := by simpa using (List.getElem?_eq_some_iff.mp h).1
  rw [List.getElem?_map, List.getElem?_range hj] at h
  exact ⟨(Option.some.inj h).symm, hj⟩
theorem map_get {α : Type} {f : α → D} {xs : List α} {j : Nat} {d : D} (h : (xs.map f)[j]? = some d) : ∃ x, xs[j]? = some x ∧ d = f x := by
  rw [List.getElem?_map] at h
  cases q : xs[j]? with
  | none => rw [q] at h; cases h
  | some x => rw [q] at h; exact ⟨x, rfl, (Option.some.inj h).symm⟩
theorem compL_map {α β : Type} {e : α → D} {e' : β → D} {t : Tg} {ft : FT} {fe : FE} {A : Sl} (f : α → β) (p : α → Bool) : ∀ (xs : List α) (acc : List D), acc.length + xs.length ≤ sizeLine → (∀ x ∈ xs, ∃ A1, t.set (e x) A = some A1 ∧ ft A1 = .ok (p x) A1 ∧ (p x = true → fe A1 = .ok (e' (f x)) A1 ∧ ∀ i, e' (f x) ≠ .al i) ∧ wipeA A1 t.own = A) →
    compL t ft fe (xs.map e) acc A = .ok (acc ++ ((xs.filter p).map f).map e') A
  | [], acc, _, _ => by simp [compL]
  | d :: ds, acc, hl, h => by
    obtain ⟨A1, h1, h2, h3, h4⟩ := h d List.mem_cons_self
    have ih := fun acc' h' => compL_map f p ds acc' h' (fun d' m => h d' (List.mem_cons_of_mem _ m))
    rw [List.length_cons] at hl
    rw [List.map_cons]
    unfold compL
    rw [h1]
    simp only [h2]
    cases hp : p d with
    | false =>
      simp only [h4]
      rw [ih acc (by omega), List.filter_cons_of_neg (by simp [hp])]
    | true =>
      obtain ⟨h5, h6⟩ := h3 hp
      have ec : closeD (e' (f d)) A1 = some (e' (f d), A1) := by
        unfold closeD
        cases hg : e' (f d) <;> first | rfl | exact absurd hg (h6 _)
      simp only [h5, ec, h4]
      rw [if_pos (by omega), ih _ (by simp; omega), List.filter_cons_of_pos hp, List.map_cons, List.map_cons, List.append_assoc]
      rfl
theorem fcomp_filter {α β : Type} {e : α → D} {e' : β → D} {fi : FI} {t : Tg} {ft : FT} {fe : FE} {A A0 : Sl} {xs : List α} (f : α → β) (p : α → Bool) (hi : fi A = .ok (xs.map e) A0) (hl : xs.length ≤ sizeLine) (h : ∀ x ∈ xs, ∃ A1, t.set (e x) (wipeA A0 t.own) = some A1 ∧ ft A1 = .ok (p x) A1 ∧ (p x = true → fe A1 = .ok (e' (f x)) A1 ∧ ∀ i, e' (f x) ≠ .al i) ∧ wipeA A1 t.own = wipeA A0 t.own) :
    fComp fi t ft fe A = .ok (.mu (((xs.filter p).map f).map e')) (wipeA (wipeA A0 t.own) t.own) := by
  unfold fComp
  rw [hi]
  simp only [Ou.bind_ok]
  rw [compL_map f p xs [] (by simpa using hl) h]
  simp
theorem fcomp_map {α β : Type} {e : α → D} {e' : β → D} {fi : FI} {t : Tg} {fe : FE} {A A0 : Sl} {xs : List α} (f : α → β) (hi : fi A = .ok (xs.map e) A0) (hl : xs.length ≤ sizeLine) (h : ∀ x ∈ xs, ∃ A1, t.set (e x) (wipeA A0 t.own) = some A1 ∧ fe A1 = .ok (e' (f x)) A1 ∧ (∀ i, e' (f x) ≠ .al i) ∧ wipeA A1 t.own = wipeA A0 t.own) :
    fComp fi t fYes fe A = .ok (.mu ((xs.map f).map e')) (wipeA (wipeA A0 t.own) t.own) := by
  have := fcomp_filter (ft := fYes) f (fun _ => true) hi hl fun x m => by
    obtain ⟨A1, h1, h2, h3, h4⟩ := h x m
    exact ⟨A1, h1, rfl, fun _ => ⟨h2, h3⟩, h4⟩
  rw [List.filter_eq_self.mpr (fun _ _ => rfl)] at this
  exact this
/-! isinstance -/
section
variable {A : Sl} {v : Int} {ds : List D}
theorem isi_ii : gIsi [.int v, .ty "int"] A = some (.bl true) := by
  show (kitB "int" "int").map D.bl = _; rw [show kitB "int" "int" = some true by decide +kernel]; rfl
theorem isi_ib : gIsi [.int v, .ty "bool"] A = some (.bl false) := by
  show (kitB "int" "bool").map D.bl = _; rw [show kitB "int" "bool" = some false by decide +kernel]; rfl
theorem isi_tt : gIsi [.tup ds, .ty "tuple"] A = some (.bl true) := by
  show (kitB "tuple" "tuple").map D.bl = _; rw [show kitB "tuple" "tuple" = some true by decide +kernel]; rfl
theorem isi_ll : gIsi [.lst ds, .ty "list"] A = some (.bl true) := by
  show (kitB "list" "list").map D.bl = _; rw [show kitB "list" "list" = some true by decide +kernel]; rfl
theorem isi_ml : gIsi [.mu ds, .ty "list"] A = some (.bl true) := by
  show (kitB "list" "list").map D.bl = _; rw [show kitB "list" "list" = some true by decide +kernel]; rfl
theorem isi_bi {b : Bool} : gIsi [.bl b, .ty "int"] A = some (.bl true) := by
  show (kitB "bool" "int").map D.bl = _; rw [show kitB "bool" "int" = some true by decide +kernel]; rfl
theorem isi_bb {b : Bool} : gIsi [.bl b, .ty "bool"] A = some (.bl true) := by
  show (kitB "bool" "bool").map D.bl = _; rw [show kitB "bool" "bool" = some true by decide +kernel]; rfl
theorem isi_ss {x : Str} : gIsi [.str x, .ty "str"] A = some (.bl true) := by
  show (kitB "str" "str").map D.bl = _; rw [show kitB "str" "str" = some true by decide +kernel]; rfl
end
end Ab
end
section
/-! typed functions and that the told ones do what they say -/
namespace Ab
open PySem L2

/-! ### typed steps -/
inductive Stp (S R : Type) where
  | go (s : S) | brk (s : S) | ret (r : R)
section
variable {α β γ S R T : Type}
def forS (body : α → S → Option S) : List α → S → Option S
  | [], s => some s
  | x :: xs, s => (body x s).bind fun s' => forS body xs s'
def forP (body : α → S → Option (Stp S R)) : List α → S → Option (S ⊕ R)
  | [], s => some (.inl s)
  | x :: xs, s => (body x s).bind fun r => match r with
    | .go s' => forP body xs s'
    | .brk s' => some (.inl s')
    | .ret r => some (.inr r)
def whileS (c : S → Option Bool) (body : S → Option S) : Nat → S → Option S
  | 0, _ => none
  | n + 1, s => (c s).bind fun b => if b = true then (body s).bind fun s' => whileS c body n s' else some s
def compO (xs : List α) (c : α → Bool) (f : α → β) : Option (List β) := if xs.length ≤ sizeLine then some ((xs.filter c).map f) else none
def compR (c : α → Option Bool) (f : α → Option β) : List α → Option (List β)
  | [] => some []
  | x :: xs => (c x).bind fun b => if b = true then (f x).bind fun y => (compR c f xs).bind fun ys => some (y :: ys) else compR c f xs
def compP (xs : List α) (c : α → Option Bool) (f : α → Option β) : Option (List β) := if xs.length ≤ sizeLine then compR c f xs else none
def rgO (n : Int) : Option (List Int) := if n.natAbs < 4611686018427387904 then some ((List.range n.toNat).map fun i : Nat => (i : Int)) else none
def mulO (a b : Int) : Option Int := if cMul a b = true then some (a * b) else none
def divO (a b : Int) : Option Int := if 0 < b ∧ b ≤ 1000000000000000000000000000000000000000000000000000000000000000000000 then some (a / b) else none
def modO (a b : Int) : Option Int := if 0 < b then some (a % b) else none
def catO (xs ys : List α) : Option (List α) := if xs.length + ys.length ≤ sizeLine then some (xs ++ ys) else none
def appO (xs : List α) (x : α) : Option (List α) := if xs.length < sizeLine then some (xs ++ [x]) else none
def repO (xs : List α) (k : Int) : Option (List α) := if k.natAbs < 4611686018427387904 ∧ xs.length * k.toNat ≤ sizeLine then some (List.replicate k.toNat xs).flatten else none
def setO (xs : List α) (i : Int) (x : α) : Option (List α) := (ixN xs.length i).map fun j => xs.set j x
def idxO [DecidableEq α] (xs : List α) (x : α) : Option Int := if x ∈ xs then some (xs.idxOf x : Nat) else none
def isIn [DecidableEq α] (x : α) (xs : List α) : Bool := decide (x ∈ xs)
theorem isIn_iff [DecidableEq α] {x : α} {xs : List α} : isIn x xs = true ↔ x ∈ xs := by unfold isIn; exact decide_eq_true_iff
theorem isIn_f [DecidableEq α] {x : α} {xs : List α} : isIn x xs = false ↔ x ∉ xs := by unfold isIn; exact decide_eq_false_iff_not
/-! ### what a told step answers -/
def Sm (o : Ou Fl) (Φ : T → Ou Fl → Prop) (p : Option T) : Prop := ∀ t, p = some t → Φ t o
section
variable {o : Ou Fl} {Φ : T → Ou Fl → Prop} {A A1 A0 : Sl} {f g k : FS} {fe : FE} {ft : FT} {p q : Option T} {b : Bool} {t : T}
theorem sm_need {x : Option α} {k : α → Option T} (h : ∀ v, x = some v → Sm o Φ (k v)) : Sm o Φ (x.bind k) := fun t e => by
  cases hx : x with
  | none => rw [hx] at e; cases e
  | some v => rw [hx] at e; exact h v hx t e
theorem sm_n (h : f A = .ok .next A1) (hk : Sm (k A1) Φ p) : Sm (fSeq f k A) Φ p := by rw [seq_next h]; exact hk
theorem sm_if (h : ft A = .ok b A1) (h1 : b = true → Sm (f A1) Φ p) (h2 : b = false → Sm (g A1) Φ q) : Sm (fIf ft f g A) Φ (if b = true then p else q) := by
  cases b with
  | true => rw [fif_t h]; exact h1 rfl
  | false => rw [fif_f h]; exact h2 rfl
theorem sm_ifs (h : ft A = .ok b A1) (h1 : b = true → Sm (fSeq f k A1) Φ p) (h2 : b = false → Sm (fSeq g k A1) Φ q) : Sm (fSeq (fIf ft f g) k A) Φ (if b = true then p else q) := by
  cases b with
  | true =>
    have := h1 rfl
    unfold fSeq at this ⊢
    rw [fif_t h]; exact this
  | false =>
    have := h2 rfl
    unfold fSeq at this ⊢
    rw [fif_f h]; exact this
theorem fSeq_assoc : fSeq (fSeq f g) k A = fSeq f (fSeq g k) A := by
  unfold fSeq
  cases f A with
  | ok r A1 => cases r <;> rfl
  | exc _ _ => rfl
  | stuck => rfl
theorem sm_as (h : Sm (fSeq f (fSeq g k) A) Φ p) : Sm (fSeq (fSeq f g) k A) Φ p := by rw [fSeq_assoc]; exact h
theorem sm_skip (h : Sm (k A) Φ p) : Sm (fSeq fNext k A) Φ p := sm_n rfl h
theorem sm_last (h : Sm (fSeq f fNext A) Φ p) : Sm (f A) Φ p := by
  have e : fSeq f fNext A = f A := by
    unfold fSeq
    cases f A with
    | ok r A1 => cases r <;> rfl
    | exc _ _ => rfl
    | stuck => rfl
  rw [← e]; exact h
theorem sm_end {t : T} (h : Φ t (.ok .next A)) : Sm (fNext A) Φ (some t) := fun t' e => by cases e; exact h
theorem sm_cont {t : T} (h : Φ t (.ok .cont A)) : Sm (fSeq fCont k A) Φ (some t) := fun t' e => by cases e; exact h
theorem sm_brk {t : T} (h : Φ t (.ok .brk A)) : Sm (fSeq fBrk k A) Φ (some t) := fun t' e => by cases e; exact h
theorem sm_ret {t : T} {d : D} (h : fRet fe A = .ok (.ret d) A1) (hp : Φ t (.ok (.ret d) A1)) : Sm (fSeq (fRet fe) k A) Φ (some t) := fun t' e => by
  cases e
  unfold fSeq
  rw [h]; exact hp
theorem sm_exc {t : T} {c : Str} (h : f A = .exc c A1) (hp : Φ t (.exc c A1)) : Sm (fSeq f k A) Φ (some t) := fun t' e => by
  cases e
  unfold fSeq
  rw [h]; exact hp
/-! what is asked of a block's end -/
def ΦS (Rg : S → Sl → Prop) : S → Ou Fl → Prop := fun s o => ∃ A', o = .ok .next A' ∧ Rg s A'
def ΦC (Rg : S → Sl → Prop) : S → Ou Fl → Prop := fun s o => ∃ A', (o = .ok .next A' ∨ o = .ok .cont A') ∧ Rg s A'
def ΦP (Rg : S → Sl → Prop) (RR : R → Ou Fl → Prop) : Stp S R → Ou Fl → Prop := fun r o => match r with
  | .go s => ∃ A', (o = .ok .next A' ∨ o = .ok .cont A') ∧ Rg s A'
  | .brk s => ∃ A', o = .ok .brk A' ∧ Rg s A'
  | .ret r => RR r o
/-- a return of r -/
def RS (e : R → D) : R → Ou Fl → Prop := fun r o => ∃ A', o = .ok (.ret (e r)) A'
/-- a return, or a raise -/
def RX (e : R → D) : Except Str R → Ou Fl → Prop := fun r o => match r with
  | .ok v => ∃ A', o = .ok (.ret (e v)) A'
  | .error c => ∃ A', o = .exc c A'
/-- .. or the def's end -/
def RF (e : R → D) : R → Ou Fl → Prop := fun r o => (∃ A', o = .ok (.ret (e r)) A') ∨ ∃ A', o = .ok .next A' ∧ e r = .non
def RXF (e : R → D) : Except Str R → Ou Fl → Prop := fun r o => RX e r o ∨ ∃ A' v, o = .ok .next A' ∧ r = .ok v ∧ e v = .non
def Ex (o : Ou Fl) : Prop := (∃ d A', o = .ok (.ret d) A') ∨ ∃ c A', o = .exc c A'
theorem rs_ex {e : R → D} (r : R) (o : Ou Fl) (h : RS e r o) : Ex o := let ⟨A', h⟩ := h; .inl ⟨_, A', h⟩
theorem rx_ex {e : R → D} (r : Except Str R) (o : Ou Fl) (h : RX e r o) : Ex o := by
  cases r with
  | ok v => obtain ⟨A', h⟩ := h; exact .inl ⟨_, A', h⟩
  | error c => obtain ⟨A', h⟩ := h; exact .inr ⟨_, A', h⟩
theorem rs_rf {e : R → D} (r : R) (o : Ou Fl) (h : RS e r o) : RF e r o := .inl h
theorem rx_rxf {e : R → D} (r : Except Str R) (o : Ou Fl) (h : RX e r o) : RXF e r o := .inl h
variable {Rg : S → Sl → Prop} {RR : R → Ou Fl → Prop}
theorem sm_endS {s : S} (h : Rg s A) : Sm (fNext A) (ΦS Rg) (some s) := sm_end ⟨A, rfl, h⟩
theorem sm_endC {s : S} (h : Rg s A) : Sm (fNext A) (ΦC Rg) (some s) := sm_end ⟨A, .inl rfl, h⟩
theorem sm_endP {s : S} (h : Rg s A) : Sm (fNext A) (ΦP Rg RR) (some (.go s)) := sm_end ⟨A, .inl rfl, h⟩
theorem sm_contC {s : S} (h : Rg s A) : Sm (fSeq fCont k A) (ΦC Rg) (some s) := sm_cont ⟨A, .inr rfl, h⟩
theorem sm_contP {s : S} (h : Rg s A) : Sm (fSeq fCont k A) (ΦP Rg RR) (some (.go s)) := sm_cont ⟨A, .inr rfl, h⟩
theorem sm_brkP {s : S} (h : Rg s A) : Sm (fSeq fBrk k A) (ΦP Rg RR) (some (.brk s)) := sm_brk ⟨A, rfl, h⟩
theorem sm_retF {e : R → D} {r : R} (h : fRet fe A = .ok (.ret (e r)) A1) : Sm (fSeq (fRet fe) k A) (RF e) (some r) := sm_ret h (.inl ⟨A1, rfl⟩)
theorem sm_retP {e : R → D} {r : R} (h : fRet fe A = .ok (.ret (e r)) A1) : Sm (fSeq (fRet fe) k A) (ΦP Rg (RS e)) (some (.ret r)) := sm_ret h ⟨A1, rfl⟩
theorem sm_retXF {e : R → D} {r : R} (h : fRet fe A = .ok (.ret (e r)) A1) : Sm (fSeq (fRet fe) k A) (RXF e) (some (.ok r)) := sm_ret h (.inl ⟨A1, rfl⟩)
theorem sm_retXP {e : R → D} {r : R} (h : fRet fe A = .ok (.ret (e r)) A1) : Sm (fSeq (fRet fe) k A) (ΦP Rg (RX e)) (some (.ret (.ok r))) := sm_ret h ⟨A1, rfl⟩
theorem sm_excXF {e : R → D} {c : Str} (h : f A = .exc c A1) : Sm (fSeq f k A) (RXF e) (some (.error c)) := sm_exc h (.inl ⟨A1, rfl⟩)
theorem sm_excXP {e : R → D} {c : Str} (h : f A = .exc c A1) : Sm (fSeq f k A) (ΦP Rg (RX e)) (some (.ret (.error c))) := sm_exc h ⟨A1, rfl⟩
theorem sm_endF {e : R → D} {r : R} (h : e r = .non) : Sm (fNext A) (RF e) (some r) := sm_end (.inr ⟨A, rfl, h⟩)
theorem sm_endXF {e : R → D} {r : R} (h : e r = .non) : Sm (fNext A) (RXF e) (some (.ok r)) := sm_end (.inr ⟨A, r, rfl, rfl, h⟩)
theorem sm_seqS {x : Option S} {kk : S → Option T} (h : Sm (f A) (ΦS Rg) x) (hk : ∀ s A', Rg s A' → Sm (k A') Φ (kk s)) : Sm (fSeq f k A) Φ (x.bind kk) := fun t e => by
  cases hx : x with
  | none => rw [hx] at e; cases e
  | some s =>
    rw [hx] at e
    obtain ⟨A', h1, h2⟩ := h s hx
    rw [seq_next h1]
    exact hk s A' h2 t e
theorem forS_ok {tg : Tg} {fb : FS} {e : α → D} {body : α → S → Option S} : ∀ (xs : List α) (s0 : S) (A : Sl), Rg s0 A → (∀ x s A, Rg s A → ∃ A2, tg.set (e x) A = some A2 ∧ Sm (fb A2) (ΦC Rg) (body x s)) → ∀ s, forS body xs s0 = some s → ∃ A', forL tg fb (xs.map e) A = .ok .next A' ∧ Rg s A'
  | [], s0, A, h0, _, s, h => by cases h; exact ⟨A, rfl, h0⟩
  | x :: xs, s0, A, h0, hb, s, h => by
    obtain ⟨A2, h1, h2⟩ := hb x s0 A h0
    unfold forS at h
    cases hx : body x s0 with
    | none => rw [hx] at h; cases h
    | some s1 =>
      rw [hx] at h
      obtain ⟨A3, h3, h4⟩ := h2 s1 hx
      obtain ⟨A', h5, h6⟩ := forS_ok xs s1 A3 h4 hb s h
      refine ⟨A', ?_, h6⟩
      rw [List.map_cons]
      unfold forL
      rw [h1]
      rcases h3 with h3 | h3 <;> simp only [h3] <;> exact h5
theorem sm_forS {fi : FI} {tg : Tg} {fb : FS} {e : α → D} {body : α → S → Option S} {xs : List α} {s0 : S} {kk : S → Option T} (Rg : S → Sl → Prop) (hi : fi A = .ok (xs.map e) A0) (h0 : Rg s0 A0) (hb : ∀ x s A, Rg s A → ∃ A2, tg.set (e x) A = some A2 ∧ Sm (fb A2) (ΦC Rg) (body x s))
    (hk : ∀ s A', Rg s A' → Sm (k A') Φ (kk s)) : Sm (fSeq (fFor fi tg fb) k A) Φ ((forS body xs s0).bind kk) := by
  refine sm_seqS (Rg := Rg) (fun s hs => ?_) hk
  obtain ⟨A', h1, h2⟩ := forS_ok xs s0 A0 h0 hb s hs
  refine ⟨A', ?_, h2⟩
  unfold fFor
  rw [hi]; exact h1
theorem forP_ok {tg : Tg} {fb : FS} {e : α → D} {body : α → S → Option (Stp S R)} (hx : ∀ r o, RR r o → Ex o) : ∀ (xs : List α) (s0 : S) (A : Sl), Rg s0 A → (∀ x s A, Rg s A → ∃ A2, tg.set (e x) A = some A2 ∧ Sm (fb A2) (ΦP Rg RR) (body x s)) → ∀ s, forP body xs s0 = some s → match s with
    | .inl s => ∃ A', forL tg fb (xs.map e) A = .ok .next A' ∧ Rg s A'
    | .inr r => RR r (forL tg fb (xs.map e) A)
  | [], s0, A, h0, _, s, h => by cases h; exact ⟨A, rfl, h0⟩
  | x :: xs, s0, A, h0, hb, s, h => by
    obtain ⟨A2, h1, h2⟩ := hb x s0 A h0
    unfold forP at h
    rw [List.map_cons]
    unfold forL
    simp only [h1]
    cases hb1 : body x s0 with
    | none => rw [hb1] at h; cases h
    | some r =>
      rw [hb1] at h
      have h3 := h2 r hb1
      cases r with
      | go s1 =>
        obtain ⟨A3, h3, h4⟩ := h3
        have h5 := forP_ok hx xs s1 A3 h4 hb s h
        rcases h3 with h3 | h3 <;> simp only [h3] <;> exact h5
      | brk s1 =>
        obtain ⟨A3, h3, h4⟩ := h3
        cases h
        simp only [h3]
        exact ⟨A3, rfl, h4⟩
      | ret r =>
        cases h
        have h3 : RR r (fb A2) := h3
        have h4 := hx r _ h3
        rcases h4 with ⟨d, A', h4⟩ | ⟨c, A', h4⟩ <;> rw [h4] at h3 <;> simp only [h4] <;> exact h3
theorem sm_forP {fi : FI} {tg : Tg} {fb : FS} {e : α → D} {body : α → S → Option (Stp S R)} {xs : List α} {s0 : S} {kk : S → Option T} {kr : R → T} (Rg : S → Sl → Prop) (RR : R → Ou Fl → Prop) (hi : fi A = .ok (xs.map e) A0) (h0 : Rg s0 A0) (hb : ∀ x s A, Rg s A → ∃ A2, tg.set (e x) A = some A2 ∧ Sm (fb A2) (ΦP Rg RR) (body x s))
    (hx : ∀ r o, RR r o → Ex o) (hr : ∀ r o, RR r o → Φ (kr r) o) (hk : ∀ s A', Rg s A' → Sm (k A') Φ (kk s)) : Sm (fSeq (fFor fi tg fb) k A) Φ ((forP body xs s0).bind fun z => z.elim kk fun r => some (kr r)) := fun t et => by
  cases hs : forP body xs s0 with
  | none => rw [hs] at et; cases et
  | some z =>
    rw [hs] at et
    have h1 := forP_ok hx xs s0 A0 h0 hb z hs
    have e : fFor fi tg fb A = forL tg fb (xs.map e) A0 := by unfold fFor; rw [hi]; rfl
    cases z with
    | inl s =>
      obtain ⟨A', h1, h2⟩ := h1
      rw [seq_next (e.trans h1)]
      exact hk s A' h2 t et
    | inr r =>
      cases et
      have h1 : RR r (forL tg fb (xs.map _) A0) := h1
      rw [← e] at h1
      have h2 := hr r _ h1
      rcases hx r _ h1 with ⟨d, A', h4⟩ | ⟨c, A', h4⟩
      · rw [h4] at h2
        unfold fSeq
        rw [h4]; exact h2
      · rw [h4] at h2
        unfold fSeq
        rw [h4]; exact h2
theorem whileS_ok {ft : FT} {fb : FS} {c : S → Option Bool} {body : S → Option S} (hc : ∀ s A b, Rg s A → c s = some b → ft A = .ok b A) (hb : ∀ s A, Rg s A → c s = some true → Sm (fb A) (ΦC Rg) (body s)) : ∀ (n : Nat) (s0 : S) (A : Sl), Rg s0 A → ∀ s, whileS c body n s0 = some s → ∃ A', whileN ft fb n A = .ok .next A' ∧ Rg s A'
  | 0, s0, A, _, s, h => by cases h
  | n + 1, s0, A, h0, s, h => by
    unfold whileS at h
    cases hc1 : c s0 with
    | none => rw [hc1] at h; cases h
    | some b =>
      rw [hc1] at h
      have e1 := hc s0 A b h0 hc1
      unfold whileN
      cases b with
      | false => cases h; simp only [e1]; exact ⟨A, rfl, h0⟩
      | true =>
        have h : (body s0).bind (fun s' => whileS c body n s') = some s := h
        cases hx : body s0 with
        | none => rw [hx] at h; cases h
        | some s1 =>
          rw [hx] at h
          obtain ⟨A3, h3, h4⟩ := hb s0 A h0 hc1 s1 hx
          have h5 := whileS_ok hc hb n s1 A3 h4 s h
          simp only [e1]
          rcases h3 with h3 | h3 <;> simp only [h3] <;> exact h5
theorem sm_whileS {ft : FT} {fb : FS} {n : Nat} {c : S → Option Bool} {body : S → Option S} {s0 : S} {kk : S → Option T} (Rg : S → Sl → Prop) (h0 : Rg s0 A) (hc : ∀ s A b, Rg s A → c s = some b → ft A = .ok b A) (hb : ∀ s A, Rg s A → c s = some true → Sm (fb A) (ΦC Rg) (body s))
    (hk : ∀ s A', Rg s A' → Sm (k A') Φ (kk s)) : Sm (fSeq (fWhile n ft fb) k A) Φ ((whileS c body n s0).bind kk) := by
  refine sm_seqS (Rg := Rg) (fun s hs => ?_) hk
  exact whileS_ok hc hb n s0 A h0 s hs
end
/-! ### expressions: nested needs -/
theorem se_need {x : Option α} {k : α → Option β} {c : β} {P : Prop} (h : ∀ v, x = some v → k v = some c → P) (e : x.bind k = some c) : P := by
  cases hx : x with
  | none => rw [hx] at e; cases e
  | some v => rw [hx] at e; exact h v hx e
theorem se_some {t c : β} {P : β → Prop} (h : P t) (e : some t = some c) : P c := by cases e; exact h
section
variable {A A1 A2 A0 : Sl} {fe fa fb : FE} {ft fu : FT} {fl : FA} {d e r : D} {ds es : List D}
theorem ev_andO {a c : Bool} {q : Option Bool} (h : fa A = .ok (.bl a) A1) (e : (if a = true then q else some false) = some c) (k : a = true → q = some c → fb A1 = .ok (.bl c) A1) : fAndV fa fb A = .ok (.bl c) A1 := by
  unfold fAndV; rw [h]; simp only [Ou.bind_ok]
  cases a with
  | true => rw [if_pos rfl] at e ⊢; exact k rfl e
  | false => cases e; rfl
theorem ev_orO {a c : Bool} {q : Option Bool} (h : fa A = .ok (.bl a) A1) (e : (if a = true then some true else q) = some c) (k : a = false → q = some c → fb A1 = .ok (.bl c) A1) : fOrV fa fb A = .ok (.bl c) A1 := by
  unfold fOrV; rw [h]; simp only [Ou.bind_ok]
  cases a with
  | true => cases e; rfl
  | false => exact k rfl e
theorem ev_tandO {a c : Bool} {q : Option Bool} (h : ft A = .ok a A1) (e : (if a = true then q else some false) = some c) (k : a = true → q = some c → fu A1 = .ok c A1) : fAnd ft fu A = .ok c A1 := by
  unfold fAnd; rw [h]; simp only [Ou.bind_ok]
  cases a with
  | true => rw [if_pos rfl] at e ⊢; exact k rfl e
  | false => cases e; rfl
theorem ev_torO {a c : Bool} {q : Option Bool} (h : ft A = .ok a A1) (e : (if a = true then some true else q) = some c) (k : a = false → q = some c → fu A1 = .ok c A1) : fOr ft fu A = .ok c A1 := by
  unfold fOr; rw [h]; simp only [Ou.bind_ok]
  cases a with
  | true => cases e; rfl
  | false => exact k rfl e
/-! operators under a check -/
theorem gMul_o {a b v : Int} (h : mulO a b = some v) : gMulA (.int a) (.int b) A = some (.int v) := by
  unfold mulO at h
  split at h
  · rename_i q; cases h; unfold gMulA; simp only [q, if_true]
  · cases h
theorem gDiv_o {a b v : Int} (h : divO a b = some v) : gDiv (.int a) (.int b) A = some (.int v) := by
  unfold divO at h
  split at h
  · rename_i q; cases h; exact gDiv_ok q.1 q.2
  · cases h
theorem gMod_o {a b v : Int} (h : modO a b = some v) : gMod (.int a) (.int b) A = some (.int v) := by
  unfold modO at h
  split at h
  · rename_i q; cases h; exact gMod_ok q
  · cases h
theorem gMul_cl {a b : Int} (h : a.natAbs < 18446744073709551616) : gMulA (.int a) (.int b) A = some (.int (a * b)) := gMul_l (by omega)
theorem gMul_cr {a b : Int} (h : b.natAbs < 18446744073709551616) : gMulA (.int a) (.int b) A = some (.int (a * b)) := gMul_r (by omega)
theorem atI_map {e : α → D} {xs : List α} {i : Int} {v : α} (h : atI xs i = some v) : atI (xs.map e) i = some (e v) := by
  unfold atI at h ⊢
  rw [List.length_map]
  cases hi : ixN xs.length i with
  | none => rw [hi] at h; cases h
  | some j =>
    rw [hi] at h
    show (xs.map e)[j]? = _
    rw [List.getElem?_map, show xs[j]? = some v from h]; rfl
theorem gIx_o {e : α → D} {xs : List α} {i : Int} {v : α} (hs : sqOf (see A d) = some (xs.map e)) (h : atI xs i = some v) (hf : isF (e v) = true) : gIx d (.int i) A = some (e v) := gIx_at hs (atI_map h) hf
theorem gIx_str {x : Str} {i : Int} {c : Nat} (hs : see A d = .str x) (hl : x.length ≤ sizeLine) (h : atI x.cps.toList i = some c) : gIx d (.int i) A = some (.str ⟨#[c]⟩) := by
  unfold gIx
  simp only [hs, hl, if_true, h, Option.map_some]
theorem gAdd_tupO {e : α → D} {xs ys v : List α} (hs : see A d = .tup (xs.map e)) (ht : see A r = .tup (ys.map e)) (h : catO xs ys = some v) (hf : ∀ x, isF (e x) = true) : gAdd d r A = some (.tup (v.map e)) := by
  have fs : ∀ zs : List α, isFs (zs.map e) = true := fun zs => by rw [isFs_all]; simp [hf]
  unfold catO at h
  split at h
  · rename_i q; cases h
    unfold gAdd
    simp only [hs, ht, fs, List.length_map, q, and_self, if_true, List.map_append]
  · cases h
theorem gAdd_lstO {e : α → D} {xs ys v : List α} (hs : exOf (see A d) = some (xs.map e)) (ht : exOf (see A r) = some (ys.map e)) (h : catO xs ys = some v) (hf : ∀ x, isF (e x) = true) : gAdd d r A = some (.mu (v.map e)) := by
  have fs : ∀ zs : List α, isFs (zs.map e) = true := fun zs => by rw [isFs_all]; simp [hf]
  unfold catO at h
  split at h
  · rename_i q; cases h
    rw [gAdd_lst hs ht (fs _) (fs _) (by simpa using q), List.map_append]
  · cases h
theorem flatten_map_rep {e : α → D} (xs : List α) (n : Nat) : (List.replicate n (xs.map e)).flatten = ((List.replicate n xs).flatten).map e := by
  rw [List.map_flatten, List.map_replicate]
theorem gMul_repO {e : α → D} {xs v : List α} {k : Int} (hs : exOf (see A d) = some (xs.map e)) (h : repO xs k = some v) (hf : ∀ x, isF (e x) = true) (hd : ∀ i, d ≠ .int i) : gMulA d (.int k) A = some (.mu (v.map e)) := by
  have fs : ∀ zs : List α, isFs (zs.map e) = true := fun zs => by rw [isFs_all]; simp [hf]
  unfold repO at h
  split at h
  · rename_i q; cases h
    have e62 : (2 : Nat) ^ 62 = 4611686018427387904 := by decide
    unfold gMulA
    split
    · rename_i i j; exact absurd rfl (hd _)
    · rename_i k' hh heq
      cases heq
      rw [hs]
      simp only [fs, List.length_map, e62, q, and_self, if_true, flatten_map_rep]
    · rename_i h1 h2
      first | exact (h1 _ rfl).elim | exact (h2 _ rfl).elim | simp_all
  · cases h
/-! == and in, whatever is owned -/
/-- e tells the same data as the known e' -/
def Dt (e e' : α → D) : Prop := ∀ x, dat (e x) = dat (e' x)
theorem dt_rfl {e : α → D} : Dt e e := fun _ => rfl
theorem dats_congr {e e' : α → D} (h : Dt e e') : ∀ xs : List α, dats (xs.map e) = dats (xs.map e')
  | [] => rfl
  | x :: xs => by rw [List.map_cons, List.map_cons, dats, dats, h x, dats_congr h xs]
theorem dt_M {e e' : α → D} (h : Dt e e') : Dt (eM e) (eL e') := fun xs => by rw [dat, dat, dats_congr h]
theorem dt_L {e e' : α → D} (h : Dt e e') : Dt (eL e) (eL e') := fun xs => by rw [dat, dat, dats_congr h]
theorem dt_T {e e' : α → D} (h : Dt e e') : Dt (eT e) (eT e') := fun xs => by rw [dat, dat, dats_congr h]
theorem dt_P {e e' : α → D} {f f' : β → D} (h : Dt e e') (h' : Dt f f') : Dt (eP e f) (eP e' f') := fun p => by simp only [dat, dats, h p.1, h' p.2]
theorem gEq_v {α : Type} [DecidableEq α] {e : α → D} {n : Nat} {d d' : D} {x y : α} (k : EncOk e n) (h1 : dat (see A d) = dat (e x)) (h2 : dat (see A d') = dat (e y)) (hn : n ≤ 64 := by decide) : gEq d d' A = some (.bl (decide (x = y))) := by
  have o1 := k.ok hn x
  have o2 := k.ok hn y
  unfold okD at o1 o2
  unfold gEq okD
  simp only [h1, h2, o1, o2, Bool.and_self, if_true, k.eqv]
theorem gNe_v {α : Type} [DecidableEq α] {e : α → D} {n : Nat} {d d' : D} {x y : α} (k : EncOk e n) (h1 : dat (see A d) = dat (e x)) (h2 : dat (see A d') = dat (e y)) (hn : n ≤ 64 := by decide) : gNe d d' A = some (.bl (!decide (x = y))) := by
  have o1 := k.ok hn x
  have o2 := k.ok hn y
  unfold okD at o1 o2
  unfold gNe okD
  simp only [h1, h2, o1, o2, Bool.and_self, if_true, k.eqv]
theorem inB_v {α : Type} [DecidableEq α] {e : α → D} {n : Nat} {d d' : D} {x : α} {ys : List α} (k : EncOk e n) (h1 : dat (see A d) = dat (e x)) (h2 : ∃ es, sqOf (see A d') = some es ∧ dats es = dats (ys.map e)) (hn : n ≤ 63 := by decide) : inB d d' A = some (isIn x ys) := by
  obtain ⟨es, h3, h4⟩ := h2
  have o1 := k.ok (Nat.le_trans hn (by decide)) x
  have l := k.lays ys
  have p := k.deps ys
  have o2 : okD (see A d') = true := by
    unfold okD SeqAt.shaped
    rcases dat_seq h3 with q | q <;> rw [q, PyData.canLay0, h4, l, PyData.depth, Bool.true_and, decide_eq_true_iff] <;> omega
  unfold okD at o1
  unfold inB
  split
  · rename_i z hz; rw [hz] at h3; cases h3
  · rw [h3]
    simp only [o2, Bool.and_true]
    unfold okD
    simp only [h1, o1, if_true, h4, k.any, isIn]
theorem gIn_v {α : Type} [DecidableEq α] {e : α → D} {n : Nat} {d d' : D} {x : α} {ys : List α} (k : EncOk e n) (h1 : dat (see A d) = dat (e x)) (h2 : ∃ es, sqOf (see A d') = some es ∧ dats es = dats (ys.map e)) (hn : n ≤ 63 := by decide) : gIn d d' A = some (.bl (isIn x ys)) := by unfold gIn; rw [inB_v k h1 h2 hn]; rfl
theorem gNotIn_v {α : Type} [DecidableEq α] {e : α → D} {n : Nat} {d d' : D} {x : α} {ys : List α} (k : EncOk e n) (h1 : dat (see A d) = dat (e x)) (h2 : ∃ es, sqOf (see A d') = some es ∧ dats es = dats (ys.map e)) (hn : n ≤ 63 := by decide) : gNotIn d d' A = some (.bl (!isIn x ys)) := by unfold gNotIn; rw [inB_v k h1 h2 hn]; rfl
theorem see_eq {d d' : D} (h : see A d = d') : dat (see A d) = dat d' := by rw [h]
theorem see_dat {e e' : α → D} {x : α} (h : see A d = e x) (t : Dt e e') : dat (see A d) = dat (e' x) := by rw [h]; exact t x
theorem sq_v {e e' : α → D} {xs : List α} (h : sqOf (see A d) = some (xs.map e)) (t : Dt e e') : ∃ es, sqOf (see A d) = some es ∧ dats es = dats (xs.map e') := ⟨_, h, dats_congr t xs⟩
/-! a call's arguments -/
def Args (ds : List D) (A : Sl) (es : List D) (A2 : Sl) : Prop := ∃ es', closeL ds A = some (es', A2) ∧ fzs es' = es
theorem ar_nil : Args [] A [] A := ⟨[], rfl, by rw [fzs]⟩
theorem closeL_nal {d : D} {ds es : List D} {A2 : Sl} (hd : ∀ i, d ≠ .al i) (h : closeL ds A = some (es, A2)) : closeL (d :: ds) A = some (d :: es, A2) := by
  unfold closeL
  rw [h]
  cases d <;> first | rfl | exact absurd rfl (hd _)
theorem ar_F {d : D} {ds es : List D} {A2 : Sl} (hf : isF d = true) (r : Args ds A es A2) : Args (d :: ds) A (d :: es) A2 := by
  obtain ⟨es', h1, h2⟩ := r
  exact ⟨d :: es', closeL_nal (isF_al hf) h1, by rw [fzs, fz_isF hf, h2]⟩
theorem ar_M {d d' : D} {ds es : List D} {A2 : Sl} (hd : ∀ i, d ≠ .al i) (hz : fz d = d') (r : Args ds A es A2) : Args (d :: ds) A (d' :: es) A2 := by
  obtain ⟨es', h1, h2⟩ := r
  exact ⟨d :: es', closeL_nal hd h1, by rw [fzs, hz, h2]⟩
theorem ar_al {i : Nat} {t d' : D} {ds es : List D} {A2 : Sl} (h : A[i]? = some (some t)) (hz : fz t = d') (hz2 : fz d' = d') (r : Args ds (A.set i (some d')) es A2) : Args (.al i :: ds) A (d' :: es) A2 := by
  obtain ⟨es', h1, h2⟩ := r
  refine ⟨d' :: es', ?_, by rw [fzs, hz2, h2]⟩
  unfold closeL
  simp only [h, hz, h1]
theorem ev_fcall {F : List D → Ro} (h1 : fl A = .ok ds A1) (h2 : Args ds A1 es A2) (h3 : F es = .ok r) (hs : isScal r = false) : fCall F fl A = .ok r A2 := by
  obtain ⟨es', h4, h5⟩ := h2
  unfold fCall; rw [h1]; simp only [Ou.bind_ok, h4, h5, h3, hs, Bool.false_eq_true, if_false]
theorem ev_fcallS {F : List D → Ro} (h1 : fl A = .ok ds A1) (h2 : Args ds A1 es A2) (h3 : F es = .ok r) (hs : isScal r = true) : fCall F fl A = .ok r A1 := by
  obtain ⟨es', h4, h5⟩ := h2
  unfold fCall; rw [h1]; simp only [Ou.bind_ok, h4, h5, h3, hs, if_true]
/-- where the slots stay whatever comes -/
theorem ev_fcallN {F : List D → Ro} (h1 : fl A = .ok ds A1) (h2 : Args ds A1 es A1) (h3 : F es = .ok r) : fCall F fl A = .ok r A1 := by
  obtain ⟨es', h4, h5⟩ := h2
  unfold fCall; rw [h1]; simp only [Ou.bind_ok, h4, h5, h3]; split <;> rfl
theorem ex_fcall {F : List D → Ro} {c : Str} (h1 : fl A = .ok ds A1) (h2 : Args ds A1 es A2) (h3 : F es = .exc c) : fCall F fl A = .exc c A1 := by
  obtain ⟨es', h4, h5⟩ := h2
  unfold fCall; rw [h1]; simp only [Ou.bind_ok, h4, h5, h3]
/-! displays with what is owned -/
def Cls (ds : List D) (A : Sl) (es : List D) (A2 : Sl) : Prop := closeL ds A = some (es, A2)
theorem cl_nil : Cls [] A [] A := rfl
theorem cl_N {d : D} {ds es : List D} {A2 : Sl} (hd : ∀ i, d ≠ .al i) (r : Cls ds A es A2) : Cls (d :: ds) A (d :: es) A2 := closeL_nal hd r
theorem cl_al {i : Nat} {t d' : D} {ds es : List D} {A2 : Sl} (h : A[i]? = some (some t)) (hz : fz t = d') (r : Cls ds (A.set i (some d')) es A2) : Cls (.al i :: ds) A (d' :: es) A2 := by
  have r : closeL ds (A.set i (some d')) = some (es, A2) := r
  show closeL _ _ = _
  unfold closeL
  simp only [h, hz, r]
theorem ev_tupG (h1 : fl A = .ok ds A1) (h2 : Cls ds A1 es A2) (h3 : es.length ≤ sizeLine) : fTup fl A = .ok (.tup es) A2 := by
  have h2 : closeL ds A1 = some (es, A2) := h2
  unfold fTup; rw [h1]; simp only [Ou.bind_ok]; rw [h2]; simp only [h3, if_true]
theorem ev_lstG (h1 : fl A = .ok ds A1) (h2 : Cls ds A1 es A2) (h3 : es.length ≤ sizeLine) : fLst fl A = .ok (.mu es) A2 := by
  have h2 : closeL ds A1 = some (es, A2) := h2
  unfold fLst; rw [h1]; simp only [Ou.bind_ok]; rw [h2]; simp only [h3, if_true]
/-! freezing -/
def Fz (e e' : α → D) : Prop := ∀ x, fz (e x) = e' x
theorem fzs_congr {e e' : α → D} (h : Fz e e') : ∀ xs : List α, fzs (xs.map e) = xs.map e'
  | [] => by simp [fzs]
  | x :: xs => by rw [List.map_cons, List.map_cons, fzs, h x, fzs_congr h xs]
theorem fz_M {e e' : α → D} (h : Fz e e') : Fz (eM e) (eL e') := fun xs => by rw [fz, fzs_congr h]
theorem fz_T {e e' : α → D} (h : Fz e e') : Fz (eT e) (eT e') := fun xs => by rw [fz, fzs_congr h]
theorem fz_P {e e' : α → D} {f f' : β → D} (h : Fz e e') (h' : Fz f f') : Fz (eP e f) (eP e' f') := fun p => by
  show fz (.tup [e p.1, f p.2]) = .tup [e' p.1, f' p.2]
  rw [fz, fzs, fzs, fzs, h, h']
theorem fz_Q {e e' : α → D} {f f' : β → D} {g g' : γ → D} (h : Fz e e') (h' : Fz f f') (h2 : Fz g g') : Fz (fun v : α × β × γ => .tup [e v.1, f v.2.1, g v.2.2]) (fun v => .tup [e' v.1, f' v.2.1, g' v.2.2]) := fun p => by
  show fz (.tup [_, _, _]) = .tup [_, _, _]
  rw [fz, fzs, fzs, fzs, fzs, h, h', h2]
theorem fz_F {α : Type} [DecidableEq α] {e : α → D} {n : Nat} (k : EncOk e n) : Fz e e := fun x => fz_isF (k.f x)
/-! slots -/
theorem ev_asgM_t {i : Nat} {d : D} (h : fe A = .ok d A1) (hd : ∀ j, d ≠ .al j) : fAsgM i fe A = .ok .next (A1.set i (some d)) := by
  unfold fAsgM; rw [h]
  cases d <;> first | rfl | exact absurd rfl (hd _)
theorem ev_asgM_al {i j : Nat} {t : D} (h0 : fe A = .ok (.al j) A1) (h : A1[j]? = some (some t)) : fAsgM i fe A = .ok .next ((A1.set j none).set i (some t)) := by
  unfold fAsgM
  rw [h0]
  simp only [Ou.bind_ok, h]
theorem ev_asg_al {i j : Nat} {t d' : D} (h0 : fe A = .ok (.al j) A1) (h : A1[j]? = some (some t)) (hz : fz t = d') : fAsg i fe A = .ok .next ((A1.set j (some d')).set i (some d')) := by
  unfold fAsg
  rw [h0]
  simp only [Ou.bind_ok, closeD, h, hz]
theorem ev_asgF_alG {i j : Nat} {t d' : D} (h0 : fe A = .ok (.al j) A1) (h : A1[j]? = some (some t)) (hz : fz t = d') (hz2 : fz d' = d') : fAsgF i fe A = .ok .next ((A1.set j (some d')).set i (some d')) := by
  unfold fAsgF
  rw [h0]
  simp only [Ou.bind_ok, closeD, h, hz, hz2]
theorem ev_asgF_G {i : Nat} {d d' : D} (h : fe A = .ok d A1) (hd : ∀ j, d ≠ .al j) (hz : fz d = d') : fAsgF i fe A = .ok .next (A1.set i (some d')) := by
  have ec : closeD d A1 = some (d, A1) := by unfold closeD; cases d <;> first | rfl | exact absurd rfl (hd _)
  unfold fAsgF; rw [h]; simp only [Ou.bind_ok, ec, hz]
theorem ev_ret_alG {j : Nat} {t : D} (h0 : fe A = .ok (.al j) A1) (h : A1[j]? = some (some t)) : fRet fe A = .ok (.ret t) (A1.set j none) := by
  unfold fRet
  rw [h0]
  simp only [Ou.bind_ok, h]
theorem closeD_na {d : D} (hd : ∀ j, d ≠ .al j) : closeD d A = some (d, A) := by unfold closeD; cases d <;> first | rfl | exact absurd rfl (hd _)
theorem ev_appO {i : Nat} {e : α → D} {xs v : List α} {x : α} (hs : A[i]? = some (some (.mu (xs.map e)))) (h : fe A = .ok (e x) A1) (hs1 : A1[i]? = some (some (.mu (xs.map e)))) (hd : ∀ j, e x ≠ .al j) (ha : appO xs x = some v) : fApp i fe A = .ok .non (A1.set i (some (.mu (v.map e)))) := by
  have s : slotL i A = some (xs.map e) := by unfold slotL; rw [hs]
  have s1 : slotL i A1 = some (xs.map e) := by unfold slotL; rw [hs1]
  unfold appO at ha
  split at ha
  · rename_i q; cases ha
    unfold fApp
    simp only [s, h, Ou.bind_ok, closeD_na hd, s1, List.length_map, q, if_true, List.map_append]
    rfl
  · cases ha
theorem ev_app_al {i j : Nat} {e : α → D} {xs v : List α} {x : α} {t : D} (hs : A[i]? = some (some (.mu (xs.map e)))) (h : fe A = .ok (.al j) A1) (ht : A1[j]? = some (some t)) (hz : fz t = e x) (hs1 : (A1.set j (some (e x)))[i]? = some (some (.mu (xs.map e)))) (ha : appO xs x = some v) : fApp i fe A = .ok .non ((A1.set j (some (e x))).set i (some (.mu (v.map e)))) := by
  have s : slotL i A = some (xs.map e) := by unfold slotL; rw [hs]
  have s1 : slotL i (A1.set j (some (e x))) = some (xs.map e) := by unfold slotL; rw [hs1]
  unfold appO at ha
  split at ha
  · rename_i q; cases ha
    unfold fApp
    simp only [s, h, Ou.bind_ok, closeD, ht, hz, s1, List.length_map, q, if_true, List.map_append]
    rfl
  · cases ha
theorem ev_extO {i : Nat} {e : α → D} {xs ys v : List α} {d : D} (hs : A[i]? = some (some (.mu (xs.map e)))) (h : fe A = .ok d A1) (hd : ∀ j, d ≠ .al j) (hz : fz d = .lst (ys.map e)) (hs1 : A1[i]? = some (some (.mu (xs.map e)))) (ha : catO xs ys = some v) : fExt i fe A = .ok .non (A1.set i (some (.mu (v.map e)))) := by
  have s : slotL i A = some (xs.map e) := by unfold slotL; rw [hs]
  have s1 : slotL i A1 = some (xs.map e) := by unfold slotL; rw [hs1]
  unfold catO at ha
  split at ha
  · rename_i q; cases ha
    unfold fExt
    simp only [s, h, Ou.bind_ok, closeD_na hd, s1, hz, List.length_map, q, if_true, List.map_append]
  · cases ha
theorem ev_clrO {i : Nat} {es : List D} (hs : A[i]? = some (some (.mu es))) : fClr i A = .ok .non (A.set i (some (.mu []))) := ev_clr hs
theorem ev_setO {i : Nat} {e : α → D} {xs v : List α} {x : α} {fk : FE} {n : Int} (h : fe A = .ok (e x) A1) (hd : ∀ j, e x ≠ .al j) (hs : A1[i]? = some (some (.mu (xs.map e)))) (hk : fk A1 = .ok (.int n) A1) (ha : setO xs n x = some v) : fSetI i fk fe A = .ok .next (A1.set i (some (.mu (v.map e)))) := by
  have s1 : slotL i A1 = some (xs.map e) := by unfold slotL; rw [hs]
  unfold setO at ha
  cases hi : ixN xs.length n with
  | none => rw [hi] at ha; cases ha
  | some j =>
    rw [hi] at ha
    cases ha
    unfold fSetI
    simp only [h, Ou.bind_ok, closeD_na hd, s1, hk, List.length_map, hi, List.map_set]
/-! what is walked -/
theorem ev_rangeO {n : Int} {v : List Int} (h : fe A = .ok (.int n) A1) (hv : rgO n = some v) : fRange fe A = .ok (v.map D.int) A1 := by
  unfold rgO at hv
  split at hv
  · rename_i q; cases hv
    rw [ev_range h q, List.map_map]; rfl
  · cases hv
theorem ev_itF {e : α → D} {xs : List α} (h : fe A = .ok d A1) (hf : isF d = true) (hi : iterOf d = some (xs.map e)) : fIt fe A = .ok (xs.map e) A1 := ev_it h hf hi
theorem ev_itM {d d' : D} {es : List D} (h : fe A = .ok d A1) (hd : ∀ j, d ≠ .al j) (hz : fz d = d') (hi : iterOf d' = some es) : fIt fe A = .ok es A1 := by
  unfold fIt; rw [h]; simp only [Ou.bind_ok, closeD_na hd, hz, hi]
theorem ev_itA {j : Nat} {t d' : D} {es : List D} (h : fe A = .ok (.al j) A1) (ht : A1[j]? = some (some t)) (hz : fz t = d') (hz2 : fz d' = d') (hi : iterOf d' = some es) : fIt fe A = .ok es (A1.set j (some d')) := by
  unfold fIt; rw [h]; simp only [Ou.bind_ok, closeD, ht, hz, hz2, hi]
theorem iter_T {e : α → D} {xs : List α} (hf : ∀ x, isF (e x) = true) : iterOf (.tup (xs.map e)) = some (xs.map e) := by
  show (if isFs (xs.map e) = true then some (xs.map e) else none) = _
  rw [if_pos (by rw [isFs_all]; simp [hf])]
/-! comprehensions -/
theorem compL_R {e : α → D} {e' : β → D} {t : Tg} {c : α → Option Bool} {f : α → Option β} (hn : ∀ y i, e' y ≠ .al i) : ∀ (xs : List α) (acc : List D) (v : List β), acc.length + xs.length ≤ sizeLine → compR c f xs = some v → (∀ x, ∃ A1, t.set (e x) A = some A1 ∧ (∀ b, c x = some b → ft A1 = .ok b A1) ∧ (c x = some true → ∀ y, f x = some y → fe A1 = .ok (e' y) A1) ∧ wipeA A1 t.own = A) →
    compL t ft fe (xs.map e) acc A = .ok (acc ++ v.map e') A
  | [], acc, v, _, h, _ => by cases h; simp [compL]
  | x :: xs, acc, v, hl, h, hs => by
    obtain ⟨A1, h1, h2, h3, h4⟩ := hs x
    rw [List.length_cons] at hl
    rw [List.map_cons]
    unfold compL
    rw [h1]
    unfold compR at h
    cases hc : c x with
    | none => rw [hc] at h; cases h
    | some b =>
      rw [hc] at h
      simp only [h2 b hc]
      cases b with
      | false =>
        have h : compR c f xs = some v := h
        simp only [h4]
        exact compL_R hn xs acc v (by omega) h hs
      | true =>
        have h : (f x).bind (fun y => (compR c f xs).bind fun ys => some (y :: ys)) = some v := h
        cases hf : f x with
        | none => rw [hf] at h; cases h
        | some y =>
          rw [hf] at h
          have h : (compR c f xs).bind (fun ys => some (y :: ys)) = some v := h
          cases hr : compR c f xs with
          | none => rw [hr] at h; cases h
          | some ys =>
            rw [hr] at h
            cases h
            simp only [h3 hc y hf, closeD_na (hn y), h4]
            rw [if_pos (by omega), compL_R hn xs _ ys (by simp; omega) hr hs, List.map_cons, List.append_assoc]
            rfl
theorem ev_compP {e : α → D} {e' : β → D} {fi : FI} {t : Tg} {xs : List α} {c : α → Option Bool} {f : α → Option β} {v : List β} (hi : fi A = .ok (xs.map e) A0) (hv : compP xs c f = some v) (hn : ∀ y i, e' y ≠ .al i) (hs : ∀ x, ∃ A1, t.set (e x) (wipeA A0 t.own) = some A1 ∧ (∀ b, c x = some b → ft A1 = .ok b A1) ∧ (c x = some true → ∀ y, f x = some y → fe A1 = .ok (e' y) A1) ∧ wipeA A1 t.own = wipeA A0 t.own) :
    fComp fi t ft fe A = .ok (.mu (v.map e')) (wipeA (wipeA A0 t.own) t.own) := by
  unfold compP at hv
  split at hv
  · rename_i q
    unfold fComp
    rw [hi]
    simp only [Ou.bind_ok]
    rw [compL_R hn xs [] v (by simpa using q) hv hs]
    simp
  · cases hv
theorem compR_total {c : α → Bool} {f : α → β} : ∀ xs : List α, compR (fun x => some (c x)) (fun x => some (f x)) xs = some ((xs.filter c).map f)
  | [] => rfl
  | x :: xs => by
    unfold compR
    simp only [Option.bind_some, compR_total xs]
    cases h : c x <;> simp [h]
theorem ev_compO {e : α → D} {e' : β → D} {fi : FI} {t : Tg} {xs : List α} {c : α → Bool} {f : α → β} {v : List β} (hi : fi A = .ok (xs.map e) A0) (hv : compO xs c f = some v) (hn : ∀ y i, e' y ≠ .al i) (hs : ∀ x, ∃ A1, t.set (e x) (wipeA A0 t.own) = some A1 ∧ ft A1 = .ok (c x) A1 ∧ (c x = true → fe A1 = .ok (e' (f x)) A1) ∧ wipeA A1 t.own = wipeA A0 t.own) :
    fComp fi t ft fe A = .ok (.mu (v.map e')) (wipeA (wipeA A0 t.own) t.own) := by
  refine ev_compP (c := fun x => some (c x)) (f := fun x => some (f x)) hi ?_ hn fun x => ?_
  · unfold compO at hv
    unfold compP
    split at hv
    · rename_i q; rw [if_pos q, compR_total]; exact hv
    · cases hv
  · obtain ⟨A1, h1, h2, h3, h4⟩ := hs x
    exact ⟨A1, h1, fun b hb => by cases hb; exact h2, fun hc y hy => by cases hy; exact h3 (Option.some.inj hc), h4⟩
/-! a def -/
theorem def_F {e : R → D} {p : Option R} {r : R} {k n : Nat} {fs : FS} (A0 : Sl) (hA : ds.map some ++ List.replicate (n - ds.length) none = A0) (hk : ds.length = k) (hd : ∀ r i, e r ≠ .al i) (hp : p = some r) (h : Sm (fs A0) (RF e) p) : defF k n fs ds = .ok (e r) := by
  have h1 := h r hp
  unfold defF runF
  rw [if_pos hk, hA]
  rcases h1 with ⟨A', h1⟩ | ⟨A', h1, h2⟩
  · rw [h1]
    cases he : e r <;> first | rfl | exact absurd he (hd _ _)
  · rw [h1, h2]
/-- what a def that may raise does -/
def RoX (e : R → D) : Except Str R → Ro → Prop := fun r o => match r with
  | .ok v => o = .ok (e v)
  | .error c => o = .exc c
theorem def_X {e : R → D} {p : Option (Except Str R)} {r : Except Str R} {k n : Nat} {fs : FS} (A0 : Sl) (hA : ds.map some ++ List.replicate (n - ds.length) none = A0) (hk : ds.length = k) (hd : ∀ r i, e r ≠ .al i) (hp : p = some r) (h : Sm (fs A0) (RXF e) p) : RoX e r (defF k n fs ds) := by
  have h1 := h r hp
  unfold defF runF
  rw [if_pos hk, hA]
  rcases h1 with h1 | ⟨A', v, h1, rfl, h2⟩
  · cases r with
    | ok v =>
      obtain ⟨A', h1⟩ := h1
      rw [h1]
      show (_ : Ro) = _
      cases he : e v <;> first | rfl | exact absurd he (hd _ _)
    | error c =>
      obtain ⟨A', h1⟩ := h1
      rw [h1]
      rfl
  · rw [h1]
    show (_ : Ro) = _
    rw [h2]
end
end
end Ab
end
section
/-! typed data: more encoders and what the built-ins do with them -/
namespace Ab
open PySem L2
theorem sm_nl {α T : Type} {f k : FS} {A : Sl} {Φ : T → Ou Fl → Prop} {t : α} {p : α → Option T} (A1 : α → Sl) (h : f A = .ok .next (A1 t)) (hk : ∀ x, Sm (k (A1 x)) Φ (p x)) : Sm (fSeq f k A) Φ ((some t).bind p) := by
  rw [seq_next h]; exact hk t
theorem of_bind {α β : Type} {x : Option α} {k : α → Option β} {c : β} (h : x.bind k = some c) : ∃ v, x = some v ∧ k v = some c := by
  cases x with
  | none => cases h
  | some v => exact ⟨v, rfl, h⟩
theorem if_some {p : Prop} [Decidable p] {v : Unit} (h : (if p then some () else none : Option Unit) = some v) : p := by
  by_cases q : p
  · exact q
  · rw [if_neg q] at h; cases h
/-! ### encoders -/
section
variable {α β γ δ : Type} [DecidableEq α] [DecidableEq β] [DecidableEq γ] [DecidableEq δ] {e : α → D} {e1 : β → D} {e2 : γ → D} {e3 : δ → D} {n m : Nat}
theorem enc_up (h : EncOk e n) (k : n ≤ m) : EncOk e m := ⟨h.f, h.lay, fun x => Nat.le_trans (h.dep x) k, h.eqv⟩
theorem enc_bl : EncOk D.bl 0 := ⟨fun _ => by simp [isF], fun _ => by simp [dat, PyData.canLay0], fun _ => by simp [dat, PyData.depth], fun x y => by
  rw [dat, dat, PyData.eqv]
  cases x <;> cases y <;> rfl⟩
theorem enc_non : EncOk (fun _ : Unit => D.non) 0 := ⟨fun _ => by simp [isF], fun _ => by simp [dat, PyData.canLay0], fun _ => by simp [dat, PyData.depth], fun x y => by
  rw [dat, PyData.eqv]
  simp⟩
theorem enc_fro (h : EncOk e n) : EncOk (fun xs : List α => D.fro (xs.map e)) (n + 1) where
  f := fun xs => by simp [isF]
  lay := fun xs => by rw [dat, PyData.canLay0]; exact h.lays xs
  dep := fun xs => by rw [dat, PyData.depth]; have := h.deps xs; omega
  eqv := fun xs ys => by rw [dat, dat, PyData.eqv]; exact h.eqvs xs ys
theorem enc_P0 : EncOk (fun _ : Unit => D.tup []) 1 where
  f := fun p => by simp [isF, isFs]
  lay := fun p => by simp [dat, dats, PyData.canLay0, PyData.canLayAll0]
  dep := fun p => by simp [dat, dats, PyData.depth, PyData.depthAll]
  eqv := fun p q => by simp [dat, dats, PyData.eqv, PyData.eqvAll]
theorem enc_P1 (h : EncOk e n) : EncOk (fun v : α => D.tup [e v]) (n + 1) where
  f := fun p => by simp [isF, isFs, h.f]
  lay := fun p => by simp [dat, dats, PyData.canLay0, PyData.canLayAll0, h.lay]
  dep := fun p => by
    simp only [dat, dats, PyData.depth, PyData.depthAll]
    have := h.dep p
    omega
  eqv := fun p q => by simp only [dat, dats, PyData.eqv, PyData.eqvAll, h.eqv, Bool.and_true]
theorem enc_P2 (h : EncOk e n) (h1 : EncOk e1 n) : EncOk (eP e e1) (n + 1) := enc_up (enc_pair h h1) (by omega)
theorem enc_P3 (h : EncOk e n) (h1 : EncOk e1 n) (h2 : EncOk e2 n) : EncOk (fun v : α × β × γ => .tup [e v.1, e1 v.2.1, e2 v.2.2]) (n + 1) where
  f := fun p => by simp [isF, isFs, h.f, h1.f, h2.f]
  lay := fun p => by simp [dat, dats, PyData.canLay0, PyData.canLayAll0, h.lay, h1.lay, h2.lay]
  dep := fun p => by
    simp only [dat, dats, PyData.depth, PyData.depthAll]
    have := h.dep p.1; have := h1.dep p.2.1; have := h2.dep p.2.2
    omega
  eqv := fun p q => by
    obtain ⟨a, b, c⟩ := p
    obtain ⟨a', b', c'⟩ := q
    simp only [dat, dats, PyData.eqv, PyData.eqvAll, h.eqv, h1.eqv, h2.eqv, Bool.and_true, Prod.mk.injEq]
    by_cases h1 : a = a' <;> by_cases h2 : b = b' <;> by_cases h3 : c = c' <;> simp [h1, h2, h3]
theorem enc_P4 (h : EncOk e n) (h1 : EncOk e1 n) (h2 : EncOk e2 n) (h3 : EncOk e3 n) : EncOk (fun v : α × β × γ × δ => .tup [e v.1, e1 v.2.1, e2 v.2.2.1, e3 v.2.2.2]) (n + 1) where
  f := fun p => by simp [isF, isFs, h.f, h1.f, h2.f, h3.f]
  lay := fun p => by simp [dat, dats, PyData.canLay0, PyData.canLayAll0, h.lay, h1.lay, h2.lay, h3.lay]
  dep := fun p => by
    simp only [dat, dats, PyData.depth, PyData.depthAll]
    have := h.dep p.1; have := h1.dep p.2.1; have := h2.dep p.2.2.1; have := h3.dep p.2.2.2
    omega
  eqv := fun p q => by
    obtain ⟨a, b, c, d⟩ := p
    obtain ⟨a', b', c', d'⟩ := q
    simp only [dat, dats, PyData.eqv, PyData.eqvAll, h.eqv, h1.eqv, h2.eqv, h3.eqv, Bool.and_true, Prod.mk.injEq]
    by_cases h1 : a = a' <;> by_cases h2 : b = b' <;> by_cases h3 : c = c' <;> by_cases h4 : d = d' <;> simp [h1, h2, h3, h4]
theorem enc_H1 (h : EncOk e n) : EncOk (fun v : α => D.lst [e v]) (n + 1) where
  f := fun p => by simp [isF]
  lay := fun p => by have := (enc_P1 h).lay p; simpa only [dat, PyData.canLay0] using this
  dep := fun p => by have := (enc_P1 h).dep p; simpa only [dat, PyData.depth] using this
  eqv := fun p q => by have := (enc_P1 h).eqv p q; simpa only [dat, PyData.eqv] using this
theorem enc_H2 (h : EncOk e n) (h1 : EncOk e1 n) : EncOk (fun v : α × β => D.lst [e v.1, e1 v.2]) (n + 1) where
  f := fun p => by simp [isF]
  lay := fun p => by have := (enc_P2 h h1).lay p; simpa only [dat, PyData.canLay0] using this
  dep := fun p => by have := (enc_P2 h h1).dep p; simpa only [dat, PyData.depth] using this
  eqv := fun p q => by have := (enc_P2 h h1).eqv p q; simpa only [dat, PyData.eqv] using this
theorem enc_H3 (h : EncOk e n) (h1 : EncOk e1 n) (h2 : EncOk e2 n) : EncOk (fun v : α × β × γ => D.lst [e v.1, e1 v.2.1, e2 v.2.2]) (n + 1) where
  f := fun p => by simp [isF]
  lay := fun p => by have := (enc_P3 h h1 h2).lay p; simpa only [dat, PyData.canLay0] using this
  dep := fun p => by have := (enc_P3 h h1 h2).dep p; simpa only [dat, PyData.depth] using this
  eqv := fun p q => by have := (enc_P3 h h1 h2).eqv p q; simpa only [dat, PyData.eqv] using this
theorem enc_H4 (h : EncOk e n) (h1 : EncOk e1 n) (h2 : EncOk e2 n) (h3 : EncOk e3 n) : EncOk (fun v : α × β × γ × δ => D.lst [e v.1, e1 v.2.1, e2 v.2.2.1, e3 v.2.2.2]) (n + 1) where
  f := fun p => by simp [isF]
  lay := fun p => by have := (enc_P4 h h1 h2 h3).lay p; simpa only [dat, PyData.canLay0] using this
  dep := fun p => by have := (enc_P4 h h1 h2 h3).dep p; simpa only [dat, PyData.depth] using this
  eqv := fun p q => by have := (enc_P4 h h1 h2 h3).eqv p q; simpa only [dat, PyData.eqv] using this
end
section
variable {α β γ : Type} {e : α → D} {e1 : β → D} {e2 : γ → D}
def NN (e : α → D) : Prop := (∀ x, PyData.eqv .none (dat (e x)) = false) ∧ ∀ x, PyData.eqv (dat (e x)) .none = false
theorem nn_int : NN D.int := ⟨fun x => by simp [dat, PyData.eqv], fun x => by simp [dat, PyData.eqv]⟩
theorem nn_bl : NN D.bl := ⟨fun x => by simp [dat, PyData.eqv], fun x => by simp [dat, PyData.eqv]⟩
theorem nn_str : NN D.str := ⟨fun x => by simp [dat, PyData.eqv], fun x => by simp [dat, PyData.eqv]⟩
theorem nn_T : NN (eT e) := ⟨fun x => by simp [dat, PyData.eqv], fun x => by simp [dat, PyData.eqv]⟩
theorem nn_L : NN (eL e) := ⟨fun x => by simp [dat, PyData.eqv], fun x => by simp [dat, PyData.eqv]⟩
theorem nn_M : NN (eM e) := ⟨fun x => by simp [dat, PyData.eqv], fun x => by simp [dat, PyData.eqv]⟩
theorem nn_P : NN (eP e e1) := ⟨fun x => by simp [dat, PyData.eqv], fun x => by simp [dat, PyData.eqv]⟩
theorem isF_mu {ds : List D} : isF (.mu ds) = false := by simp [isF]
theorem isFs_nil : isFs [] = true := by simp [isFs]
theorem isFs_cons {d : D} {ds : List D} (h : isF d = true) (h2 : isFs ds = true) : isFs (d :: ds) = true := by rw [isFs, h, h2]; rfl
theorem scal_O (h : ∀ x, isScal (e x) = true) {o : Option α} : isScal (eO e o) = true := by
  cases o with
  | none => rfl
  | some x => exact h x
end
/-! ### built-ins -/
section
variable {α β : Type} {A A1 A2 A3 A4 : Sl} {fe fa fb : FE} {fl : FA} {d r : D} {ds es : List D} {e : α → D} {e' : β → D}
theorem gLen_o {xs : List α} (hs : sqOf (see A d) = some (xs.map e)) : gLen [d] A = some (.int xs.length) := by
  show (match see A d with
    | .str x => if x.length ≤ sizeLine then some (D.int x.length) else none
    | s => match sqOf s with
      | some es => some (.int es.length)
      | none => none) = _
  revert hs
  cases see A d <;> intro hs <;> simp only [sqOf] at hs ⊢ <;> cases hs <;> simp
theorem gTuple_sq (h : sqOf (see A d) = some es) (hf : isFs es = true) : gTuple [d] A = some (.tup es) := by unfold gTuple; simp only [h, hf, if_true]
theorem gList_sq (h : sqOf (see A d) = some es) (hf : isFs es = true) : gList [d] A = some (.mu es) := by unfold gList; simp only [h, hf, if_true]
theorem gSorted_o {ps : List (Int × Int)} (h : lsOf (see A d) = some (ps.map (eP D.int D.int))) : gSorted [d] A = some (.mu ((sortP ps).map (eP D.int D.int))) := by
  have e1 : (eP D.int D.int) = pd := rfl
  rw [e1] at h ⊢
  unfold gSorted; simp only [h, prsOf_map]
theorem isi_m {m n : String} {b : Bool} (h : tyN (see A d) = some m) (k : kitB m n = some b) : gIsi [d, .ty n] A = some (.bl b) := by
  unfold gIsi; simp only [h, k, Option.map_some]
theorem isi_O {m n : String} {o : Option α} (h : ∀ x, tyN (e x) = some m) (hs : see A d = eO e o) (k : kitB m n = some true) (k0 : kitB "NoneType" n = some false) : gIsi [d, .ty n] A = some (.bl o.isSome) := by
  cases o with
  | none => exact isi_m (by rw [hs]; rfl) k0
  | some x => exact isi_m (by rw [hs]; exact h x) k
theorem isi_O0 {m n : String} {o : Option α} (h : ∀ x, tyN (e x) = some m) (hs : see A d = eO e o) (k : kitB m n = some false) (k0 : kitB "NoneType" n = some false) : gIsi [d, .ty n] A = some (.bl false) := by
  cases o with
  | none => exact isi_m (by rw [hs]; rfl) k0
  | some x => exact isi_m (by rw [hs]; exact h x) k
/-- told values that are something, not None -/
def Some_ (d : D) : Prop := d ≠ .non ∧ ∀ i, d ≠ .al i
theorem nnon_I (i : Int) : Some_ (.int i) := ⟨(fun q => nomatch q), (fun _ q => nomatch q)⟩
theorem nnon_B (i : Bool) : Some_ (.bl i) := ⟨(fun q => nomatch q), (fun _ q => nomatch q)⟩
theorem nnon_S (i : Str) : Some_ (.str i) := ⟨(fun q => nomatch q), (fun _ q => nomatch q)⟩
theorem nnon_T (xs : List α) : Some_ (eT e xs) := ⟨(fun q => nomatch q), (fun _ q => nomatch q)⟩
theorem nnon_L (xs : List α) : Some_ (eL e xs) := ⟨(fun q => nomatch q), (fun _ q => nomatch q)⟩
theorem nnon_P (p : α × β) : Some_ (eP e e' p) := ⟨(fun q => nomatch q), (fun _ q => nomatch q)⟩
theorem gIsN_some (h : Some_ d) (hs : see A d = d) : gIsN d .non A = some (.bl false) := by
  obtain ⟨h1, h2⟩ := h
  unfold gIsN; rw [hs]
  cases d <;> first | rfl | exact absurd rfl h1 | exact absurd rfl (h2 _)
theorem gNotN_some (h : Some_ d) (hs : see A d = d) : gNotN d .non A = some (.bl true) := by
  obtain ⟨h1, h2⟩ := h
  unfold gNotN; rw [hs]
  cases d <;> first | rfl | exact absurd rfl h1 | exact absurd rfl (h2 _)
theorem see_some (h : Some_ d) : see A d = d := by
  obtain ⟨h1, h2⟩ := h
  cases d <;> first | rfl | exact absurd rfl (h2 _)
theorem gIsN_O {o : Option α} (h : ∀ x, Some_ (e x)) : gIsN (eO e o) .non A = some (.bl o.isNone) := by
  cases o with
  | none => rfl
  | some x => exact gIsN_some (h x) (see_some (h x))
theorem gNotN_O {o : Option α} (h : ∀ x, Some_ (e x)) : gNotN (eO e o) .non A = some (.bl o.isSome) := by
  cases o with
  | none => rfl
  | some x => exact gNotN_some (h x) (see_some (h x))
theorem gIndex_o {α : Type} [DecidableEq α] {f : α → D} {n : Nat} {x : α} {ys : List α} {v : Int} (h : EncOk f n) (hs : lsOf (see A d) = some (ys.map f)) (hv : idxO ys x = some v) (hn : n ≤ 63 := by decide) : gIndex d [f x] A = some (.int v) := by
  unfold idxO at hv
  split at hv
  · rename_i m; cases hv; exact gIndex_enc h hs m hn
  · cases hv
/-! slices -/
theorem cutG_map (f : α → β) (xs : List α) (lo hi : Option Int) : cutG (xs.map f) lo hi = (cutG xs lo hi).map f := by
  unfold cutG; rw [List.length_map, List.map_take, List.map_drop]
theorem pickG_map (f : α → β) (xs : List α) (lo hi st : Option Int) : pickG (xs.map f) lo hi st = (pickG xs lo hi st).map f := by
  unfold pickG pickAt
  rw [List.length_map, List.map_filterMap]
  refine filterMap_same fun j _ => ?_
  rw [List.getElem?_map]
theorem pickG_rev (xs : List α) : pickG xs none none (some (-1)) = xs.reverse := by
  have hj : pickJs none none (some (-1)) xs.length = (List.range xs.length).map fun k => xs.length - 1 - k := by
    unfold pickJs sliceBounds sliceRange
    simp only [Option.getD_some, show ¬ ((-1 : Int) > 0) from by decide, if_false, show (-(-1) : Int) = 1 from by decide, Int.ediv_one]
    have : (if (xs.length : Int) - 1 > -1 then (xs.length : Int) - 1 - -1 - -1 - 1 else 0).toNat = xs.length := by split <;> omega
    rw [this]
    refine List.map_congr_left fun k hk => ?_
    have := List.mem_range.mp hk
    omega
  unfold pickG pickAt
  rw [hj, List.filterMap_map]
  rw [filterMap_same (g := fun m => xs.reverse[m]?)]
  · have := pick_run xs.reverse.toArray 0 xs.length
    simp only [Nat.zero_add, List.getElem?_toArray] at this
    rw [List.map_id'] at this
    rw [this]
    simp only [List.drop_zero]
    rw [List.take_of_length_le (by simp)]
  · intro m hm
    have h1 : m < xs.length := List.mem_range.mp hm
    show xs[xs.length - 1 - m]? = _
    rw [List.getElem?_reverse h1]
theorem gSl_tup {f : α → D} {xs : List α} {lo hi : Option Int} (hd : see A d = .tup (xs.map f)) (hf : isFs (xs.map f) = true) : gSl d lo hi A = some (.tup ((cutG xs lo hi).map f)) := by
  unfold gSl; simp only [hd, hf, if_true, cutG_map]
theorem gSl_lst {f : α → D} {xs : List α} {lo hi : Option Int} (hd : lsOf (see A d) = some (xs.map f)) (hf : isFs (xs.map f) = true) : gSl d lo hi A = some (.mu ((cutG xs lo hi).map f)) := by
  unfold gSl
  split
  · rename_i q; rw [q] at hd; cases hd
  · rename_i q; rw [q] at hd; cases hd
  · rw [hd]; simp only [hf, if_true, cutG_map]
theorem gSlS_lst {f : α → D} {xs : List α} {lo hi st : Option Int} (hd : lsOf (see A d) = some (xs.map f)) (hf : isFs (xs.map f) = true) (h0 : st ≠ some 0) : gSlS d lo hi st A = some (.mu ((pickG xs lo hi st).map f)) := by
  unfold gSlS
  split
  · rename_i q; rw [q] at hd; cases hd
  · rw [hd]; simp only [hf, h0, ne_eq, not_false_eq_true, and_self, if_true, pickG_map]
theorem gSlS_lrev {f : α → D} {xs : List α} (hd : lsOf (see A d) = some (xs.map f)) (hf : isFs (xs.map f) = true) : gSlS d none none (some (-1)) A = some (.mu (xs.reverse.map f)) := by
  rw [gSlS_lst hd hf (by decide), pickG_rev]
theorem gSlS_rev {f : α → D} {xs : List α} (hd : see A d = .tup (xs.map f)) (hf : isFs (xs.map f) = true) : gSlS d none none (some (-1)) A = some (.tup (xs.reverse.map f)) := by
  unfold gSlS; simp only [hd, hf, and_self, if_true, List.map_reverse]
theorem ev_slS {fl fh ft : FO} {l h t : Option Int} (h1 : fe A = .ok d A1) (h2 : fl A1 = .ok l A2) (h3 : fh A2 = .ok h A3) (h4 : ft A3 = .ok t A4) (h5 : gSlS d l h t A4 = some r) : fSlS fe fl fh ft A = .ok r A4 := by
  unfold fSlS; rw [h1]; simp only [Ou.bind_ok, h2, h3, h4, h5]
theorem ev_retN : fRetN A = .ok (.ret .non) A := rfl
theorem sm_retN {T : Type} {Φ : T → Ou Fl → Prop} {k : FS} {t : T} (hp : Φ t (.ok (.ret .non) A)) : Sm (fSeq fRetN k A) Φ (some t) := fun t' e => by
  cases e
  unfold fSeq fRetN
  exact hp
/-! targets -/
theorem set_nm {i : Nat} (h : isF d = true) : (Tg.nm i).set d A = some (A.set i (some d)) := by
  unfold Tg.set
  cases d <;> first | rfl | exact absurd rfl (isF_al h _)
theorem set_tu {is : List Nat} {B : Sl} (hf : isFs ds = true) (h : setAll is ds A = some B) : (Tg.tu is).set (.tup ds) A = some B := by
  show (if isFs ds = true then setAll is ds A else none) = _
  rw [if_pos hf]; exact h
theorem set_tu2 {i j : Nat} {a b : D} (h1 : isF a = true) (h2 : isF b = true) : (Tg.tu [i, j]).set (.tup [a, b]) A = some ((A.set i (some a)).set j (some b)) := set_tu (isFs_cons h1 (isFs_cons h2 isFs_nil)) rfl
theorem set_tu3 {i j k : Nat} {a b c : D} (h1 : isF a = true) (h2 : isF b = true) (h3 : isF c = true) : (Tg.tu [i, j, k]).set (.tup [a, b, c]) A = some (((A.set i (some a)).set j (some b)).set k (some c)) := set_tu (isFs_cons h1 (isFs_cons h2 (isFs_cons h3 isFs_nil))) rfl
theorem set_tu4 {i j k l : Nat} {a b c d : D} (h1 : isF a = true) (h2 : isF b = true) (h3 : isF c = true) (h4 : isF d = true) : (Tg.tu [i, j, k, l]).set (.tup [a, b, c, d]) A = some ((((A.set i (some a)).set j (some b)).set k (some c)).set l (some d)) := set_tu (isFs_cons h1 (isFs_cons h2 (isFs_cons h3 (isFs_cons h4 isFs_nil)))) rfl
theorem ev_asgT_G {t : Tg} {d d' : D} {B : Sl} (h : fe A = .ok d A1) (hd : ∀ j, d ≠ .al j) (hz : fz d = d') (hs : t.set d' A1 = some B) : fAsgT t fe A = .ok .next B := by
  unfold fAsgT; rw [h]; simp only [Ou.bind_ok, closeD_na hd, hz, hs]
/-! what is walked -/
theorem zipW_map (xs : List α) (ys : List β) : List.zipWith (fun x y => D.tup [x, y]) (xs.map e) (ys.map e') = (xs.zip ys).map (eP e e') := by
  rw [List.zipWith_map]
  induction xs generalizing ys with
  | nil => rfl
  | cons x xs ih => cases ys with
    | nil => rfl
    | cons y ys => rw [List.zipWith_cons_cons, List.zip_cons_cons, List.map_cons, ih]
theorem isFs_map (hf : ∀ x, isF (e x) = true) (xs : List α) : isFs (xs.map e) = true := by rw [isFs_all]; simp [hf]
theorem ev_zipT {xs : List α} {ys : List β} (h1 : fa A = .ok (.mu (xs.map e)) A1) (h2 : fb A1 = .ok (.tup (ys.map e')) A2) (f1 : ∀ x, isF (e x) = true) (f2 : ∀ x, isF (e' x) = true) : fZip fa fb A = .ok ((xs.zip ys).map (eP e e')) A2 := by
  unfold fZip
  rw [ev_cons h1 (ev_cons h2 ev_nil)]
  simp only [Ou.bind_ok]
  rw [if_pos ⟨isFs_map f1 xs, isFs_map f2 ys⟩, zipW_map]
theorem ev_zipL {d1 d2 d1' d2' : D} {xs : List α} {ys : List β} (h : fCons fa (fCons fb fNil) A = .ok [d1, d2] A1) (ha : Args [d1, d2] A1 [d1', d2'] A2) (h1 : frOf d1' = some (xs.map e)) (h2 : frOf d2' = some (ys.map e')) (f1 : ∀ x, isF (e x) = true) (f2 : ∀ x, isF (e' x) = true) : fZipL fa fb A = .ok ((xs.zip ys).map (eP e e')) A2 := by
  obtain ⟨es', h3, h4⟩ := ha
  unfold fZipL
  rw [h]
  simp only [Ou.bind_ok, h3]
  match es', h4 with
  | [x, y], h4 =>
    simp only [fzs, List.cons.injEq, and_true] at h4
    simp only [h4.1, h4.2, h1, h2]
    rw [if_pos ⟨isFs_map f1 xs, isFs_map f2 ys⟩, zipW_map]
  | [], h4 => simp [fzs] at h4
  | [_], h4 => simp [fzs] at h4
  | _ :: _ :: _ :: _, h4 => simp [fzs] at h4
def enumL (xs : List α) : List (Int × α) := List.zip ((List.range xs.length).map fun i : Nat => (i : Int)) xs
theorem enumD_map (xs : List α) : enumD (xs.map e) = (enumL xs).map (eP D.int e) := by
  unfold enumD enumL
  rw [List.length_map]
  have : (List.zipWith (fun (i : Nat) d => D.tup [.int (i : Nat), d]) (List.range xs.length) (xs.map e)) = List.zipWith (fun x y => D.tup [x, y]) (((List.range xs.length).map fun i : Nat => (i : Int)).map D.int) (xs.map e) := by
    rw [List.map_map, List.zipWith_map_left]; rfl
  rw [this, zipW_map]
theorem ev_enumT {xs : List α} (h : fa A = .ok (.tup (xs.map e)) A1) (f1 : ∀ x, isF (e x) = true) : fEnum fa A = .ok ((enumL xs).map (eP D.int e)) A1 := by
  unfold fEnum
  rw [h]
  have z : fz (.tup (xs.map e)) = .tup (xs.map e) := fz_isF (by rw [isF]; exact isFs_map f1 xs)
  simp only [Ou.bind_ok, closeD_na (d := .tup (xs.map e)) (fun _ q => nomatch q), z, isFs_map f1 xs, if_true, enumD_map]
theorem ev_enumL {xs : List α} (h : fa A = .ok (.lst (xs.map e)) A1) (f1 : ∀ x, isF (e x) = true) : fEnum fa A = .ok ((enumL xs).map (eP D.int e)) A1 := by
  unfold fEnum
  rw [h]
  have z : fz (.lst (xs.map e)) = .lst (xs.map e) := fz_isF (by simp [isF])
  simp only [Ou.bind_ok, closeD_na (d := .lst (xs.map e)) (fun _ q => nomatch q), z, enumD_map]
theorem ev_enumF {xs : List α} (h : fa A = .ok (.fro (xs.map e)) A1) (f1 : ∀ x, isF (e x) = true) : fEnum fa A = .ok ((enumL xs).map (eP D.int e)) A1 := by
  unfold fEnum
  rw [h]
  have z : fz (.fro (xs.map e)) = .fro (xs.map e) := fz_isF (by simp [isF])
  simp only [Ou.bind_ok, closeD_na (d := .fro (xs.map e)) (fun _ q => nomatch q), z, enumD_map]
theorem ev_enumM {xs : List α} {es : List D} (h : fa A = .ok (.mu es) A1) (hz : fz (.mu es) = .lst (xs.map e)) (f1 : ∀ x, isF (e x) = true) : fEnum fa A = .ok ((enumL xs).map (eP D.int e)) A1 := by
  unfold fEnum
  rw [h]
  simp only [Ou.bind_ok, closeD_na (d := .mu es) (fun _ q => nomatch q), hz, enumD_map]
theorem ev_enumA {j : Nat} {t : D} {xs : List α} (h : fa A = .ok (.al j) A1) (ht : A1[j]? = some (some t)) (hz : fz t = .lst (xs.map e)) (hz2 : fz (.lst (xs.map e)) = .lst (xs.map e)) (f1 : ∀ x, isF (e x) = true) : fEnum fa A = .ok ((enumL xs).map (eP D.int e)) (A1.set j (some (.lst (xs.map e)))) := by
  unfold fEnum
  rw [h]
  simp only [Ou.bind_ok, closeD, ht, hz, hz2, enumD_map]
end
/-! ### a bag's letter turned -/
def bagA {α : Type} (m c : Int) (ls : List α) : Int := m / c % (ls.length : Int)
def bagO {α : Type} (xs : List (List Int)) (k m c : Int) (ls : List α) : Option (List (List Int)) :=
  (ixN xs.length k).bind fun j => (xs[j]?).bind fun bg => if cDiv m c = true ∧ 0 < ls.length then (ixN bg.length (m / c % (ls.length : Int))).bind fun u => (bg[u]?).bind fun w => some (xs.set j (bg.set u (1 - w))) else none
theorem ev_bagO {α : Type} {e : α → D} {i b a n l : Nat} {c k m : Int} {fe : FE} {A A1 : Sl} {xs v : List (List Int)} {ls : List α} (h0 : A[i]? = some (some (.mu (xs.map (eM D.int))))) (h1 : fe A = .ok (.int k) A1) (h2 : A1[i]? = some (some (.mu (xs.map (eM D.int))))) (h3 : A1[n]? = some (some (.int m))) (h4 : A1[l]? = some (some (.lst (ls.map e))))
    (hb : b < A1.length) (ha : a < A1.length) (hv : bagO xs k m c ls = some v) : fBag i b a n l c fe A = .ok .next (((A1.set i (some (.mu (v.map (eM D.int))))).set b none).set a (some (.int (bagA m c ls)))) := by
  have s : slotL i A = some (xs.map (eM D.int)) := by unfold slotL; rw [h0]
  have s1 : slotL i A1 = some (xs.map (eM D.int)) := by unfold slotL; rw [h2]
  unfold bagO at hv
  obtain ⟨j, hj, hv⟩ := of_bind hv
  obtain ⟨bg, hbg, hv⟩ := of_bind hv
  split at hv
  · rename_i q
    obtain ⟨u, hu, hv⟩ := of_bind hv
    obtain ⟨w, hw, hv⟩ := of_bind hv
    cases hv
    have fs : isFs (bg.map D.int) = true := enc_int.fs bg
    unfold fBag
    simp only [s, h1, Ou.bind_ok, s1, h3, h4, List.length_map, hj, List.getElem?_map, hbg, Option.map_some, fs, q.1, q.2, hb, ha, and_self, if_true, hu, hw, bagA, List.map_set]
    rw [show eM D.int (bg.set u (1 - w)) = D.mu ((bg.map D.int).set u (D.int (1 - w))) from by rw [← List.map_set]]
  · cases hv
end Ab
namespace Ab
open PySem L2
theorem short_ (ds : List D) (k : Nat) (h : ds.length = k) (hk : k ≤ 1000) : ds.length ≤ sizeLine := by
  have := sizeLine_eq
  omega
end Ab
end
section
/-! typed dicts -/
namespace Ab
open PySem L2
section
variable {κ ν : Type} [DecidableEq κ]
def dGet : List (κ × ν) → κ → Option ν
  | [], _ => none
  | p :: r, k => if p.1 = k then some p.2 else dGet r k
def dPut : List (κ × ν) → κ → ν → List (κ × ν)
  | [], k, v => [(k, v)]
  | p :: r, k, v => if p.1 = k then (p.1, v) :: r else p :: dPut r k v
def dHas (d : List (κ × ν)) (k : κ) : Bool := (dGet d k).isSome
def dMrg (d e : List (κ × ν)) : List (κ × ν) := e.foldl (fun a p => dPut a p.1 p.2) d
def dPutO (d : List (κ × ν)) (k : κ) (v : ν) : Option (List (κ × ν)) := if d.length < sizeLine then some (dPut d k v) else none
def dIx (d : List (κ × ν)) (k : κ) : Option Nat := d.findIdx? fun p => decide (p.1 = k)
theorem dGet_ix (d : List (κ × ν)) (k : κ) : dGet d k = (dIx d k).bind fun j => (d[j]?).map (·.2) := by
  induction d with
  | nil => rfl
  | cons p r ih =>
    unfold dGet dIx
    rw [List.findIdx?_cons]
    by_cases h : p.1 = k
    · simp [h]
    · simp only [h, if_false, decide_false, Bool.false_eq_true]
      rw [ih]
      unfold dIx
      cases r.findIdx? fun p => decide (p.1 = k) <;> simp
theorem dPut_ix (d : List (κ × ν)) (k : κ) (v : ν) : dPut d k v = match dIx d k with
    | some j => d.modify j fun p => (p.1, v)
    | none => d ++ [(k, v)] := by
  induction d with
  | nil => rfl
  | cons p r ih =>
    unfold dPut dIx
    rw [List.findIdx?_cons]
    by_cases h : p.1 = k
    · simp [h]
    · simp only [h, if_false, decide_false, Bool.false_eq_true]
      rw [ih]
      unfold dIx
      cases r.findIdx? fun p => decide (p.1 = k) <;> simp
theorem dPut_keys (d : List (κ × ν)) (k : κ) (v : ν) : (dPut d k v).map (·.1) = addL (dIx d k) (d.map (·.1)) k := by
  rw [dPut_ix]
  cases dIx d k with
  | none => simp [addL]
  | some j => simp only [addL]; exact map_modify_same (f := fun p : κ × ν => p.1) (g := fun p => (p.1, v)) (fun _ => rfl) d j
theorem dPut_vals (d : List (κ × ν)) (k : κ) (v : ν) : (dPut d k v).map (·.2) = putL (dIx d k) (d.map (·.2)) v := by
  rw [dPut_ix]
  cases dIx d k with
  | none => simp [putL]
  | some j => simp only [putL]; exact map_modify_set (f := fun p : κ × ν => p.2) (g := fun p => (p.1, v)) (fun _ => rfl) d j
theorem dGet_put_same (d : List (κ × ν)) (k : κ) (v : ν) : dGet (dPut d k v) k = some v := by
  induction d with
  | nil => simp [dPut, dGet]
  | cons p r ih =>
    unfold dPut
    by_cases h : p.1 = k
    · simp [h, dGet]
    · simp only [h, if_false, dGet]; exact ih
theorem dGet_put_other (d : List (κ × ν)) (k k' : κ) (v : ν) (hk : k' ≠ k) : dGet (dPut d k v) k' = dGet d k' := by
  induction d with
  | nil => simp [dPut, dGet, hk.symm]
  | cons p r ih =>
    unfold dPut
    by_cases h : p.1 = k
    · have : p.1 ≠ k' := fun e => hk (e.symm.trans h)
      simp [h, dGet]
      rw [h] at this
      simp [this]
    · simp only [h, if_false, dGet]; rw [ih]
theorem dGet_put (d : List (κ × ν)) (k k' : κ) (v : ν) : dGet (dPut d k v) k' = if k' = k then some v else dGet d k' := by
  by_cases h : k' = k
  · rw [if_pos h, h, dGet_put_same]
  · rw [if_neg h, dGet_put_other d k k' v h]
theorem dPut_len (d : List (κ × ν)) (k : κ) (v : ν) : (dPut d k v).length ≤ d.length + 1 := by
  induction d with
  | nil => simp [dPut]
  | cons p r ih => unfold dPut; split <;> simp <;> omega
/-- d.setdefault(k, []).append(x) -/
def dSda {α : Type} (d : List (κ × List α)) (k : κ) (x : α) : Option (List (κ × List α)) := match dGet d k with
  | some l => if l.length < sizeLine then some (dPut d k (l ++ [x])) else none
  | none => if d.length < sizeLine then some (dPut d k [x]) else none
end
/-! ### encoders -/
/-- what a typed thing is as a key -/
structure NkOk {κ : Type} (e : κ → D) (nk : κ → NestedKey) (m : Nat) : Prop where
  eqn : ∀ x, nkD (e x) = some (nk x)
  dep : ∀ x, (nk x).depth ≤ m
  inj : ∀ x y, nk x = nk y → x = y
structure KeyEnc {κ : Type} (e : κ → D) (n : Bool) (nk : κ → NestedKey) : Prop where
  ok : ∀ x, keyOk n (e x) = some (nk x)
  eqn : ∀ x, nkD (e x) = some (nk x)
  inj : ∀ x y, nk x = nk y → x = y
section
variable {α β γ : Type} {e : α → D} {e1 : β → D} {e2 : γ → D} {f : α → NestedKey} {f1 : β → NestedKey} {f2 : γ → NestedKey} {m : Nat}
theorem nko_int : NkOk D.int NestedKey.num 0 := ⟨fun _ => by rw [nkD], fun _ => by simp [NestedKey.depth], fun x y h => by injection h⟩
abbrev nkO (f : α → NestedKey) : Option α → NestedKey
  | none => .none
  | some x => f x
theorem nko_O (h : NkOk e f m) (hn : ∀ x, f x ≠ .none) : NkOk (eO e) (nkO f) m where
  eqn := fun o => by cases o with
    | none => simp [eO, nkD]
    | some x => exact h.eqn x
  dep := fun o => by cases o with
    | none => simp [NestedKey.depth]
    | some x => exact h.dep x
  inj := fun x y q => by
    cases x <;> cases y
    · rfl
    · exact absurd q.symm (hn _)
    · exact absurd q (hn _)
    · rw [h.inj _ _ q]
theorem nkDs_map (h : NkOk e f m) : ∀ xs : List α, nkDs (xs.map e) = some (xs.map f)
  | [] => by simp [nkDs]
  | x :: xs => by rw [List.map_cons, List.map_cons, nkDs, h.eqn x, nkDs_map h xs]
theorem depthAll_map (h : NkOk e f m) : ∀ xs : List α, NestedKey.depthAll (xs.map f) ≤ m
  | [] => by simp [NestedKey.depthAll]
  | x :: xs => by rw [List.map_cons, NestedKey.depthAll]; exact Nat.max_le.mpr ⟨h.dep x, depthAll_map h xs⟩
abbrev nkT (f : α → NestedKey) : List α → NestedKey := fun xs => .tup (xs.map f)
theorem nko_T (h : NkOk e f m) : NkOk (eT e) (nkT f) (m + 1) where
  eqn := fun xs => by rw [nkD, nkDs_map h]; rfl
  dep := fun xs => by rw [NestedKey.depth]; have := depthAll_map h xs; omega
  inj := fun xs ys q => by
    injection q with q
    induction xs generalizing ys with
    | nil => cases ys with
      | nil => rfl
      | cons y ys => simp at q
    | cons x xs ih => cases ys with
      | nil => simp at q
      | cons y ys =>
        rw [List.map_cons, List.map_cons] at q
        injection q with q1 q2
        rw [h.inj _ _ q1, ih ys q2]
abbrev nkP (f : α → NestedKey) (f1 : β → NestedKey) : α × β → NestedKey := fun p => .tup [f p.1, f1 p.2]
theorem nko_P (h : NkOk e f m) (h1 : NkOk e1 f1 m) : NkOk (eP e e1) (nkP f f1) (m + 1) where
  eqn := fun p => by show nkD (.tup [e p.1, e1 p.2]) = _; rw [nkD, nkDs, nkDs, nkDs, h.eqn, h1.eqn]; rfl
  dep := fun p => by
    simp only [NestedKey.depth, NestedKey.depthAll]
    have := h.dep p.1; have := h1.dep p.2; omega
  inj := fun p q hh => by
    cases p; cases q
    injection hh with hh
    injection hh with h1' h2'
    injection h2' with h2' _
    exact Prod.ext (h.inj _ _ h1') (h1.inj _ _ h2')
abbrev nkQ (f : α → NestedKey) (f1 : β → NestedKey) (f2 : γ → NestedKey) : α × β × γ → NestedKey := fun p => .tup [f p.1, f1 p.2.1, f2 p.2.2]
theorem nko_Q (h : NkOk e f m) (h1 : NkOk e1 f1 m) (h2 : NkOk e2 f2 m) : NkOk (fun v : α × β × γ => .tup [e v.1, e1 v.2.1, e2 v.2.2]) (nkQ f f1 f2) (m + 1) where
  eqn := fun p => by show nkD (.tup [_, _, _]) = _; rw [nkD, nkDs, nkDs, nkDs, nkDs, h.eqn, h1.eqn, h2.eqn]; rfl
  dep := fun p => by
    simp only [NestedKey.depth, NestedKey.depthAll]
    have := h.dep p.1; have := h1.dep p.2.1; have := h2.dep p.2.2; omega
  inj := fun p q hh => by
    obtain ⟨a, b, c⟩ := p; obtain ⟨a', b', c'⟩ := q
    injection hh with hh
    injection hh with g1 g2
    injection g2 with g2 g3
    injection g3 with g3 _
    exact Prod.ext (h.inj _ _ g1) (Prod.ext (h1.inj _ _ g2) (h2.inj _ _ g3))
theorem nko_up {k : Nat} (h : NkOk e f m) (hk : m ≤ k) : NkOk e f k := ⟨h.eqn, fun x => Nat.le_trans (h.dep x) hk, h.inj⟩
theorem key_int : KeyEnc D.int false NestedKey.num := ⟨fun x => by simp [keyOk], fun _ => by rw [nkD], fun x y h => by injection h⟩
theorem key_tup (h : NkOk e f m) (ht : ∀ x, ∃ ds, e x = .tup ds) (hm : m ≤ 8 := by decide) : KeyEnc e true f where
  ok := fun x => by
    obtain ⟨ds, q⟩ := ht x
    have hn := h.eqn x
    have hd := h.dep x
    rw [q] at hn ⊢
    simp only [keyOk, hn]
    rw [if_pos (by omega)]
  eqn := h.eqn
  inj := h.inj
end
section
variable {κ ν : Type} [DecidableEq κ] {e : κ → D} {e1 : ν → D} {n : Bool} {nk : κ → NestedKey} {A A1 A2 : Sl} {d d' r : D} {kv : List (κ × ν)} {k : κ} {fe fk fa fb : FE}
abbrev eDM (n : Bool) (e : κ → D) (e1 : ν → D) : List (κ × ν) → D := fun kv => .mdi n (kv.map fun p => e p.1) (kv.map fun p => e1 p.2)
abbrev eDL (n : Bool) (e : κ → D) (e1 : ν → D) : List (κ × ν) → D := fun kv => .fdi n (kv.map fun p => e p.1) (kv.map fun p => e1 p.2)
theorem fz_D {e1' : ν → D} (h : Fz e1 e1') : Fz (eDM n e e1) (eDL n e e1') := fun kv => by
  show fz (.mdi n _ _) = _
  rw [fz]
  congr 1
  induction kv with
  | nil => simp [fzs]
  | cons p r ih => rw [List.map_cons, List.map_cons, fzs, h, ih]
theorem fz_DL : Fz (eDL n e e1) (eDL n e e1) := fun kv => by show fz (.fdi n _ _) = _; rw [fz]
theorem isF_mdi {ks vs : List D} : isF (.mdi n ks vs) = false := by simp [isF]
theorem isF_DL : isF (eDL n e e1 kv) = true := by simp [isF]
theorem ixD_d (h : KeyEnc e n nk) (kv : List (κ × ν)) (k : κ) : ixD (kv.map fun p => e p.1) (nk k) = dIx kv k := by
  unfold ixD dIx
  rw [List.findIdx?_map]
  congr 1
  funext p
  show decide (nkD (e p.1) = some (nk k)) = decide (p.1 = k)
  rw [h.eqn]
  by_cases q : p.1 = k
  · simp [q]
  · have : nk p.1 ≠ nk k := fun z => q (h.inj _ _ z)
    simp [q, this]
theorem dIx_some {j : Nat} (h : dIx kv k = some j) : ∃ p, kv[j]? = some p ∧ p.1 = k := by
  obtain ⟨p, h1, h2⟩ := findIx_lt h
  exact ⟨p, h1, of_decide_eq_true h2⟩
theorem dHas_ix : dHas kv k = (dIx kv k).isSome := by
  unfold dHas
  rw [dGet_ix]
  cases h : dIx kv k with
  | none => rfl
  | some j =>
    obtain ⟨p, h1, _⟩ := dIx_some h
    show ((kv[j]?).map _).isSome = true
    rw [h1]; rfl
theorem gInX_d (h : KeyEnc e n nk) (hs : dicOf (see A d') = some (n, kv.map (fun p => e p.1), kv.map fun p => e1 p.2)) (hk : see A d = e k) : gInX d d' A = some (.bl (dHas kv k)) := by
  unfold gInX
  simp only [hs, hk, h.ok, ixD_d h, dHas_ix]
theorem gNotInX_d (h : KeyEnc e n nk) (hs : dicOf (see A d') = some (n, kv.map (fun p => e p.1), kv.map fun p => e1 p.2)) (hk : see A d = e k) : gNotInX d d' A = some (.bl (!dHas kv k)) := by
  unfold gNotInX
  simp only [hs, hk, h.ok, ixD_d h, dHas_ix]
theorem gIxX_d {v : ν} (h : KeyEnc e n nk) (hs : dicOf (see A d) = some (n, kv.map (fun p => e p.1), kv.map fun p => e1 p.2)) (hk : see A d' = e k) (hv : dGet kv k = some v) (hf : isF (e1 v) = true) : gIxX d d' A = some (e1 v) := by
  unfold gIxX
  simp only [hs, hk, h.ok, ixD_d h]
  rw [dGet_ix] at hv
  cases hj : dIx kv k with
  | none => rw [hj] at hv; cases hv
  | some j =>
    rw [hj] at hv
    have hv : (kv[j]?).map (·.2) = some v := hv
    have : (kv.map fun p => e1 p.2)[j]? = some (e1 v) := by
      rw [List.getElem?_map]
      cases hp : kv[j]? with
      | none => rw [hp] at hv; cases hv
      | some p => rw [hp] at hv; cases hv; rfl
    simp only [this, hf, if_true]
theorem dicOf_seq {ds : List D} (h : sqOf d = some ds) : dicOf d = none := by cases d <;> simp [sqOf] at h <;> rfl
theorem gInX_s {r : D} (h : gIn d d' A = some r) (hs : dicOf (see A d') = none) : gInX d d' A = some r := by unfold gInX; rw [hs]; exact h
theorem gNotInX_s {r : D} (h : gNotIn d d' A = some r) (hs : dicOf (see A d') = none) : gNotInX d d' A = some r := by unfold gNotInX; rw [hs]; exact h
theorem gIxX_s {r : D} (h : gIx d d' A = some r) (hs : dicOf (see A d) = none) : gIxX d d' A = some r := by unfold gIxX; rw [hs]; exact h
theorem addL_d (h : KeyEnc e n nk) (v : ν) : addL (ixD (kv.map fun p => e p.1) (nk k)) (kv.map fun p => e p.1) (e k) = (dPut kv k v).map fun p => e p.1 := by
  rw [ixD_d h, show (fun p : κ × ν => e p.1) = e ∘ (fun p => p.1) from rfl, ← List.map_map, ← List.map_map, dPut_keys, addL_map]
theorem putL_d (h : KeyEnc e n nk) (v : ν) : putL (ixD (kv.map fun p => e p.1) (nk k)) (kv.map fun p => e1 p.2) (e1 v) = (dPut kv k v).map fun p => e1 p.2 := by
  rw [ixD_d h, show (fun p : κ × ν => e1 p.2) = e1 ∘ (fun p => p.2) from rfl, ← List.map_map, ← List.map_map, dPut_vals, putL_map]
theorem ev_setD {i : Nat} {v : ν} {kv' : List (κ × ν)} (h : KeyEnc e n nk) (he : fe A = .ok (e1 v) A1) (hd : ∀ j, e1 v ≠ .al j) (hs : A1[i]? = some (some (eDM n e e1 kv))) (hk : fk A1 = .ok (e k) A1) (hv : dPutO kv k v = some kv') : fSetD i fk fe A = .ok .next (A1.set i (some (eDM n e e1 kv'))) := by
  have s1 : slotD i A1 = some (n, kv.map (fun p => e p.1), kv.map fun p => e1 p.2) := by unfold slotD; rw [hs]
  unfold dPutO at hv
  split at hv
  · rename_i q; cases hv
    unfold fSetD
    simp only [he, Ou.bind_ok, closeD_na hd, s1, hk, h.ok, List.length_map, q, if_true, addL_d h v, putL_d h v]
  · cases hv
theorem ev_dic0 : fDic0 n A = .ok (eDM n e e1 []) A := rfl
theorem ev_dic1 {v : ν} (h : KeyEnc e n nk) (hk : fk A = .ok (e k) A1) (he : fe A1 = .ok (e1 v) A2) (hd : ∀ j, e1 v ≠ .al j) : fDic1 n fk fe A = .ok (eDM n e e1 [(k, v)]) A2 := by
  unfold fDic1
  simp only [hk, Ou.bind_ok, h.ok, he, closeD_na hd]
  have a1 := addL_d (kv := ([] : List (κ × ν))) (k := k) h v
  have a2 := putL_d (kv := ([] : List (κ × ν))) (e1 := e1) (k := k) h v
  simp only [List.map_nil] at a1 a2
  rw [a1, a2]
  rfl
/-- all keys' hash values are unlike: dict(d) copies without asking -/
def hashP (nk : κ → NestedKey) (kv : List (κ × ν)) : Option (List Int) := kv.mapM fun p => nkH (nk p.1)
def hashN (nk : κ → NestedKey) (kv : List (κ × ν)) : Bool := match hashP nk kv with
  | some hs => decide hs.Nodup
  | none => false
theorem hashesD_d (h : KeyEnc e n nk) : ∀ kv : List (κ × ν), hashesD (kv.map fun p => e p.1) = hashP nk kv
  | [] => rfl
  | p :: r => by
    unfold hashP
    rw [List.map_cons, hashesD, h.eqn, hashesD_d h r]
    show _ = List.mapM _ (p :: r)
    rw [List.mapM_cons]
    unfold hashP
    show (match nkH (nk p.1), _ with | some h, some hs => some (h :: hs) | _, _ => none) = _
    cases nkH (nk p.1) with
    | none => rfl
    | some a => cases List.mapM (fun p => nkH (nk p.1)) r <;> rfl
theorem hashOk_d (h : KeyEnc e n nk) (kv : List (κ × ν)) : hashOk (kv.map fun p => e p.1) = hashN nk kv := by
  unfold hashOk hashN; rw [hashesD_d h]; try (cases hashP nk kv <;> rfl)
def dCopyO (n : Bool) (nk : κ → NestedKey) (kv : List (κ × ν)) : Option (List (κ × ν)) := if n = false ∨ hashN nk kv = true then some kv else none
theorem gDictOf_d {kv' : List (κ × ν)} (h : KeyEnc e n nk) (hs : dicOf (see A d) = some (n, kv.map (fun p => e p.1), kv.map fun p => e1 p.2)) (hf : ∀ v, isF (e1 v) = true) (hv : dCopyO n nk kv = some kv') : gDictOf [d] A = some (eDM n e e1 kv') := by
  have fs : isFs (kv.map fun p => e1 p.2) = true := by rw [isFs_all]; simp [hf]
  unfold dCopyO at hv
  split at hv
  · rename_i q; cases hv
    unfold gDictOf
    simp only [hs, fs, hashOk_d h, true_and, q, if_true]
  · cases hv
theorem mrgD_d (h : KeyEnc e n nk) : ∀ (kv2 kv : List (κ × ν)), mrgD (kv.map fun p => e p.1) (kv.map fun p => e1 p.2) (kv2.map fun p => e p.1) (kv2.map fun p => e1 p.2) = ((dMrg kv kv2).map (fun p => e p.1), (dMrg kv kv2).map fun p => e1 p.2)
  | [], kv => by rw [List.map_nil, List.map_nil]; unfold mrgD; rfl
  | p :: r, kv => by
    rw [List.map_cons, List.map_cons, mrgD, h.eqn]
    simp only
    rw [addL_d (kv := kv) (k := p.1) h p.2, putL_d (kv := kv) (e1 := e1) (k := p.1) h p.2, mrgD_d h r]
    rfl
def dUpdO (nk : κ → NestedKey) (kv kv2 : List (κ × ν)) : Option (List (κ × ν)) := if (kv ≠ [] ∨ hashN nk kv2 = true) ∧ kv.length + kv2.length ≤ sizeLine then some (dMrg kv kv2) else none
omit [DecidableEq κ] in
theorem map_ne {α β : Type} {f : α → β} {xs : List α} : xs.map f ≠ [] ↔ xs ≠ [] := by cases xs <;> simp
theorem ev_upd {i : Nat} {kv2 kv' : List (κ × ν)} {dd : D} (h : KeyEnc e true nk) (hs0 : A[i]? = some (some (eDM true e e1 kv))) (he : fe A = .ok dd A1) (hd : ∀ j, dd ≠ .al j) (hz : fz dd = eDL true e e1 kv2) (hs : A1[i]? = some (some (eDM true e e1 kv))) (hf : ∀ v, isF (e1 v) = true) (hv : dUpdO nk kv kv2 = some kv') :
    fUpd i fe A = .ok .non (A1.set i (some (eDM true e e1 kv'))) := by
  have s0 : slotD i A = some (true, kv.map (fun p => e p.1), kv.map fun p => e1 p.2) := by unfold slotD; rw [hs0]
  have s1 : slotD i A1 = some (true, kv.map (fun p => e p.1), kv.map fun p => e1 p.2) := by unfold slotD; rw [hs]
  have fs : isFs (kv.map fun p => e1 p.2) = true := by rw [isFs_all]; simp [hf]
  unfold dUpdO at hv
  split at hv
  · rename_i q; cases hv
    unfold fUpd
    simp only [s0, he, Ou.bind_ok, closeD_na hd, hz, s1, fs, hashOk_d h, List.length_map, map_ne, q, true_and, and_self, if_true, mrgD_d h]
  · cases hv
theorem gLenX_s {xs : List ν} (hs : sqOf (see A d) = some (xs.map e1)) : gLenX [d] A = some (.int xs.length) := by
  unfold gLenX; simp only [dicOf_seq hs]; exact gLen_o hs
theorem gLen_d (hs : dicOf (see A d) = some (n, kv.map (fun p => e p.1), kv.map fun p => e1 p.2)) : gLenX [d] A = some (.int kv.length) := by
  unfold gLenX; simp only [hs, List.length_map]
theorem ev_sda {α : Type} {ea : α → D} {i jv : Nat} {x : α} {kd : List (κ × List α)} {kv' : List (κ × List α)} (h : KeyEnc e true nk) (hs0 : A[i]? = some (some (eDM true e (eM ea) kd))) (hk : fk A = .ok (e k) A) (hx : A[jv]? = some (some (ea x))) (hsc : isScal (ea x) = true) (hf : ∀ v, isF (ea v) = true) (hv : dSda kd k x = some kv') :
    fSdA i fk jv A = .ok .non (A.set i (some (eDM true e (eM ea) kv'))) := by
  have s0 : slotD i A = some (true, kd.map (fun p => e p.1), kd.map fun p => eM ea p.2) := by unfold slotD; rw [hs0]
  unfold fSdA
  simp only [s0, hk, Ou.bind_ok, hx, h.ok, hsc, and_self, if_true, ixD_d h]
  have p1 := fun v : List α => addL_d (kv := kd) (k := k) h v
  have p2 := fun v : List α => putL_d (kv := kd) (e1 := eM ea) (k := k) h v
  simp only [ixD_d h] at p1 p2
  unfold dSda at hv
  cases hj : dIx kd k with
  | none =>
    have hg : dGet kd k = none := by rw [dGet_ix, hj]; rfl
    simp only [hg] at hv
    split at hv
    · rename_i q; cases hv
      rw [hj] at p1 p2
      have a1 := p1 [x]
      have a2 := p2 [x]
      simp only [addL, putL] at a1 a2
      simp only [List.length_map, q, if_true]
      rw [a1]
      have e3 : eM ea [x] = .mu [ea x] := rfl
      rw [e3] at a2
      rw [a2]
    · cases hv
  | some j =>
    obtain ⟨p, hp1, hp2⟩ := dIx_some hj
    have hg : dGet kd k = some p.2 := by rw [dGet_ix, hj]; show (kd[j]?).map _ = _; rw [hp1]; rfl
    simp only [hg] at hv
    split at hv
    · rename_i q; cases hv
      rw [hj] at p1 p2
      have a1 := p1 (p.2 ++ [x])
      have a2 := p2 (p.2 ++ [x])
      simp only [addL, putL] at a1 a2
      have fs : isFs (p.2.map ea) = true := isFs_map hf _
      simp only [List.getElem?_map, hp1, Option.map_some, fs, List.length_map, q, and_self, if_true]
      rw [a1]
      have e3 : eM ea (p.2 ++ [x]) = .mu (p.2.map ea ++ [ea x]) := by show D.mu _ = _; rw [List.map_append]; rfl
      rw [e3] at a2
      rw [a2]
    · cases hv
end
end Ab
namespace Ab
open PySem L2
/-- known things, told (dicts in them) -/
structure FOk {α : Type} (e : α → D) : Prop where
  f : ∀ x, isF (e x) = true
theorem FOk.see {α : Type} {e : α → D} (h : FOk e) (A : Sl) (x : α) : Ab.see A (e x) = e x := see_isF (h.f x)
theorem fz_FO {α : Type} {e : α → D} (h : FOk e) : Fz e e := fun x => fz_isF (h.f x)
theorem fo_enc {α : Type} [DecidableEq α] {e : α → D} {n : Nat} (h : EncOk e n) : FOk e := ⟨h.f⟩
section
variable {α β γ δ : Type} [DecidableEq α] [DecidableEq β] [DecidableEq γ] [DecidableEq δ] {e : α → D} {e1 : β → D} {e2 : γ → D} {e3 : δ → D} {n : Bool}
theorem fo_D : FOk (eDL n e e1) := ⟨fun _ => isF_DL⟩
theorem fo_L : FOk (eL e) := ⟨fun _ => by simp [isF]⟩
theorem fo_T (h : FOk e) : FOk (eT e) := ⟨fun xs => by show isF (.tup _) = true; rw [isF]; exact isFs_map h.f xs⟩
theorem fo_P1 (h : FOk e) : FOk (fun v : α => D.tup [e v]) := ⟨fun v => by rw [isF]; exact isFs_cons (h.f _) isFs_nil⟩
theorem fo_P2 (h : FOk e) (h1 : FOk e1) : FOk (eP e e1) := ⟨fun v => by show isF (.tup _) = true; rw [isF]; exact isFs_cons (h.f _) (isFs_cons (h1.f _) isFs_nil)⟩
theorem fo_P3 (h : FOk e) (h1 : FOk e1) (h2 : FOk e2) : FOk (fun v : α × β × γ => D.tup [e v.1, e1 v.2.1, e2 v.2.2]) := ⟨fun v => by rw [isF]; exact isFs_cons (h.f _) (isFs_cons (h1.f _) (isFs_cons (h2.f _) isFs_nil))⟩
theorem fo_P4 (h : FOk e) (h1 : FOk e1) (h2 : FOk e2) (h3 : FOk e3) : FOk (fun v : α × β × γ × δ => D.tup [e v.1, e1 v.2.1, e2 v.2.2.1, e3 v.2.2.2]) := ⟨fun v => by rw [isF]; exact isFs_cons (h.f _) (isFs_cons (h1.f _) (isFs_cons (h2.f _) (isFs_cons (h3.f _) isFs_nil)))⟩
theorem fo_lst (f : α → List D) : FOk (fun v => D.lst (f v)) := ⟨fun v => by simp [isF]⟩
end
end Ab
end
section
/-! typed: x += e, min, sorted ints, values, items, x[k].append, x[k].clear, list(range), freezing -/
namespace Ab
open PySem L2
section
variable {A A1 A2 : Sl} {fe fk fa fb : FE} {d d' r : D}
theorem ev_aug {f : Int → Int → Int} {i : Nat} {a b : Int} (h0 : A[i]? = some (some (.int a))) (h : fe A = .ok (.int b) A1) : fAug f i fe A = .ok .next (A1.set i (some (.int (f a b)))) := by
  unfold fAug; simp only [h0, h, Ou.bind_ok]
theorem gMinL_o {xs : List Int} {v : Int} (hs : lsOf (see A d) = some (xs.map D.int)) (h : minI xs = some v) : gMinL [d] A = some (.int v) := by
  unfold gMinL; simp only [hs, intsOf_map, h]; rfl
theorem gSortedX_o {xs : List Int} (hs : lsOf (see A d) = some (xs.map D.int)) : gSortedX [d] A = some (.mu ((sortI xs).map D.int)) := by
  unfold gSortedX; simp only [hs, intsOf_map]
theorem intsOf_pairs {p : Int × Int} {ps : List (Int × Int)} : intsOf ((p :: ps).map (eP D.int D.int)) = none := by
  rw [List.map_cons, intsOf]; rfl
theorem gSortedX_p {ps : List (Int × Int)} (h : lsOf (see A d) = some (ps.map (eP D.int D.int))) : gSortedX [d] A = some (.mu ((sortP ps).map (eP D.int D.int))) := by
  unfold gSortedX
  simp only [h]
  cases ps with
  | nil =>
    have e1 : sortP ([] : List (Int × Int)) = [] := by unfold sortP; simp
    have e2 : sortI ([] : List Int) = [] := by unfold sortI; simp
    rw [e1]; simp only [List.map_nil, intsOf, e2]
  | cons p ps => simp only [intsOf_pairs]; exact gSorted_o h
def rgLO (n : Int) : Option (List Int) := if n.natAbs ≤ 16777216 then some ((List.range n.toNat).map fun i : Nat => (i : Int)) else none
theorem ev_listRange {n : Int} {v : List Int} (h : fe A = .ok (.int n) A1) (hv : rgLO n = some v) : fListRange fe A = .ok (.mu (v.map D.int)) A1 := by
  unfold rgLO at hv
  split at hv
  · rename_i q; cases hv
    unfold fListRange; simp only [h, Ou.bind_ok, q, if_true]
  · cases hv
end
section
variable {κ ν : Type} {e : κ → D} {e1 : ν → D} {A A1 : Sl} {fe : FE} {d t : D} {kv : List (κ × ν)}
theorem ev_vals (h : fe A = .ok d A1) (hd : ∀ j, d ≠ .al j) (hz : fz d = eDL true e e1 kv) : fVals fe A = .ok (eM e1 (kv.map fun p => p.2)) A1 := by
  unfold fVals
  simp only [h, Ou.bind_ok, closeD_na hd, hz]
  show Ou.ok _ _ = Ou.ok (D.mu _) _
  rw [List.map_map]; rfl
theorem ev_valsA {j : Nat} (h : fe A = .ok (.al j) A1) (ht : A1[j]? = some (some t)) (hz : fz t = eDL true e e1 kv) : fVals fe A = .ok (eM e1 (kv.map fun p => p.2)) (A1.set j (some (eDL true e e1 kv))) := by
  unfold fVals
  simp only [h, Ou.bind_ok, closeD, ht, hz]
  have : fz (eDL true e e1 kv) = eDL true e e1 kv := by show fz (.fdi true _ _) = _; rw [fz]
  simp only [this]
  show Ou.ok _ _ = Ou.ok (D.mu _) _
  rw [List.map_map]; rfl
theorem prD_map : ∀ kv : List (κ × ν), prD (kv.map fun p => e p.1) (kv.map fun p => e1 p.2) = kv.map (eP e e1)
  | [] => rfl
  | p :: r => by
    have := prD_map r
    unfold prD at this ⊢
    rw [List.map_cons, List.map_cons, List.zipWith_cons_cons, this]
    rfl
theorem ev_items (h : fe A = .ok d A1) (hd : ∀ j, d ≠ .al j) (hz : fz d = eDL true e e1 kv) : fItems fe A = .ok (kv.map (eP e e1)) A1 := by
  unfold fItems
  simp only [h, Ou.bind_ok, closeD_na hd, hz, prD_map]
theorem ev_itemsA {j : Nat} (h : fe A = .ok (.al j) A1) (ht : A1[j]? = some (some t)) (hz : fz t = eDL true e e1 kv) : fItems fe A = .ok (kv.map (eP e e1)) (A1.set j (some (eDL true e e1 kv))) := by
  unfold fItems
  simp only [h, Ou.bind_ok, closeD, ht, hz]
  have : fz (eDL true e e1 kv) = eDL true e e1 kv := by show fz (.fdi true _ _) = _; rw [fz]
  simp only [this, prD_map]
end
/-! ### xs[k].append(x), xs[k].clear() -/
def nAppO {α : Type} (xs : List (List α)) (k : Int) (x : α) : Option (List (List α)) :=
  (ixN xs.length k).bind fun m => (xs[m]?).bind fun l => if l.length < sizeLine then some (xs.set m (l ++ [x])) else none
def nClrO {α : Type} (xs : List (List α)) (k : Int) : Option (List (List α)) :=
  (ixN xs.length k).bind fun m => if m < xs.length then some (xs.set m []) else none
section
variable {α : Type} {e : α → D} {A A1 : Sl} {fk : FE} {xs v : List (List α)} {k : Int} {i jv : Nat} {x : α}
theorem ev_napp (h0 : A[i]? = some (some (.mu (xs.map (eM e))))) (hk : fk A = .ok (.int k) A) (hx : A[jv]? = some (some (e x))) (hsc : isScal (e x) = true) (hf : ∀ x, isF (e x) = true) (hv : nAppO xs k x = some v) : fNApp i fk jv A = .ok .non (A.set i (some (.mu (v.map (eM e))))) := by
  have s0 : slotL i A = some (xs.map (eM e)) := by unfold slotL; rw [h0]
  unfold fNApp
  simp only [s0, hk, Ou.bind_ok, hx, List.length_map]
  unfold nAppO at hv
  cases hm : ixN xs.length k with
  | none => rw [hm] at hv; cases hv
  | some m =>
    rw [hm] at hv
    cases hl : xs[m]? with
    | none => simp only [Option.bind_some, hl] at hv; cases hv
    | some l =>
      simp only [Option.bind_some, hl] at hv
      split at hv
      · rename_i q
        cases hv
        have fs : isFs (l.map e) = true := isFs_map hf _
        have e0 : (xs.map (eM e))[m]? = some (.mu (l.map e)) := by rw [List.getElem?_map, hl]; rfl
        simp only [e0, fs, hsc, List.length_map, q, and_self, if_true]
        congr 4
        rw [List.map_set]
        congr 1
        show D.mu _ = D.mu _
        rw [List.map_append]; rfl
      · cases hv
theorem ev_nclr (h0 : A[i]? = some (some (.mu (xs.map (eM e))))) (hk : fk A = .ok (.int k) A) (hf : ∀ x, isF (e x) = true) (hv : nClrO xs k = some v) : fNClr i fk A = .ok .non (A.set i (some (.mu (v.map (eM e))))) := by
  have s0 : slotL i A = some (xs.map (eM e)) := by unfold slotL; rw [h0]
  unfold fNClr
  simp only [s0, hk, Ou.bind_ok, List.length_map]
  unfold nClrO at hv
  cases hm : ixN xs.length k with
  | none => rw [hm] at hv; cases hv
  | some m =>
    rw [hm] at hv
    simp only [Option.bind_some] at hv
    split at hv
    · rename_i q
      cases hv
      have fs : isFs ((xs[m]'q).map e) = true := isFs_map hf _
      have e0 : (xs.map (eM e))[m]? = some (.mu ((xs[m]'q).map e)) := by rw [List.getElem?_map, List.getElem?_eq_getElem q]; rfl
      simp only [e0, fs, if_true]
      rw [List.map_set]; rfl
    · cases hv
end
section
variable {T : Type} {Φ : T → Ou Fl → Prop} {p : Option T} {k k2 : FS} {A : Sl} {j : Nat} {ds : List D} {d' : D}
theorem sm_fz (hs : A[j]? = some (some (.mu ds))) (hz : fz (.mu ds) = d') (h : Sm (fSeq k k2 (A.set j (some d'))) Φ p) : Sm (fSeq (fFzS j k) k2 A) Φ p := by
  have s0 : slotL j A = some ds := by unfold slotL; rw [hs]
  have : fSeq (fFzS j k) k2 A = fSeq k k2 (A.set j (some d')) := by
    unfold fSeq fFzS
    simp only [s0, hz]
  rw [this]; exact h
theorem sm_raise {o : Ou Fl} : Sm o Φ (none : Option T) := fun t e => by cases e
end
/-! ### d.pop(k, []) -/
section
variable {κ α : Type} [DecidableEq κ] {e : κ → D} {ea : α → D} {nk : κ → NestedKey} {A : Sl} {fk : FE} {kv : List (κ × List α)} {k : κ} {i : Nat}
def dDel {ν : Type} : List (κ × ν) → κ → List (κ × ν)
  | [], _ => []
  | p :: r, k => if p.1 = k then r else p :: dDel r k
theorem dDel_ix {ν : Type} : ∀ (kv : List (κ × ν)) (k : κ), dDel kv k = match dIx kv k with
    | some j => kv.eraseIdx j
    | none => kv
  | [], _ => rfl
  | p :: r, k => by
    unfold dDel dIx
    rw [List.findIdx?_cons]
    by_cases h : p.1 = k
    · simp [h]
    · simp only [h, if_false, decide_false, Bool.false_eq_true]
      rw [dDel_ix r k]
      unfold dIx
      cases r.findIdx? fun p => decide (p.1 = k) <;> simp
theorem map_eraseIdx' {β γ : Type} {f : β → γ} : ∀ (xs : List β) (j : Nat), (xs.map f).eraseIdx j = (xs.eraseIdx j).map f
  | [], _ => by simp
  | x :: xs, 0 => rfl
  | x :: xs, j + 1 => by simp [map_eraseIdx' xs j]
def dPop (kv : List (κ × List α)) (k : κ) : List α × List (κ × List α) := ((dGet kv k).getD [], dDel kv k)
theorem ev_pop (h : KeyEnc e true nk) (hs0 : A[i]? = some (some (eDM true e (eM ea) kv))) (hk : fk A = .ok (e k) A) : fPop i fk A = .ok (eM ea (dPop kv k).1) (A.set i (some (eDM true e (eM ea) (dPop kv k).2))) := by
  have s0 : slotD i A = some (true, kv.map (fun p => e p.1), kv.map fun p => eM ea p.2) := by unfold slotD; rw [hs0]
  unfold fPop
  simp only [s0, hk, Ou.bind_ok, h.ok, if_true, ixD_d h]
  unfold dPop
  simp only [dDel_ix, dGet_ix]
  cases hj : dIx kv k with
  | none =>
    simp only [Option.bind_none, Option.getD_none]
    have e1 : A.set i (some (eDM true e (eM ea) kv)) = A := by
      refine List.ext_getElem? fun m => ?_
      rw [List.getElem?_set]
      split
      · rename_i q; subst q
        split
        · exact hs0.symm
        · rename_i q2; rw [List.getElem?_eq_none (by omega)]
      · rfl
    rw [e1]; rfl
  | some j =>
    obtain ⟨p, hp1, hp2⟩ := dIx_some hj
    have : (kv.map fun p => eM ea p.2)[j]? = some (.mu (p.2.map ea)) := by rw [List.getElem?_map, hp1]; rfl
    simp only [this, Option.bind_some, hp1, Option.map_some, Option.getD_some, map_eraseIdx']
theorem ev_popO {v : List α × List (κ × List α)} (h : KeyEnc e true nk) (hs0 : A[i]? = some (some (eDM true e (eM ea) kv))) (hk : fk A = .ok (e k) A) (hv : some (dPop kv k) = some v) : fPop i fk A = .ok (eM ea v.1) (A.set i (some (eDM true e (eM ea) v.2))) := by cases hv; exact ev_pop h hs0 hk
end
/-! ### looking through -/
section
variable {A A1 : Sl} {fe fk : FE}
theorem isFls_of {o : Ou Bool} {b : Bool} {A1 : Sl} (h : o = .ok b A1) (e : b = false) : isFls o = true := by subst e; rw [h]; rfl
theorem ev_look {i jp jn : Nat} {f1 f2 : FT} {xs : List (List Int)} (h0 : A[i]? = some (some (.mu (xs.map (eM D.int))))) (hp : jp < A.length) (hn : jn < A.length) (h1 : ∀ es : List Int, isFls (f1 (inA A.length jp (eL D.int es))) = true) (h2 : ∀ p : Int, isFls (f2 (inA A.length jn (.int p))) = true) : fLook i jp jn f1 f2 A = .ok .next (wipeA A [jp, jn]) := by
  have s0 : slotL i A = some (xs.map (eM D.int)) := by unfold slotL; rw [h0]
  unfold fLook
  simp only [s0]
  rw [if_pos]
  refine ⟨List.all_eq_true.mpr fun d hd => ?_, hp, hn⟩
  obtain ⟨es, _, rfl⟩ := List.mem_map.mp hd
  show (match intsOf (es.map D.int) with | some ps => isFls (f1 (inA A.length jp (.lst (es.map D.int)))) && ps.all fun p => isFls (f2 (inA A.length jn (.int p))) | none => false) = true
  rw [intsOf_map]
  exact (Bool.and_eq_true _ _).mpr ⟨h1 es, List.all_eq_true.mpr fun p _ => h2 p⟩
theorem ev_tupRange {n : Int} {v : List Int} (h : fe A = .ok (.int n) A1) (hv : rgLO n = some v) : fTupRange fe A = .ok (.tup (v.map D.int)) A1 := by
  unfold rgLO at hv
  split at hv
  · rename_i q; cases hv
    unfold fTupRange; simp only [h, Ou.bind_ok, q, if_true]
  · cases hv
theorem ev_nappI {i : Nat} {xs v : List (List Int)} {k c : Int} (h0 : A[i]? = some (some (.mu (xs.map (eM D.int))))) (hk : fk A = .ok (.int k) A) (hv : nAppO xs k c = some v) : fNAppI i fk c A = .ok .non (A.set i (some (.mu (v.map (eM D.int))))) := by
  have s0 : slotL i A = some (xs.map (eM D.int)) := by unfold slotL; rw [h0]
  unfold fNAppI
  simp only [s0, hk, Ou.bind_ok, List.length_map]
  unfold nAppO at hv
  cases hm : ixN xs.length k with
  | none => rw [hm] at hv; cases hv
  | some m =>
    rw [hm] at hv
    cases hl : xs[m]? with
    | none => simp only [Option.bind_some, hl] at hv; cases hv
    | some l =>
      simp only [Option.bind_some, hl] at hv
      split at hv
      · rename_i q
        cases hv
        have fs : isFs (l.map D.int) = true := isFs_map (fun x => by simp [isF]) _
        have e0 : (xs.map (eM D.int))[m]? = some (.mu (l.map D.int)) := by rw [List.getElem?_map, hl]; rfl
        simp only [e0, fs, List.length_map, q, and_self, if_true]
        congr 4
        rw [List.map_set]
        congr 1
        show D.mu _ = D.mu _
        rw [List.map_append]; rfl
      · cases hv
end
theorem ev_appM_al {α : Type} {A A1 : Sl} {fe : FE} {i j : Nat} {e : α → D} {xs v : List α} {x : α} (hs : A[i]? = some (some (.mu (xs.map e)))) (h : fe A = .ok (.al j) A1) (ht : A1[j]? = some (some (e x))) (hs1 : (A1.set j none)[i]? = some (some (.mu (xs.map e)))) (ha : appO xs x = some v) : fAppM i fe A = .ok .non ((A1.set j none).set i (some (.mu (v.map e)))) := by
  have s : slotL i A = some (xs.map e) := by unfold slotL; rw [hs]
  have s1 : slotL i (A1.set j none) = some (xs.map e) := by unfold slotL; rw [hs1]
  unfold appO at ha
  split at ha
  · rename_i q; cases ha
    unfold fAppM
    simp only [s, h, Ou.bind_ok, moveD, ht, s1, List.length_map, q, if_true, List.map_append]
    rfl
  · cases ha
def repT {α : Type} (xs : List α) (k : Int) : Option (List α) := if xs ≠ [] ∧ 2 ≤ k ∧ k ≤ 1000 ∧ xs.length ≤ 1000 then some (List.replicate k.toNat xs).flatten else none
theorem gMulT_o {α : Type} {A : Sl} {d : D} {e : α → D} {xs v : List α} {k : Int} (hs : see A d = .tup (xs.map e)) (h : repT xs k = some v) (hf : ∀ x, isF (e x) = true) : gMulT d (.int k) A = some (.tup (v.map e)) := by
  unfold repT at h
  split at h
  · rename_i q; cases h
    have fs : isFs (xs.map e) = true := by rw [isFs_all]; simp [hf]
    have ne : xs.map e ≠ [] := fun z => q.1 (List.map_eq_nil_iff.mp z)
    unfold gMulT
    rw [hs]
    simp only [fs, List.length_map, ne, q, ne_eq, not_false_eq_true, and_self, if_true, flatten_map_rep]
  · cases h
end Ab
end
section
/-! plain reasoning over typed functions -/
namespace Ab
open PySem L2
def Ok {α : Type} (x : Option α) (P : α → Prop) : Prop := ∃ v, x = some v ∧ P v
section
variable {α β γ S R T : Type} {P Q : α → Prop} {x : Option α}
theorem Ok.imp (h : Ok x P) (i : ∀ v, P v → Q v) : Ok x Q := let ⟨v, e, p⟩ := h; ⟨v, e, i v p⟩
theorem ok_some {v : α} (h : P v) : Ok (some v) P := ⟨v, rfl, h⟩
theorem ok_eq {v : α} (h : x = some v) (p : P v) : Ok x P := ⟨v, h, p⟩
theorem ok_bind {k : α → Option β} {Q : β → Prop} (h : Ok x P) (hk : ∀ v, P v → Ok (k v) Q) : Ok (x.bind k) Q := by
  obtain ⟨v, rfl, p⟩ := h
  exact hk v p
/-- by what comes exactly -/
theorem ok_b {k : α → Option β} {Q : β → Prop} {v : α} (h : x = some v) (hk : Ok (k v) Q) : Ok (x.bind k) Q := by
  rw [h]; exact hk
theorem ok_let {k : α → Option β} {Q : β → Prop} {v : α} (hk : Ok (k v) Q) : Ok ((some v).bind k) Q := hk
theorem ok_if {b : Bool} {p q : Option α} (h1 : b = true → Ok p P) (h2 : b = false → Ok q P) : Ok (if b = true then p else q) P := by
  cases b with
  | true => exact h1 rfl
  | false => exact h2 rfl
theorem ok_is {v : α} (h : Ok x fun y => y = v) : x = some v := by obtain ⟨_, e, rfl⟩ := h; exact e
theorem forS_ind {body : α → S → Option S} (I : Nat → S → Prop) : ∀ (xs : List α) (n : Nat) (s0 : S), I n s0 → (∀ i x s, xs[i]? = some x → I (n + i) s → Ok (body x s) (I (n + i + 1))) → Ok (forS body xs s0) (I (n + xs.length))
  | [], n, s0, h0, _ => ⟨s0, rfl, h0⟩
  | x :: xs, n, s0, h0, hs => by
    obtain ⟨s1, e1, h1⟩ := hs 0 x s0 rfl h0
    unfold forS
    rw [e1]
    have := forS_ind I xs (n + 1) s1 h1 fun i y s e h => by
      have := hs (i + 1) y s (by simpa using e) (by rw [show n + (i + 1) = n + 1 + i by omega]; exact h)
      rw [show n + (i + 1) + 1 = n + 1 + i + 1 by omega] at this
      exact this
    rw [List.length_cons, show n + (xs.length + 1) = n + 1 + xs.length by omega]
    exact this
theorem ok_forS {body : α → S → Option S} {xs : List α} {s0 : S} (I : Nat → S → Prop) (h0 : I 0 s0) (hs : ∀ i x s, xs[i]? = some x → I i s → Ok (body x s) (I (i + 1))) : Ok (forS body xs s0) (I xs.length) := by
  have := forS_ind I xs 0 s0 h0 fun i x s e h => by rw [Nat.zero_add] at h ⊢; exact hs i x s e h
  simpa using this
/-- a loop whose turns are plain -/
theorem forS_fold {body : α → S → Option S} (g : S → α → S) (I : Nat → S → Prop) : ∀ (xs : List α) (n : Nat) (s0 : S), I n s0 → (∀ i x s, xs[i]? = some x → I (n + i) s → body x s = some (g s x) ∧ I (n + i + 1) (g s x)) → forS body xs s0 = some (xs.foldl g s0) ∧ I (n + xs.length) (xs.foldl g s0)
  | [], n, s0, h0, _ => ⟨rfl, h0⟩
  | x :: xs, n, s0, h0, hs => by
    obtain ⟨e1, h1⟩ := hs 0 x s0 rfl h0
    unfold forS
    rw [e1]
    have := forS_fold g I xs (n + 1) (g s0 x) h1 fun i y s e h => by
      have := hs (i + 1) y s (by simpa using e) (by rw [show n + (i + 1) = n + 1 + i by omega]; exact h)
      rw [show n + (i + 1) + 1 = n + 1 + i + 1 by omega] at this
      exact this
    rw [List.length_cons, show n + (xs.length + 1) = n + 1 + xs.length by omega]
    exact this
/-- .. each turn puts some items behind what has been gathered -/
theorem forS_gather {body : α → List β → Option (List β)} (f : α → List β) (m : Nat) (xs : List α) (s0 : List β) (hf : ∀ x ∈ xs, (f x).length ≤ m) (hl : s0.length + xs.length * m ≤ sizeLine) (hb : ∀ x ∈ xs, ∀ s : List β, s.length + (f x).length ≤ sizeLine → body x s = some (s ++ f x)) : forS body xs s0 = some (s0 ++ xs.flatMap f) := by
  induction xs generalizing s0 with
  | nil => simp [forS]
  | cons x xs ih =>
    have h1 := hf x List.mem_cons_self
    rw [List.length_cons] at hl
    have e1 : (xs.length + 1) * m = xs.length * m + m := Nat.succ_mul _ _
    unfold forS
    rw [hb x List.mem_cons_self s0 (by omega)]
    show forS body xs (s0 ++ f x) = _
    rw [ih (s0 ++ f x) (fun y hy => hf y (List.mem_cons_of_mem _ hy)) (by rw [List.length_append]; omega) fun y hy => hb y (List.mem_cons_of_mem _ hy)]
    simp
theorem forS_maps {body : α → List β → Option (List β)} (f : α → β) (xs : List α) (s0 : List β) (hl : s0.length + xs.length ≤ sizeLine) (hb : ∀ x ∈ xs, ∀ s : List β, s.length < sizeLine → body x s = some (s ++ [f x])) : forS body xs s0 = some (s0 ++ xs.map f) := by
  rw [forS_gather (fun x => [f x]) 1 xs s0 (fun _ _ => by simp) (by omega) (fun x hx s hs => hb x hx s (by simp at hs; omega))]
  congr 2
  induction xs with
  | nil => rfl
  | cons x xs ih => rw [List.flatMap_cons, List.map_cons, ih (by simp at hl; omega) (fun y hy => hb y (List.mem_cons_of_mem _ hy))]; rfl
theorem forS_filt {body : α → List β → Option (List β)} (p : α → Bool) (f : α → β) (xs : List α) (s0 : List β) (hl : s0.length + xs.length ≤ sizeLine) (hb : ∀ x ∈ xs, ∀ s : List β, s.length < sizeLine → body x s = some (if p x = true then s ++ [f x] else s)) : forS body xs s0 = some (s0 ++ (xs.filter p).map f) := by
  induction xs generalizing s0 with
  | nil => simp [forS]
  | cons x xs ih =>
    rw [List.length_cons] at hl
    unfold forS
    rw [hb x List.mem_cons_self s0 (by omega)]
    show forS body xs _ = _
    by_cases h : p x = true
    · rw [if_pos h, ih _ (by rw [List.length_append, List.length_singleton]; omega) fun y hy => hb y (List.mem_cons_of_mem _ hy), List.filter_cons_of_pos h]
      simp
    · rw [if_neg h, ih _ (by omega) fun y hy => hb y (List.mem_cons_of_mem _ hy), List.filter_cons_of_neg h]
theorem ok_forP {body : α → S → Option (Stp S R)} {Q : S ⊕ R → Prop} (I : Nat → S → Prop) : ∀ (xs : List α) (n : Nat) (s0 : S), I n s0 → (∀ i x s, xs[i]? = some x → I (n + i) s → Ok (body x s) fun r => match r with | .go s' => I (n + i + 1) s' | .brk s' => Q (.inl s') | .ret r => Q (.inr r)) → (∀ s, I (n + xs.length) s → Q (.inl s)) → Ok (forP body xs s0) Q
  | [], n, s0, h0, _, hq => ⟨.inl s0, rfl, hq s0 h0⟩
  | x :: xs, n, s0, h0, hs, hq => by
    obtain ⟨r, e1, h1⟩ := hs 0 x s0 rfl h0
    unfold forP
    rw [e1]
    cases r with
    | go s1 =>
      exact ok_forP I xs (n + 1) s1 h1 (fun i y s e h => by
        have := hs (i + 1) y s (by simpa using e) (by rw [show n + (i + 1) = n + 1 + i by omega]; exact h)
        rw [show n + (i + 1) + 1 = n + 1 + i + 1 by omega] at this
        exact this) fun s h => hq s (by rw [List.length_cons, show n + (xs.length + 1) = n + 1 + xs.length by omega]; exact h)
    | brk s1 => exact ⟨_, rfl, h1⟩
    | ret r => exact ⟨_, rfl, h1⟩
/-- a search that finds nothing -/
theorem forP_all {body : α → Unit → Option (Stp Unit R)} {xs : List α} (h : ∀ x ∈ xs, body x () = some (.go ())) : forP body xs () = some (.inl ()) := by
  induction xs with
  | nil => rfl
  | cons x xs ih =>
    unfold forP
    rw [h x List.mem_cons_self]
    exact ih fun y hy => h y (List.mem_cons_of_mem _ hy)
theorem compO_ok {xs : List α} {c : α → Bool} {f : α → β} (h : xs.length ≤ sizeLine) : compO xs c f = some ((xs.filter c).map f) := by unfold compO; rw [if_pos h]
theorem compO_all {xs : List α} {f : α → β} (h : xs.length ≤ sizeLine) : compO xs (fun _ => true) f = some (xs.map f) := by
  rw [compO_ok h, List.filter_eq_self.mpr fun _ _ => rfl]
theorem compP_ok {xs : List α} {c : α → Option Bool} {f : α → Option β} (c' : α → Bool) (f' : α → β) (h : xs.length ≤ sizeLine) (hc : ∀ x ∈ xs, c x = some (c' x) ∧ (c' x = true → f x = some (f' x))) : compP xs c f = some ((xs.filter c').map f') := by
  unfold compP
  rw [if_pos h]
  clear h
  induction xs with
  | nil => rfl
  | cons x xs ih =>
    obtain ⟨h1, h2⟩ := hc x List.mem_cons_self
    have ih := ih fun y hy => hc y (List.mem_cons_of_mem _ hy)
    unfold compR
    rw [h1]
    show (if c' x = true then _ else _) = _
    by_cases q : c' x = true
    · rw [if_pos q, h2 q, ih, List.filter_cons_of_pos q]; rfl
    · rw [if_neg q, ih, List.filter_cons_of_neg q]
theorem compP_map {xs : List α} {f : α → Option β} (f' : α → β) (h : xs.length ≤ sizeLine) (hc : ∀ x ∈ xs, f x = some (f' x)) : compP xs (fun _ => some true) f = some (xs.map f') := by
  rw [compP_ok (fun _ => true) f' h fun x hx => ⟨rfl, fun _ => hc x hx⟩, List.filter_eq_self.mpr fun _ _ => rfl]
theorem appO_ok {xs : List α} {x : α} (h : xs.length < sizeLine) : appO xs x = some (xs ++ [x]) := by unfold appO; rw [if_pos h]
theorem catO_ok {xs ys : List α} (h : xs.length + ys.length ≤ sizeLine) : catO xs ys = some (xs ++ ys) := by unfold catO; rw [if_pos h]
theorem mulO_l {a b : Int} (h : -18446744073709551616 < a ∧ a < 18446744073709551616) : mulO a b = some (a * b) := by unfold mulO; rw [if_pos (cMul_l h)]
theorem mulO_r {a b : Int} (h : -18446744073709551616 < b ∧ b < 18446744073709551616) : mulO a b = some (a * b) := by unfold mulO; rw [if_pos (cMul_r h)]
theorem modO_ok {a b : Int} (h : 0 < b) : modO a b = some (a % b) := by unfold modO; rw [if_pos h]
theorem divO_ok {a b : Int} (h : 0 < b) (h2 : b ≤ 1000000000000000000000000000000000000000000000000000000000000000000000) : divO a b = some (a / b) := by unfold divO; rw [if_pos ⟨h, h2⟩]
theorem repO_one {x : α} {k : Nat} (h : k ≤ 1000000) : repO [x] (k : Int) = some (List.replicate k x) := by
  unfold repO
  have := sizeLine_eq
  rw [if_pos ⟨by omega, by simp; omega⟩]
  simp
/-- the whole numbers below h -/
def rg (h : Nat) : List Int := (List.range h).map fun i : Nat => (i : Int)
theorem rg_len (h : Nat) : (rg h).length = h := by simp [rg]
theorem mem_rg {h : Nat} {x : Int} : x ∈ rg h ↔ 0 ≤ x ∧ x < h := by
  unfold rg
  rw [List.mem_map]
  constructor
  · rintro ⟨i, hi, rfl⟩; have := List.mem_range.mp hi; omega
  · rintro ⟨h0, h1⟩; exact ⟨x.toNat, List.mem_range.mpr (by omega), by omega⟩
theorem nodup_map_on {f : α → β} : ∀ {l : List α}, l.Nodup → (∀ a ∈ l, ∀ b ∈ l, f a = f b → a = b) → (l.map f).Nodup
  | [], _, _ => by simp
  | a :: l, h, inj => by
    rw [List.nodup_cons] at h
    rw [List.map_cons, List.nodup_cons]
    refine ⟨fun m => ?_, nodup_map_on h.2 fun x hx y hy e => inj x (List.mem_cons_of_mem _ hx) y (List.mem_cons_of_mem _ hy) e⟩
    obtain ⟨b, hb, e⟩ := List.mem_map.mp m
    exact h.1 (inj b (List.mem_cons_of_mem _ hb) a List.mem_cons_self e ▸ hb)
theorem rg_nodup (h : Nat) : (rg h).Nodup := by
  unfold rg
  exact List.Pairwise.map _ (fun a b h e => h (by have e : (a : Int) = (b : Int) := e; omega)) List.nodup_range
theorem rg_get {h i : Nat} {x : Int} (e : (rg h)[i]? = some x) : x = i ∧ i < h := by
  have hi : i < h := by have := (List.getElem?_eq_some_iff.mp e).1; rwa [rg_len] at this
  unfold rg at e
  rw [List.getElem?_map, List.getElem?_range hi] at e
  exact ⟨(Option.some.inj e).symm, hi⟩
theorem rg_at {h i : Nat} (hi : i < h) : (rg h)[i]? = some (i : Int) := by
  unfold rg
  rw [List.getElem?_map, List.getElem?_range hi]; rfl
theorem rg_succ (h : Nat) : rg (h + 1) = rg h ++ [(h : Int)] := by unfold rg; rw [List.range_succ, List.map_append]; rfl
/-- places of a list set, one behind the other -/
theorem forS_sets {body : Int → List β → Option (List β)} (p : Int → Bool) (f : Int → β) (d : β) (h : Nat) (hb : ∀ x : Int, 0 ≤ x → x < h → ∀ s : List β, s.length = h → body x s = some (if p x = true then s.set x.toNat (f x) else s)) : forS body (rg h) (List.replicate h d) = some ((rg h).map fun x => if p x = true then f x else d) := by
  obtain ⟨s, e, hs⟩ := ok_forS (body := body) (xs := rg h) (s0 := List.replicate h d) (fun i s => s = ((rg i).map fun x => if p x = true then f x else d) ++ List.replicate (h - i) d) (by simp [rg]) fun i x s hx hs => by
    obtain ⟨rfl, hi⟩ := rg_get hx
    have hl : s.length = h := by rw [hs]; simp [rg_len]; omega
    have e2 : h - i = (h - (i + 1)) + 1 := by omega
    refine ok_eq (hb i (by omega) (by omega) s hl) ?_
    rw [rg_succ, List.map_append, hs, e2, List.replicate_succ]
    have ht : ((i : Int)).toNat = i := by simp
    by_cases q : p i = true
    · rw [if_pos q, ht, List.set_append_right _ _ (by simp [rg_len])]
      simp [rg_len, q]
    · rw [if_neg q]
      simp [q]
  rw [e, hs, rg_len]
  simp
theorem rgO_ok {h : Nat} (hb : h < 4611686018427387904) : rgO (h : Int) = some (rg h) := by
  unfold rgO rg
  rw [if_pos (by omega)]
  simp
theorem rgO_int {n : Int} (h0 : 0 ≤ n) (hb : n < 4611686018427387904) : rgO n = some (rg n.toNat) := by
  obtain ⟨k, rfl⟩ := Int.eq_ofNat_of_zero_le h0
  rw [rgO_ok (by omega)]; simp
theorem atI_ok {xs : List α} {i : Int} {d : α} (h0 : 0 ≤ i) (h : i < xs.length) : atI xs i = some (xs.getD i.toNat d) := atI_nn h0 (getD_get (by omega))
theorem atI_get0 {xs : List α} {i : Int} {x : α} (h0 : 0 ≤ i) (h : xs[i.toNat]? = some x) : atI xs i = some x := atI_nn h0 h
theorem setO_ok {xs : List α} {i : Int} {x : α} (h0 : 0 ≤ i) (h : i < xs.length) : setO xs i x = some (xs.set i.toNat x) := by
  unfold setO ixN
  rw [if_pos h0, if_pos (by omega)]; rfl
theorem enumL_get {xs : List α} {i : Nat} {p : Int × α} (h : (enumL xs)[i]? = some p) : p.1 = i ∧ xs[i]? = some p.2 := by
  unfold enumL at h
  rw [List.getElem?_zip_eq_some] at h
  obtain ⟨h1, h2⟩ := h
  have := rg_get (h := xs.length) (i := i) (x := p.1) h1
  exact ⟨this.1, h2⟩
theorem enumL_len (xs : List α) : (enumL xs).length = xs.length := by unfold enumL; simp
theorem mem_getElem {xs : List α} {i : Nat} {x : α} (h : xs[i]? = some x) : x ∈ xs := List.mem_of_getElem? h
end
end Ab
end
section
/-! parts: numbers joined by rows; the walk from part to part, and the least names, tell the same -/
namespace Ab
open PySem L2
/-! ### joined by rows -/
inductive Con (rows : List (List Int)) : Int → Int → Prop
  | refl (a : Int) : Con rows a a
  | step {r : List Int} {a b c : Int} : r ∈ rows → a ∈ r → b ∈ r → Con rows b c → Con rows a c
section
variable {rows : List (List Int)} {a b c : Int}
theorem Con.one {r : List Int} (h : r ∈ rows) (ha : a ∈ r) (hb : b ∈ r) : Con rows a b := .step h ha hb (.refl b)
theorem Con.trans (h : Con rows a b) (h2 : Con rows b c) : Con rows a c := by
  induction h with
  | refl => exact h2
  | step m x y _ ih => exact .step m x y (ih h2)
theorem Con.symm (h : Con rows a b) : Con rows b a := by
  induction h with
  | refl => exact .refl _
  | step m x y _ ih => exact ih.trans (.one m y x)
theorem Con.closed {S : Int → Prop} (hS : ∀ r ∈ rows, ∀ a ∈ r, ∀ b ∈ r, S a → S b) (h : Con rows a b) (ha : S a) : S b := by
  induction h with
  | refl => exact ha
  | step m x y _ ih => exact ih (hS _ m _ x _ y ha)
theorem Con.rng {m : Nat} (hr : ∀ r ∈ rows, ∀ x ∈ r, 0 ≤ x ∧ x < (m : Int)) (h : Con rows a b) (ha : 0 ≤ a ∧ a < (m : Int)) : 0 ≤ b ∧ b < (m : Int) :=
  h.closed (S := fun x => 0 ≤ x ∧ x < (m : Int)) (fun r hm x _ y hy _ => hr r hm y hy) ha
end
def LeastC (rows : List (List Int)) (f : Int) : Prop := ∀ g, 0 ≤ g → g < f → ¬ Con rows g f
open Classical in
noncomputable def compsL (rows : List (List Int)) (m k : Nat) : List (List Int) :=
  ((rg k).filter fun f => decide (LeastC rows f)).map fun f => (rg m).filter fun n => decide (Con rows f n)
/-! ### small things -/
theorem pt_take {α : Type} {xs : List α} {i : Nat} {x y : α} (h : xs[i]? = some x) : y ∈ xs.take (i + 1) ↔ y ∈ xs.take i ∨ y = x := by
  rw [List.take_add_one, h, List.mem_append]
  simp
theorem pt_all {α : Type} {xs : List α} {y : α} : y ∈ xs.take xs.length ↔ y ∈ xs := by rw [List.take_length]
theorem pt_len : ∀ {h : Nat} {l : List Int}, l.Nodup → (∀ x ∈ l, 0 ≤ x ∧ x < (h : Int)) → l.length ≤ h
  | 0, [], _, _ => Nat.le_refl _
  | 0, x :: _, _, k => by have := k x List.mem_cons_self; omega
  | h + 1, l, n, k => by
    have := pt_len (h := h) (n.erase (h : Int)) fun x m => by
      have a := k x (List.mem_of_mem_erase m)
      have b : x ≠ (h : Int) := fun e => (n.not_mem_erase (a := (h : Int))) (by rw [← e]; exact (by rw [← e] at m; exact m))
      omega
    by_cases m : (h : Int) ∈ l
    · rw [List.length_erase_of_mem m] at this; omega
    · rw [List.erase_of_not_mem m] at this; omega
theorem pt_dHas {κ ν : Type} [DecidableEq κ] (d : List (κ × ν)) (k : κ) : dHas d k = true ↔ k ∈ d.map (·.1) := by
  unfold dHas
  induction d with
  | nil => simp [dGet]
  | cons p r ih =>
    unfold dGet
    by_cases q : p.1 = k
    · simp [q]
    · rw [if_neg q, ih, List.map_cons, List.mem_cons]
      constructor
      · exact .inr
      · rintro (e | e)
        · exact absurd e.symm q
        · exact e
theorem pt_dput {κ ν : Type} [DecidableEq κ] (d : List (κ × ν)) (k k' : κ) (v : ν) : dHas (dPut d k v) k' = true ↔ k' = k ∨ dHas d k' = true := by
  unfold dHas
  rw [dGet_put]
  by_cases q : k' = k <;> simp [q]
theorem pt_dnd {κ ν : Type} [DecidableEq κ] (d : List (κ × ν)) (k : κ) (v : ν) (h : (d.map (·.1)).Nodup) : ((dPut d k v).map (·.1)).Nodup := by
  induction d with
  | nil => simp [dPut]
  | cons p r ih =>
    rw [List.map_cons, List.nodup_cons] at h
    unfold dPut
    by_cases q : p.1 = k
    · rw [if_pos q, List.map_cons, List.nodup_cons]; exact h
    · rw [if_neg q, List.map_cons, List.nodup_cons]
      refine ⟨fun m => ?_, ih h.2⟩
      rcases (pt_dput r k p.1 v).mp ((pt_dHas _ _).mpr m) with e | e
      · exact q e
      · exact h.1 ((pt_dHas _ _).mp e)
theorem dPutO_ok {κ ν : Type} [DecidableEq κ] {d : List (κ × ν)} {k : κ} {v : ν} (h : d.length < sizeLine) : dPutO d k v = some (dPut d k v) := by unfold dPutO; rw [if_pos h]
theorem ok_while {S : Type} {c : S → Option Bool} {body : S → Option S} (I : S → Prop) (μ : S → Nat) : ∀ (n : Nat) (s0 : S), I s0 → μ s0 < n → (∀ s, I s → ∃ b, c s = some b) → (∀ s, I s → c s = some true → Ok (body s) fun s' => I s' ∧ μ s' < μ s) → Ok (whileS c body n s0) fun s => I s ∧ c s = some false
  | 0, _, _, h, _, _ => by omega
  | n + 1, s0, h0, hm, hc, hb => by
    obtain ⟨b, eb⟩ := hc s0 h0
    unfold whileS
    rw [eb]
    cases b with
    | false => exact ⟨s0, rfl, h0, eb⟩
    | true =>
      obtain ⟨s1, e1, h1, h2⟩ := hb s0 h0 eb
      show Ok ((body s0).bind fun s' => whileS c body n s') _
      rw [e1]
      exact ok_while I μ n s1 h1 (by omega) hc hb
theorem rg_take {m i : Nat} (h : i ≤ m) : (rg m).take i = rg i := by
  unfold rg
  rw [← List.map_take, List.take_range, Nat.min_eq_left h]
theorem rg_sorted (m : Nat) : (rg m).Pairwise (· ≤ ·) := by
  unfold rg
  exact List.Pairwise.map _ (fun a b h => by show (a : Int) ≤ b; omega) (List.pairwise_lt_range (n := m))
/-! ### who stands beside whom -/
def nb (s : List (List Int)) (a y : Int) : Prop := 0 ≤ a ∧ y ∈ s.getD a.toNat []
theorem nApp_ok {s : List (List Int)} {k x : Int} {c : Nat} (h0 : 0 ≤ k ∧ k < (s.length : Int)) (hc : ∀ l ∈ s, l.length ≤ c) (hz : c < sizeLine) : Ok (nAppO s k x) fun v => v.length = s.length ∧ (∀ l ∈ v, l.length ≤ c + 1) ∧ ∀ a y, nb v a y ↔ nb s a y ∨ a = k ∧ y = x := by
  have hk : k.toNat < s.length := by omega
  unfold nAppO ixN
  rw [if_pos h0.1, if_pos (by omega)]
  refine ok_let ?_
  rw [List.getElem?_eq_getElem hk]
  refine ok_let ?_
  have hm := hc _ (List.getElem_mem hk)
  rw [if_pos (by omega)]
  refine ok_some ⟨by simp, fun l hl => ?_, fun a y => ?_⟩
  · rcases List.mem_or_eq_of_mem_set hl with m | e
    · have := hc l m; omega
    · rw [e, List.length_append, List.length_singleton]; omega
  · unfold nb
    by_cases ha : 0 ≤ a
    · by_cases e : a = k
      · subst e
        simp [h0.1, hk, List.getD_eq_getElem?_getD]
      · have : k.toNat ≠ a.toNat := by omega
        simp [ha, e, this, List.getD_eq_getElem?_getD]
    · have : a ≠ k := by omega
      simp [ha, this]
def nearPut (s : List (List Int)) (x : Int × Int) : Option (List (List Int)) := (nAppO s x.1 x.2).bind fun v28 => (nAppO v28 x.2 x.1).bind fun v29 => some v29
def nearRow (x4 : List Int) (s : List (List Int)) : Option (List (List Int)) := (forS (fun (x22 : Int × Int) (s27 : List (List Int)) => nearPut s27 x22) (List.zip x4 (cutG x4 (some (1 : Int)) none)) s).bind fun s27 => some s27
theorem nearPut_ok {s : List (List Int)} {p : Int × Int} {c : Nat} (h1 : 0 ≤ p.1 ∧ p.1 < (s.length : Int)) (h2 : 0 ≤ p.2 ∧ p.2 < (s.length : Int)) (hc : ∀ l ∈ s, l.length ≤ c) (hz : c + 1 < sizeLine) : Ok (nearPut s p) fun v => v.length = s.length ∧ (∀ l ∈ v, l.length ≤ c + 2) ∧ ∀ a y, nb v a y ↔ nb s a y ∨ p = (a, y) ∨ p = (y, a) := by
  unfold nearPut
  refine ok_bind (nApp_ok h1 hc (by omega)) fun v ⟨a1, a2, a3⟩ => ?_
  refine ok_bind (nApp_ok (by rw [a1]; exact h2) a2 (by omega)) fun w ⟨b1, b2, b3⟩ => ?_
  refine ok_some ⟨by omega, b2, fun a y => ?_⟩
  rw [b3, a3]
  obtain ⟨p1, p2⟩ := p
  simp only [Prod.mk.injEq]
  constructor
  · rintro ((q | ⟨rfl, rfl⟩) | ⟨rfl, rfl⟩)
    · exact .inl q
    · exact .inr (.inl ⟨rfl, rfl⟩)
    · exact .inr (.inr ⟨rfl, rfl⟩)
  · rintro (q | ⟨rfl, rfl⟩ | ⟨rfl, rfl⟩)
    · exact .inl (.inl q)
    · exact .inl (.inr ⟨rfl, rfl⟩)
    · exact .inr ⟨rfl, rfl⟩
theorem cut1 {α : Type} (xs : List α) (h : xs ≠ []) : cutG xs (some (1 : Int)) none = xs.drop 1 := by
  have hl : 1 ≤ xs.length := by cases xs with
    | nil => exact absurd rfl h
    | cons x xs => simp
  have e1 : HT.sIx xs.length 0 (some 1) = 1 := by unfold HT.sIx; simp; omega
  have e2 : HT.sIx xs.length xs.length none = xs.length := rfl
  unfold cutG
  rw [e1, e2, List.take_of_length_le]
  rw [List.length_drop]
  exact Nat.le_refl _
def adj (r : List Int) : List (Int × Int) := List.zip r (r.drop 1)
theorem adj_mem {r : List Int} {p : Int × Int} (h : p ∈ adj r) : p.1 ∈ r ∧ p.2 ∈ r := by
  obtain ⟨a, b⟩ := p
  have := List.of_mem_zip h
  exact ⟨this.1, List.mem_of_mem_drop this.2⟩
theorem adj_len (r : List Int) : (adj r).length ≤ r.length := by unfold adj; rw [List.length_zip]; omega
theorem nearRow_ok {s : List (List Int)} {r : List Int} {c : Nat} (hr : ∀ x ∈ r, 0 ≤ x ∧ x < (s.length : Int)) (hn : r ≠ []) (hc : ∀ l ∈ s, l.length ≤ c) (hz : c + 2 * r.length < sizeLine) : Ok (nearRow r s) fun v => v.length = s.length ∧ (∀ l ∈ v, l.length ≤ c + 2 * r.length) ∧ ∀ a y, nb v a y ↔ nb s a y ∨ ∃ p ∈ adj r, p = (a, y) ∨ p = (y, a) := by
  unfold nearRow
  rw [cut1 r hn]
  have hl := adj_len r
  show Ok ((forS (fun x22 s27 => nearPut s27 x22) (adj r) s).bind _) _
  refine ok_bind (ok_forS (fun i v => v.length = s.length ∧ (∀ l ∈ v, l.length ≤ c + 2 * i) ∧ ∀ a y, nb v a y ↔ nb s a y ∨ ∃ p ∈ (adj r).take i, p = (a, y) ∨ p = (y, a)) ⟨rfl, hc, fun a y => by simp⟩ fun i p v hx ⟨a1, a2, a3⟩ => ?_) fun v ⟨a1, a2, a3⟩ => ?_
  · have hi : i < (adj r).length := (List.getElem?_eq_some_iff.mp hx).1
    have hm := adj_mem (mem_getElem hx)
    refine (nearPut_ok (by rw [a1]; exact hr _ hm.1) (by rw [a1]; exact hr _ hm.2) a2 (by omega)).imp fun w ⟨b1, b2, b3⟩ => ⟨by omega, fun l hl => by have := b2 l hl; omega, fun a y => ?_⟩
    rw [b3, a3]
    constructor
    · rintro ((q | ⟨q, m, e⟩) | e)
      · exact .inl q
      · exact .inr ⟨q, (pt_take hx).mpr (.inl m), e⟩
      · exact .inr ⟨p, (pt_take hx).mpr (.inr rfl), e⟩
    · rintro (q | ⟨q, m, e⟩)
      · exact .inl (.inl q)
      · rcases (pt_take hx).mp m with m | rfl
        · exact .inl (.inr ⟨q, m, e⟩)
        · exact .inr e
  · exact ok_some ⟨a1, fun l hl => by have := a2 l hl; omega, fun a y => by rw [a3, List.take_length]⟩
theorem near_ok {m L : Nat} {rows : List (List Int)} (hr : ∀ r ∈ rows, ∀ x ∈ r, 0 ≤ x ∧ x < (m : Int)) (hn : ∀ r ∈ rows, r ≠ []) (hL : ∀ r ∈ rows, r.length ≤ L) (hz : 2 * L * rows.length < sizeLine) : Ok (forS nearRow rows (List.replicate m [])) fun v => v.length = m ∧ ∀ a y, nb v a y ↔ ∃ r ∈ rows, ∃ p ∈ adj r, p = (a, y) ∨ p = (y, a) := by
  refine (ok_forS (fun i v => v.length = m ∧ (∀ l ∈ v, l.length ≤ 2 * L * i) ∧ ∀ a y, nb v a y ↔ ∃ r ∈ rows.take i, ∃ p ∈ adj r, p = (a, y) ∨ p = (y, a)) ⟨by simp, fun l hl => by rw [(List.mem_replicate.mp hl).2]; simp, fun a y => ?_⟩ fun i r v hx ⟨a1, a2, a3⟩ => ?_).imp fun v ⟨a1, a2, a3⟩ => ⟨a1, fun a y => by rw [a3, List.take_length]⟩
  · unfold nb
    simp only [List.take_zero, List.not_mem_nil, false_and, exists_false, iff_false]
    rintro ⟨_, h⟩
    rw [List.getD_eq_getElem?_getD, List.getElem?_replicate] at h
    split at h <;> simp at h
  · have hi : i < rows.length := (List.getElem?_eq_some_iff.mp hx).1
    have hm := mem_getElem hx
    have hl := hL r hm
    have e1 : 2 * L * (i + 1) = 2 * L * i + 2 * L := by rw [Nat.mul_succ]
    have e2 : 2 * L * (i + 1) ≤ 2 * L * rows.length := Nat.mul_le_mul_left _ hi
    refine (nearRow_ok (c := 2 * L * i) (by rw [a1]; exact hr r hm) (hn r hm) a2 (by omega)).imp fun w ⟨b1, b2, b3⟩ => ⟨by omega, fun l hl => by have := b2 l hl; omega, fun a y => ?_⟩
    rw [b3, a3]
    constructor
    · rintro (⟨q, k, e⟩ | ⟨p, k, e⟩)
      · exact ⟨q, (pt_take hx).mpr (.inl k), e⟩
      · exact ⟨r, (pt_take hx).mpr (.inr rfl), p, k, e⟩
    · rintro ⟨q, k, e⟩
      rcases (pt_take hx).mp k with k | rfl
      · exact .inl ⟨q, k, e⟩
      · exact .inr e
/-- what is closed under standing beside is closed under the rows -/
theorem adj_all {S : Int → Prop} : ∀ {r : List Int} (_ : ∀ p ∈ adj r, S p.1 ↔ S p.2) (h : Int), r.head? = some h → ∀ a ∈ r, S a ↔ S h
  | [], _, _, e, _, _ => by cases e
  | [x], _, h, e, a, m => by cases e; rw [List.mem_singleton.mp m]
  | x :: y :: r, hp, h, e, a, m => by
    cases e
    have h1 : S x ↔ S y := hp (x, y) (by unfold adj; simp)
    have ih := adj_all (S := S) (r := y :: r) (fun p hq => hp p (by unfold adj at hq ⊢; simp only [List.drop_succ_cons, List.drop_zero, List.zip_cons_cons, List.mem_cons] at hq ⊢; exact .inr hq)) y rfl
    rcases List.mem_cons.mp m with rfl | m
    · exact Iff.rfl
    · exact (ih a m).trans h1.symm
theorem adj_row {S : Int → Prop} {r : List Int} (hp : ∀ p ∈ adj r, S p.1 ↔ S p.2) {a b : Int} (ha : a ∈ r) (hb : b ∈ r) (h : S a) : S b := by
  cases r with
  | nil => cases ha
  | cons x r => exact (adj_all hp x rfl b hb).mpr ((adj_all hp x rfl a ha).mp h)
end Ab
end
section
namespace Ab
open PySem L2
/-! ### the walk -/
abbrev Met := List (Int × Bool)
def bfsIn (x134 : Int) (s139 : Met × List Int) : Option (Met × List Int) := if (!dHas s139.1 x134) = true then ((dPutO s139.1 x134 true).bind fun v140 => (appO s139.2 x134).bind fun v141 => some (v140, v141)) else (some (s139.1, s139.2))
def bfsC (s131 : Met × List Int × Int) : Option Bool := some (decide (s131.2.2 < (s131.2.1.length : Int)))
def bfsB (s21 : List (List Int)) (s131 : Met × List Int × Int) : Option (Met × List Int × Int) := (atI s131.2.1 s131.2.2).bind fun v132 => (atI s21 v132).bind fun v133 => (forS bfsIn v133 (s131.1, s131.2.1)).bind fun s139 => (some ((s131.2.2 + (1 : Int)))).bind fun (at_142 : Int) => some (s139.1, s139.2, at_142)
/-- what the walk has met: m0 before, and part -/
structure Bf (m : Nat) (rows : List (List Int)) (k : Int) (m0 met : Met) (part : List Int) : Prop where
  nd : part.Nodup
  inn : ∀ x ∈ part, (0 ≤ x ∧ x < (m : Int)) ∧ Con rows k x
  k : k ∈ part
  ms : ∀ x, dHas met x = true ↔ dHas m0 x = true ∨ x ∈ part
  mn : (met.map (·.1)).Nodup
  mr : ∀ x, dHas met x = true → 0 ≤ x ∧ x < (m : Int)
section
variable {m : Nat} {rows : List (List Int)} {k : Int} {m0 met : Met} {part : List Int}
theorem Bf.len (b : Bf m rows k m0 met part) : part.length ≤ m := pt_len b.nd fun x h => (b.inn x h).1
theorem met_len {m : Nat} {met : Met} (mn : (met.map (·.1)).Nodup) (mr : ∀ x, dHas met x = true → 0 ≤ x ∧ x < (m : Int)) : met.length ≤ m := by
  have := pt_len mn fun x h => mr x ((pt_dHas _ _).mpr h)
  rwa [List.length_map] at this
theorem bfsIn_ok (hm : m < sizeLine) (h0 : ∀ x, Con rows k x → dHas m0 x = false) (b : Bf m rows k m0 met part) {y : Int} (hy : 0 ≤ y ∧ y < (m : Int)) (hc : Con rows k y) : Ok (bfsIn y (met, part)) fun s => Bf m rows k m0 s.1 s.2 ∧ y ∈ s.2 ∧ part <+: s.2 := by
  have l1 := b.len
  have l2 := met_len b.mn b.mr
  unfold bfsIn
  refine ok_if (fun hb => ?_) (fun hb => ?_)
  · have hb : dHas met y = false := by simpa using hb
    have ny : y ∉ part := fun q => by rw [(b.ms y).mpr (.inr q)] at hb; cases hb
    show Ok ((dPutO met y true).bind _) _
    refine ok_b (dPutO_ok (by omega)) (ok_b (appO_ok (by show part.length < _; omega)) (ok_some ⟨⟨?_, ?_, ?_, ?_, ?_, ?_⟩, by simp, by simp⟩))
    · rw [List.nodup_append]
      exact ⟨b.nd, by simp, fun a ha c hc e => ny (by simp at hc; rw [← hc, ← e]; exact ha)⟩
    · intro x hx
      rcases List.mem_append.mp hx with q | q
      · exact b.inn x q
      · rw [List.mem_singleton.mp q]; exact ⟨hy, hc⟩
    · exact List.mem_append_left _ b.k
    · intro x
      show dHas (dPut met y true) x = true ↔ _
      rw [pt_dput, b.ms, List.mem_append, List.mem_singleton]
      constructor
      · rintro (q | q | q)
        · exact .inr (.inr q)
        · exact .inl q
        · exact .inr (.inl q)
      · rintro (q | q | q)
        · exact .inr (.inl q)
        · exact .inr (.inr q)
        · exact .inl q
    · exact pt_dnd _ _ _ b.mn
    · intro x hx
      rcases (pt_dput _ _ _ _).mp hx with rfl | q
      · exact hy
      · exact b.mr x q
  · have hb : dHas met y = true := by simpa using hb
    refine ok_some ⟨b, ?_, List.prefix_rfl⟩
    rcases (b.ms y).mp hb with q | q
    · rw [h0 y hc] at q; cases q
    · exact q
theorem bfsFor_ok (hm : m < sizeLine) (h0 : ∀ x, Con rows k x → dHas m0 x = false) (b : Bf m rows k m0 met part) {ys : List Int} (hy : ∀ y ∈ ys, (0 ≤ y ∧ y < (m : Int)) ∧ Con rows k y) : Ok (forS bfsIn ys (met, part)) fun s => Bf m rows k m0 s.1 s.2 ∧ (∀ y ∈ ys, y ∈ s.2) ∧ part <+: s.2 := by
  refine (ok_forS (fun i s => Bf m rows k m0 s.1 s.2 ∧ (∀ y ∈ ys.take i, y ∈ s.2) ∧ part <+: s.2) ⟨b, by simp, List.prefix_rfl⟩ fun i y s hx ⟨a1, a2, a3⟩ => ?_).imp fun s ⟨a1, a2, a3⟩ => ⟨a1, fun y h => a2 y (by rw [List.take_length]; exact h), a3⟩
  obtain ⟨s1, s2⟩ := s
  have hm2 := hy y (mem_getElem hx)
  refine (bfsIn_ok hm h0 a1 hm2.1 hm2.2).imp fun s ⟨b1, b2, b3⟩ => ⟨b1, fun z hz => ?_, a3.trans b3⟩
  rcases (pt_take hx).mp hz with q | rfl
  · exact b3.subset (a2 z q)
  · exact b2
/-- the walk from k finds all that is joined to k -/
theorem bfs_ok {near : List (List Int)} (hm : m < 1000000) (hr : ∀ r ∈ rows, ∀ x ∈ r, 0 ≤ x ∧ x < (m : Int)) (hnl : near.length = m) (hnear : ∀ a y, nb near a y ↔ ∃ r ∈ rows, ∃ p ∈ adj r, p = (a, y) ∨ p = (y, a))
    (hk : 0 ≤ k ∧ k < (m : Int)) (mn : (m0.map (·.1)).Nodup) (mr : ∀ x, dHas m0 x = true → 0 ≤ x ∧ x < (m : Int)) (h0 : ∀ x, Con rows k x → dHas m0 x = false) :
    Ok (whileS bfsC (bfsB near) 1000000 (dPut m0 k true, [k], (0 : Int))) fun s => (∀ x, x ∈ s.2.1 ↔ (0 ≤ x ∧ x < (m : Int)) ∧ Con rows k x) ∧ s.2.1.Nodup ∧ (∀ x, dHas s.1 x = true ↔ dHas m0 x = true ∨ x ∈ s.2.1) ∧ (s.1.map (·.1)).Nodup := by
  have hz := sizeLine_eq
  have adjc : ∀ a y, nb near a y → Con rows a y := fun a y h => by
    obtain ⟨r, hm, p, hp, e⟩ := (hnear a y).mp h
    have q := adj_mem hp
    rcases e with e | e <;> subst e
    · exact .one hm q.1 q.2
    · exact .one hm q.2 q.1
  refine (ok_while (c := bfsC) (body := bfsB near) (fun s => Bf m rows k m0 s.1 s.2.1 ∧ 0 ≤ s.2.2 ∧ s.2.2 ≤ (s.2.1.length : Int) ∧ ∀ j : Nat, (j : Int) < s.2.2 → ∀ x, s.2.1[j]? = some x → ∀ y, nb near x y → y ∈ s.2.1) (fun s => m - s.2.2.toNat) 1000000 _ ?_ (by show m - _ < _; omega) (fun s _ => ⟨_, rfl⟩) fun s ⟨b, a1, a2, a3⟩ hc => ?_).imp fun s ⟨⟨b, a1, a2, a3⟩, hc⟩ => ?_
  · refine ⟨⟨by simp, fun x hx => by rw [List.mem_singleton.mp hx]; exact ⟨hk, .refl _⟩, by simp, fun x => ?_, pt_dnd _ _ _ mn, fun x hx => ?_⟩, Int.le_refl _, by simp, fun j h => by have h : (j : Int) < 0 := h; omega⟩
    · show dHas (dPut m0 k true) x = true ↔ _
      rw [pt_dput, List.mem_singleton]
      exact ⟨fun q => q.symm, fun q => q.symm⟩
    · rcases (pt_dput _ _ _ _).mp hx with rfl | q
      · exact hk
      · exact mr x q
  · obtain ⟨met, part, at'⟩ := s
    have hc : some (decide (at' < (part.length : Int))) = some true := hc
    simp only at b a1 a2 a3 ⊢
    simp only [Option.some.injEq, decide_eq_true_eq] at hc
    have hl := b.len
    have hi : at'.toNat < part.length := by omega
    obtain ⟨z, hx⟩ : ∃ z, part[at'.toNat]? = some z := ⟨_, List.getElem?_eq_getElem hi⟩
    have hxm := b.inn _ (mem_getElem hx)
    have hx2 : near[z.toNat]? = some (near.getD z.toNat []) := by
      rw [List.getD_eq_getElem?_getD]
      rw [List.getElem?_eq_getElem (by omega)]; rfl
    unfold bfsB
    simp only
    refine ok_b (atI_get0 a1 hx) (ok_b (atI_get0 hxm.1.1 hx2) ?_)
    have hys : ∀ y ∈ near.getD z.toNat [], nb near z y := fun y h => ⟨hxm.1.1, h⟩
    refine ok_bind (bfsFor_ok (by omega) h0 b fun y hy => ?_) fun s ⟨b1, b2, b3⟩ => ?_
    · have c := hxm.2.trans (adjc _ _ (hys y hy))
      exact ⟨c.rng hr hk, c⟩
    · refine ok_let (ok_some ⟨⟨b1, by show (0 : Int) ≤ at' + 1; omega, ?_, fun j hj x hx3 y hy => ?_⟩, ?_⟩)
      · show at' + 1 ≤ (s.2.length : Int)
        have := b3.length_le
        omega
      · simp only at hj hx3 ⊢
        by_cases e : (j : Int) = at'
        · have ej : at'.toNat = j := by omega
          rw [ej] at hx hi
          have e2 : s.2[j]? = part[j]? := by
            obtain ⟨t, ht⟩ := b3
            rw [← ht, List.getElem?_append_left hi]
          rw [e2, hx] at hx3
          have e3 : z = x := Option.some.inj hx3
          subst e3
          exact b2 y hy.2
        · have hj2 : (j : Int) < at' := by omega
          have e2 : s.2[j]? = part[j]? := by
            obtain ⟨t, ht⟩ := b3
            rw [← ht, List.getElem?_append_left (by omega)]
          rw [e2] at hx3
          exact b3.subset (a3 j hj2 x hx3 y hy)
      · show m - (at' + 1).toNat < m - at'.toNat
        omega
  · obtain ⟨met, part, at'⟩ := s
    have hc : some (decide (at' < (part.length : Int))) = some false := hc
    simp only at b a1 a2 a3 ⊢
    simp only [Option.some.injEq, decide_eq_false_iff_not, Int.not_lt] at hc
    have clo : ∀ x ∈ part, ∀ y, nb near x y → y ∈ part := fun x hx y hy => by
      obtain ⟨j, hj, e⟩ := List.getElem_of_mem hx
      exact a3 j (by omega) x (by rw [List.getElem?_eq_getElem hj, e]) y hy
    refine ⟨fun x => ⟨b.inn x, fun ⟨_, c⟩ => ?_⟩, b.nd, b.ms, b.mn⟩
    refine c.closed (S := fun x => x ∈ part) (fun r hm a ha y hy h => ?_) b.k
    refine adj_row (S := fun x => x ∈ part) (fun p hp => ?_) ha hy h
    have q := adj_mem hp
    exact ⟨fun h => clo _ h _ ((hnear _ _).mpr ⟨r, hm, p, hp, .inl rfl⟩), fun h => clo _ h _ ((hnear _ _).mpr ⟨r, hm, p, hp, .inr rfl⟩)⟩
end
/-! ### all parts -/
def partsOut (s21 : List (List Int)) (x31 : Int) (s106 : List (List Int) × Met) : Option (List (List Int) × Met) := if (dHas s106.2 x31) = true then (some (s106.1, s106.2)) else ((dPutO s106.2 x31 true).bind fun v107 => (some ([x31])).bind fun (part_108 : List Int) => (whileS bfsC (bfsB s21) 1000000 (v107, part_108, (0 : Int))).bind fun s131 => (appO s106.1 (sortI s131.2.1)).bind fun v143 => some (v143, s131.1))
def partsOf (a0 : Int) (a1 : List (List Int)) : Option (List (List Int)) :=
  (rgO a0).bind fun r1 => (compO r1 (fun (x2 : Int) => true) (fun (x2 : Int) => ([] : List Int))).bind fun v3 => (forS nearRow a1 v3).bind fun s21 => (rgO a0).bind fun r30 => (forS (partsOut s21) r30 (([] : List (List Int)), ([] : Met))).bind fun s106 => some s106.1
theorem sort_class {m : Nat} {P : Int → Prop} [DecidablePred P] {l : List Int} (h : ∀ x, x ∈ l ↔ (0 ≤ x ∧ x < (m : Int)) ∧ P x) (nd : l.Nodup) : sortI l = (rg m).filter fun n => decide (P n) := by
  refine (sortI_uniq ((rg_sorted m).filter _) ?_).symm
  refine (List.perm_ext_iff_of_nodup ((rg_nodup m).filter _) nd).mpr fun x => ?_
  rw [List.mem_filter, mem_rg, h]
  simp
open Classical in
theorem partsOf_ok {m L : Nat} {rows : List (List Int)} (hm : m < 1000000) (hr : ∀ r ∈ rows, ∀ x ∈ r, 0 ≤ x ∧ x < (m : Int)) (hn : ∀ r ∈ rows, r ≠ []) (hL : ∀ r ∈ rows, r.length ≤ L) (hz : 2 * L * rows.length < sizeLine) : partsOf m rows = some (compsL rows m m) := by
  have hs := sizeLine_eq
  refine ok_is ?_
  unfold partsOf
  refine ok_b (rgO_ok (by omega)) (ok_b (compO_all (by rw [rg_len]; omega)) ?_)
  have e1 : (rg m).map (fun _ => ([] : List Int)) = List.replicate m [] := by rw [List.map_const', rg_len]
  rw [e1]
  refine ok_bind (near_ok hr hn hL hz) fun near ⟨n1, n2⟩ => ok_b (rgO_ok (by omega)) ?_
  refine ok_bind (ok_forS (fun i s => s.1 = compsL rows m i ∧ (∀ x, dHas s.2 x = true ↔ (0 ≤ x ∧ x < (m : Int)) ∧ ∃ g, (0 ≤ g ∧ g < (i : Int)) ∧ Con rows g x) ∧ (s.2.map (·.1)).Nodup) ⟨rfl, fun x => ?_, by simp⟩ fun i x s hx ⟨a1, a2, a3⟩ => ?_) fun s ⟨a1, _, _⟩ => ok_some (by rw [a1, rg_len])
  · show (dGet [] x).isSome = true ↔ _
    simp only [dGet, Option.isSome_none, Bool.false_eq_true, false_iff]
    rintro ⟨_, g, h, _⟩; omega
  · obtain ⟨rfl, hi⟩ := rg_get hx
    have hc : compsL rows m (i + 1) = compsL rows m i ++ (if LeastC rows i then [(rg m).filter fun n => decide (Con rows i n)] else []) := by
      unfold compsL
      rw [rg_succ, List.filter_append, List.map_append]
      congr 1
      by_cases q : LeastC rows i <;> simp [q]
    have lst : dHas s.2 (i : Int) = false ↔ LeastC rows i := by
      rw [← Bool.not_eq_true, a2]
      constructor
      · intro h g h0 h1 c
        exact h ⟨by omega, g, ⟨h0, h1⟩, c⟩
      · rintro h ⟨_, g, h0, c⟩
        exact h g h0.1 h0.2 c
    unfold partsOut
    refine ok_if (fun hb => ?_) (fun hb => ?_)
    · have nl : ¬ LeastC rows i := fun q => by rw [lst.mpr q] at hb; cases hb
      refine ok_some ⟨by rw [hc, if_neg nl, List.append_nil]; exact a1, fun x => (a2 x).trans ⟨?_, ?_⟩, a3⟩
      · rintro ⟨h, g, h0, c⟩
        exact ⟨h, g, by omega, c⟩
      · rintro ⟨h, g, h0, c⟩
        by_cases e : g = i
        · subst e
          obtain ⟨_, g2, h2, c2⟩ := (a2 _).mp hb
          exact ⟨h, g2, h2, c2.trans c⟩
        · exact ⟨h, g, by omega, c⟩
    · have hl := lst.mp hb
      have ml := met_len a3 (m := m) fun x h => ((a2 x).mp h).1
      refine ok_b (dPutO_ok (by omega)) (ok_let ?_)
      refine ok_bind (bfs_ok hm hr n1 n2 (by omega) a3 (fun x h => ((a2 x).mp h).1) fun x c => ?_) fun w ⟨b1, b2, b3, b4⟩ => ?_
      · rw [← Bool.not_eq_true, a2]
        rintro ⟨_, g, h0, c2⟩
        exact hl g h0.1 h0.2 (c2.trans c.symm)
      · have lc : (compsL rows m i).length ≤ i := by
          unfold compsL
          rw [List.length_map]
          refine Nat.le_trans (List.length_filter_le _ _) ?_
          rw [rg_len]; exact Nat.le_refl _
        refine ok_b (appO_ok (by rw [a1]; omega)) (ok_some ⟨?_, fun x => ?_, b4⟩)
        · rw [hc, if_pos hl, a1, sort_class b1 b2]
        · show dHas w.1 x = true ↔ _
          rw [b3, a2, b1]
          constructor
          · rintro (⟨h, g, h0, c⟩ | ⟨h, c⟩)
            · exact ⟨h, g, by omega, c⟩
            · exact ⟨h, i, by omega, c⟩
          · rintro ⟨h, g, h0, c⟩
            by_cases e : g = i
            · subst e; exact .inr ⟨h, c⟩
            · exact .inl ⟨h, g, by omega, c⟩
end Ab
end
section
namespace Ab
open PySem L2
/-! ### the least names -/
def nmOf (ns : List Int) (x : Int) : Int := ns.getD x.toNat 0
abbrev NB := List Int × Bool
def grpIn (v108 : Int) (x109 : Int) (s114 : NB) : Option NB := ((atI s114.1 x109).bind fun v115 => if (decide (v108 < v115)) = true then ((setO s114.1 x109 v108).bind fun v116 => some (v116, true)) else (some (s114.1, s114.2)))
def grpOut {κ : Type} (x79 : κ × List Int) (s104 : NB) : Option NB := ((compP x79.2 (fun (x105 : Int) => some true) (fun (x105 : Int) => (atI s104.1 x105).bind fun v106 => some v106)).bind fun v107 => (minI v107).bind fun v108 => (forS (grpIn v108) x79.2 (s104.1, s104.2)).bind fun s114 => some (s114.1, s114.2))
def namesB {κ : Type} (a1 : List (κ × List Int)) (s78 : NB) : Option NB := ((forS grpOut a1 (s78.1, false)).bind fun s104 => some (s104.1, s104.2))
def namesOut (a0 : Int) (ns : List Int) (x118 : Int) (s131 : List (List Int)) : Option (List (List Int)) := ((atI ns x118).bind fun v132 => if (decide (v132 = x118)) = true then ((rgO a0).bind fun r133 => (compP r133 (fun (x134 : Int) => (atI ns x134).bind fun v135 => some (decide (v135 = x118))) (fun (x134 : Int) => some x134)).bind fun v136 => (appO s131 v136).bind fun v137 => some v137) else (some s131))
def lawParts {κ : Type} (a0 : Int) (a1 : List (κ × List Int)) : Option (List (List Int)) :=
  (rgLO a0).bind fun v1 => (whileS (fun (s78 : NB) => some s78.2) (namesB a1) 1000000 (v1, true)).bind fun s78 => (rgO a0).bind fun r117 => (forS (namesOut a0 s78.1) r117 ([] : List (List Int))).bind fun s131 => some s131
/-- each has the name of one that is joined to it, none above it -/
structure Nm (m : Nat) (rows : List (List Int)) (ns : List Int) : Prop where
  len : ns.length = m
  ok : ∀ x : Int, 0 ≤ x → x < (m : Int) → 0 ≤ nmOf ns x ∧ nmOf ns x ≤ x ∧ Con rows x (nmOf ns x)
def muN (ns : List Int) : Nat := (ns.map Int.toNat).sum
theorem muN_set : ∀ {ns : List Int} {i : Nat} {u v : Int}, ns[i]? = some u → 0 ≤ v → v < u → muN (ns.set i v) < muN ns
  | [], _, _, _, h, _, _ => by simp at h
  | a :: ns, 0, u, v, h, h0, h1 => by
    simp at h; subst h
    simp only [muN, List.set_cons_zero, List.map_cons, List.sum_cons]
    omega
  | a :: ns, i + 1, u, v, h, h0, h1 => by
    have := muN_set (ns := ns) (i := i) (by simpa using h) h0 h1
    simp only [muN, List.set_cons_succ, List.map_cons, List.sum_cons] at this ⊢
    omega
section
variable {m : Nat} {rows : List (List Int)} {ns : List Int}
theorem Nm.at (n : Nm m rows ns) {x : Int} (h0 : 0 ≤ x) (h1 : x < (m : Int)) : atI ns x = some (nmOf ns x) := atI_ok h0 (by rw [n.len]; exact h1)
theorem Nm.get (n : Nm m rows ns) {x : Int} (h0 : 0 ≤ x) (h1 : x < (m : Int)) : ns[x.toNat]? = some (nmOf ns x) := by
  unfold nmOf
  have : x.toNat < ns.length := by rw [n.len]; omega
  rw [List.getD_eq_getElem?_getD, List.getElem?_eq_getElem this]; rfl
theorem nmOf_set {ns : List Int} {x y v : Int} (hx : 0 ≤ x) (hx2 : x < (ns.length : Int)) (hy : 0 ≤ y) : nmOf (ns.set x.toNat v) y = if y = x then v else nmOf ns y := by
  unfold nmOf
  rw [List.getD_eq_getElem?_getD, List.getElem?_set]
  by_cases e : y = x
  · subst e
    rw [if_pos rfl, if_pos rfl, if_pos (by omega)]; rfl
  · rw [if_neg (by omega), if_neg e, List.getD_eq_getElem?_getD]
theorem Nm.set (n : Nm m rows ns) {x v : Int} (h0 : 0 ≤ x) (h1 : x < (m : Int)) (hv : 0 ≤ v) (hl : v ≤ x) (hc : Con rows x v) : Nm m rows (ns.set x.toNat v) := by
  refine ⟨by rw [List.length_set]; exact n.len, fun y hy hy2 => ?_⟩
  rw [nmOf_set h0 (by rw [n.len]; exact h1) hy]
  by_cases e : y = x
  · subst e; rw [if_pos rfl]; exact ⟨hv, hl, hc⟩
  · rw [if_neg e]; exact n.ok y hy hy2
/-- in a turn through the groups: nothing has changed yet and all rows so far are level, or less is left -/
def Turn_ (n0 : List Int) (done : List (List Int)) (s : NB) : Prop := (s.2 = false → s.1 = n0 ∧ ∀ r ∈ done, ∀ a ∈ r, ∀ b ∈ r, nmOf n0 a = nmOf n0 b) ∧ (s.2 = true → muN s.1 < muN n0)
theorem grpOut_ok {κ : Type} {n0 : List Int} {done : List (List Int)} {p : κ × List Int} {s : NB} (hm : m < sizeLine) (hr : ∀ x ∈ p.2, 0 ≤ x ∧ x < (m : Int)) (hp : p.2 ∈ rows) (hne : p.2 ≠ []) (hl : p.2.length ≤ sizeLine) (n : Nm m rows s.1) (t : Turn_ n0 done s) :
    Ok (grpOut p s) fun s' => Nm m rows s'.1 ∧ Turn_ n0 (done ++ [p.2]) s' := by
  obtain ⟨key, r⟩ := p
  simp only at hr hp hne hl
  unfold grpOut
  simp only
  refine ok_b (compP_map (nmOf s.1) hl fun x hx => by rw [n.at (hr x hx).1 (hr x hx).2]; rfl) ?_
  obtain ⟨x0, r', er⟩ : ∃ x0 r', r = x0 :: r' := by cases r with
    | nil => exact absurd rfl hne
    | cons a b => exact ⟨a, b, rfl⟩
  have hmn : minI (r.map (nmOf s.1)) = some ((r'.map (nmOf s.1)).foldl min (nmOf s.1 x0)) := by rw [er]; rfl
  obtain ⟨q1, q2⟩ := minI_spec (r'.map (nmOf s.1)) (nmOf s.1 x0)
  generalize (r'.map (nmOf s.1)).foldl min (nmOf s.1 x0) = least at hmn q1 q2
  have q1 : least ∈ r.map (nmOf s.1) := by rw [er]; exact q1
  have q2 : ∀ y ∈ r.map (nmOf s.1), least ≤ y := by rw [er]; exact q2
  refine ok_b hmn ?_
  obtain ⟨y0, hy0, ey0⟩ := List.mem_map.mp q1
  have l0 : 0 ≤ least := by rw [← ey0]; exact (n.ok y0 (hr y0 hy0).1 (hr y0 hy0).2).1
  have lc : ∀ x ∈ r, Con rows x least := fun x hx => (Con.one hp hx hy0).trans (by rw [← ey0]; exact (n.ok y0 (hr y0 hy0).1 (hr y0 hy0).2).2.2)
  refine ok_bind (ok_forS (fun i v => Nm m rows v.1 ∧ (∀ x ∈ r, least ≤ nmOf v.1 x) ∧ (v.2 = false → v.1 = n0 ∧ (∀ r ∈ done, ∀ a ∈ r, ∀ b ∈ r, nmOf n0 a = nmOf n0 b) ∧ ∀ x ∈ r.take i, nmOf n0 x = least) ∧ (v.2 = true → muN v.1 < muN n0)) ⟨n, fun x hx => q2 _ (List.mem_map_of_mem hx), fun e => ⟨(t.1 e).1, (t.1 e).2, by simp⟩, t.2⟩ fun i x v hx ⟨a1, a2, a3, a4⟩ => ?_) fun v ⟨a1, a2, a3, a4⟩ => ?_
  · have hm1 := mem_getElem hx
    have hxr := hr x hm1
    unfold grpIn
    refine ok_b (a1.at hxr.1 hxr.2) ?_
    refine ok_if (fun hb => ?_) (fun hb => ?_)
    · have hb : least < nmOf v.1 x := by simpa using hb
      have hxo := a1.ok x hxr.1 hxr.2
      refine ok_b (setO_ok hxr.1 (by rw [a1.len]; exact hxr.2)) (ok_some ⟨a1.set hxr.1 hxr.2 l0 (by omega) (lc x hm1), fun y hy => ?_, (fun e => by cases e), fun _ => ?_⟩)
      · have hyr := hr y hy
        show least ≤ nmOf (v.1.set x.toNat least) y
        rw [nmOf_set hxr.1 (by rw [a1.len]; exact hxr.2) hyr.1]
        split
        · exact Int.le_refl _
        · exact a2 y hy
      · have := muN_set (a1.get hxr.1 hxr.2) l0 hb
        show muN (v.1.set x.toNat least) < _
        cases eb : v.2 with
        | false => rw [(a3 eb).1] at this ⊢; exact this
        | true => have := a4 eb; omega
    · have hb : nmOf v.1 x ≤ least := by simpa using hb
      refine ok_some ⟨a1, a2, fun e => ?_, a4⟩
      obtain ⟨c1, c2, c3⟩ := a3 e
      refine ⟨c1, c2, fun y hy => ?_⟩
      rcases (pt_take hx).mp hy with q | rfl
      · exact c3 y q
      · have := a2 y hm1
        have c1 : v.1 = n0 := c1
        rw [c1] at hb this
        omega
  · refine ok_some ⟨a1, ⟨fun e => ?_, a4⟩⟩
    obtain ⟨c1, c2, c3⟩ := a3 e
    rw [List.take_length] at c3
    refine ⟨c1, fun r2 h2 a ha b hb => ?_⟩
    rcases List.mem_append.mp h2 with h2 | h2
    · exact c2 r2 h2 a ha b hb
    · rw [List.mem_singleton.mp h2] at ha hb
      rw [c3 a ha, c3 b hb]
theorem namesB_ok {κ : Type} {g : List (κ × List Int)} {s : NB} (hm : m < sizeLine) (hg : ∀ p ∈ g, (∀ x ∈ p.2, 0 ≤ x ∧ x < (m : Int)) ∧ p.2 ≠ [] ∧ p.2.length ≤ sizeLine) (n : Nm m (g.map fun p => p.2) s.1) :
    Ok (namesB g s) fun s' => Nm m (g.map fun p => p.2) s'.1 ∧ Turn_ s.1 (g.map fun p => p.2) s' := by
  unfold namesB
  refine ok_bind (ok_forS (fun i v => Nm m (g.map fun p => p.2) v.1 ∧ Turn_ s.1 ((g.map fun p => p.2).take i) v) ⟨n, fun _ => ⟨rfl, by simp⟩, fun e => by cases e⟩ fun i p v hx ⟨a1, a2⟩ => ?_) fun v ⟨a1, a2⟩ => ok_some ⟨a1, by
    have e : ((g.map fun p => p.2).take g.length) = g.map fun p => p.2 := by rw [List.take_of_length_le]; rw [List.length_map]; exact Nat.le_refl _
    rw [e] at a2; exact a2⟩
  have hp := mem_getElem hx
  obtain ⟨h1, h2, h3⟩ := hg p hp
  refine (grpOut_ok hm h1 (List.mem_map_of_mem hp) h2 h3 a1 a2).imp fun v' ⟨b1, b2⟩ => ⟨b1, ?_⟩
  have : ((g.map fun p => p.2).take (i + 1)) = ((g.map fun p => p.2).take i) ++ [p.2] := by
    rw [List.take_add_one, List.getElem?_map, hx]; rfl
  rw [this]; exact b2
theorem rg_sum : ∀ m : Nat, muN (rg m) ≤ m * m
  | 0 => by simp [rg, muN]
  | m + 1 => by
    have := rg_sum m
    have e : (m + 1) * (m + 1) = m * m + m + m + 1 := by simp [Nat.mul_add, Nat.add_mul]; omega
    rw [rg_succ]
    unfold muN at this ⊢
    rw [List.map_append, List.sum_append]
    simp only [List.map_cons, List.map_nil, List.sum_cons, List.sum_nil]
    omega
theorem nmOf_rg {m : Nat} {x : Int} (h0 : 0 ≤ x) (h1 : x < (m : Int)) : nmOf (rg m) x = x := by
  unfold nmOf
  rw [List.getD_eq_getElem?_getD, rg_at (by omega)]
  show ((x.toNat : Nat) : Int) = x
  omega
open Classical in
theorem lawParts_ok {κ : Type} {g : List (κ × List Int)} (hm : m ≤ 900) (hg : ∀ p ∈ g, (∀ x ∈ p.2, 0 ≤ x ∧ x < (m : Int)) ∧ p.2 ≠ [] ∧ p.2.length ≤ sizeLine) : lawParts m g = some (compsL (g.map fun p => p.2) m m) := by
  have hs := sizeLine_eq
  refine ok_is ?_
  unfold lawParts
  have e1 : rgLO (m : Int) = some (rg m) := by
    unfold rgLO rg
    rw [if_pos (by omega)]
    simp
  refine ok_b e1 ?_
  generalize hrows : (g.map fun p => p.2) = rows
  have hq : m * m ≤ 900 * 900 := Nat.mul_le_mul hm hm
  have hsum := rg_sum m
  refine ok_bind (ok_while (fun s : NB => Nm m rows s.1 ∧ (s.2 = false → ∀ r ∈ rows, ∀ a ∈ r, ∀ b ∈ r, nmOf s.1 a = nmOf s.1 b)) (fun s => if s.2 = true then muN s.1 + 1 else 0) 1000000 (rg m, true) ⟨⟨rg_len m, fun x h0 h1 => ?_⟩, fun e => by cases e⟩ (by show muN (rg m) + 1 < _; omega) (fun s _ => ⟨_, rfl⟩) fun s ⟨a1, a2⟩ hc => ?_) fun s ⟨⟨a1, a2⟩, hc⟩ => ?_
  · show 0 ≤ nmOf (rg m) x ∧ nmOf (rg m) x ≤ x ∧ Con rows x (nmOf (rg m) x)
    rw [nmOf_rg h0 h1]
    exact ⟨h0, Int.le_refl _, .refl _⟩
  · have hc : s.2 = true := by simpa using hc
    rw [hc]
    refine (namesB_ok (s := s) (g := g) (by omega) hg (by rw [hrows]; exact a1)).imp fun v ⟨b1, b2⟩ => ?_
    rw [hrows] at b1 b2
    refine ⟨⟨b1, fun e => by rw [(b2.1 e).1]; exact (b2.1 e).2⟩, ?_⟩
    show (if v.2 = true then muN v.1 + 1 else 0) < muN s.1 + 1
    cases ev : v.2 with
    | false => simp
    | true => have := b2.2 ev; simp; omega
  · have hc : s.2 = false := by simpa using hc
    have lev := a2 hc
    have conl : ∀ {a b : Int}, Con rows a b → nmOf s.1 a = nmOf s.1 b := fun {a b} c => by
      have := c.closed (S := fun x => nmOf s.1 x = nmOf s.1 a) (fun r hr x hx y hy h => (lev r hr y hy x hx).trans h) rfl
      exact this.symm
    have lst : ∀ x : Int, 0 ≤ x → x < (m : Int) → (nmOf s.1 x = x ↔ LeastC rows x) := fun x h0 h1 => by
      have hx := a1.ok x h0 h1
      constructor
      · intro e g hg0 hg1 c
        have e2 := conl c
        have := (a1.ok g hg0 (by omega)).2.1
        omega
      · intro l
        by_cases e : nmOf s.1 x = x
        · exact e
        · exact absurd hx.2.2.symm (l _ hx.1 (by omega))
    refine ok_b (rgO_ok (by omega)) ?_
    refine ok_bind (ok_forS (fun i v => v = compsL rows m i) rfl fun i x v hx hv => ?_) fun v hv => ok_some (by rw [hv, rg_len])
    obtain ⟨rfl, hi⟩ := rg_get hx
    have hc2 : compsL rows m (i + 1) = compsL rows m i ++ (if LeastC rows i then [(rg m).filter fun n => decide (Con rows i n)] else []) := by
      unfold compsL
      rw [rg_succ, List.filter_append, List.map_append]
      congr 1
      by_cases q : LeastC rows i <;> simp [q]
    unfold namesOut
    refine ok_b (a1.at (x := (i : Int)) (by omega) (by omega)) ?_
    have li := lst i (by omega) (by omega)
    refine ok_if (fun hb => ?_) (fun hb => ?_)
    · have hb : nmOf s.1 i = i := by simpa using hb
      refine ok_b (rgO_ok (by omega)) ?_
      refine ok_b (compP_ok (fun x => decide (Con rows i x)) (fun x => x) (by rw [rg_len]; omega) fun x hx => ?_) ?_
      · have hx := mem_rg.mp hx
        refine ⟨?_, fun _ => rfl⟩
        rw [a1.at hx.1 hx.2]
        show some (decide (nmOf s.1 x = i)) = _
        congr 1
        refine decide_eq_decide.mpr ⟨fun e => ?_, fun c => ?_⟩
        · have := (a1.ok x hx.1 hx.2).2.2
          rw [e] at this
          exact this.symm
        · rw [← conl c, hb]
      · have lc : (compsL rows m i).length ≤ i := by
          unfold compsL
          rw [List.length_map]
          refine Nat.le_trans (List.length_filter_le _ _) ?_
          rw [rg_len]; exact Nat.le_refl _
        refine ok_b (appO_ok (by rw [hv]; omega)) (ok_some ?_)
        rw [hc2, if_pos (li.mp hb), hv, List.map_id']
    · have hb : nmOf s.1 i ≠ i := by simpa using hb
      refine ok_some ?_
      rw [hc2, if_neg (fun q => hb (li.mpr q)), List.append_nil]
      exact hv
end
end Ab
end
section
namespace Ab
open PySem L2
/-! ### loops over told lists -/
theorem forS_map {α β S : Type} {body : β → S → Option S} (f : α → β) : ∀ (xs : List α) (s : S), forS body (xs.map f) s = forS (fun x s => body (f x) s) xs s
  | [], _ => rfl
  | x :: xs, s => by
    rw [List.map_cons, forS, forS]
    congr 1; funext s'
    exact forS_map f xs s'
theorem forS_congr {α S : Type} {body body' : α → S → Option S} : ∀ (xs : List α) (s : S), (∀ x ∈ xs, ∀ s, body x s = body' x s) → forS body xs s = forS body' xs s
  | [], _, _ => rfl
  | x :: xs, s, h => by
    rw [forS, forS, h x List.mem_cons_self]
    congr 1; funext s'
    exact forS_congr xs s' fun y hy => h y (List.mem_cons_of_mem _ hy)
theorem enumL_map {α β : Type} (f : α → β) (xs : List α) : enumL (xs.map f) = (enumL xs).map fun p => (p.1, f p.2) := by
  unfold enumL
  rw [List.length_map, List.zip_map_right]
  rfl
/-! ### numbers by what is seen -/
section
variable {κ : Type} [DecidableEq κ]
def byV (a0 : List (List κ)) : Option (List (κ × List Int)) :=
  (forS (fun (x1 : Int × List κ) (s12 : List (κ × List Int)) => ((forS (fun (x13 : κ) (s16 : List (κ × List Int)) => ((dSda s16 x13 x1.1).bind fun v17 => some v17)) x1.2 s12).bind fun s16 => some s16)) (enumL a0) ([] : List (κ × List Int))).bind fun s12 => some s12
structure Dv (d : List (κ × List Int)) (c : Nat) (M : κ → Int → Prop) : Prop where
  nd : (d.map (·.1)).Nodup
  len : d.length ≤ c
  row : ∀ k l, dGet d k = some l → l ≠ [] ∧ l.length ≤ c
  mem : ∀ k x, x ∈ (dGet d k).getD [] ↔ M k x
theorem Dv.nil : Dv ([] : List (κ × List Int)) 0 fun _ _ => False := ⟨by simp, by simp, fun k l h => by simp [dGet] at h, fun k x => by simp [dGet]⟩
theorem Dv.imp {d : List (κ × List Int)} {c c' : Nat} {M M' : κ → Int → Prop} (h : Dv d c M) (hc : c ≤ c') (i : ∀ k x, M k x ↔ M' k x) : Dv d c' M' :=
  ⟨h.nd, Nat.le_trans h.len hc, fun k l e => ⟨(h.row k l e).1, Nat.le_trans (h.row k l e).2 hc⟩, fun k x => (h.mem k x).trans (i k x)⟩
theorem sda_ok {d : List (κ × List Int)} {c : Nat} {M : κ → Int → Prop} (h : Dv d c M) (hc : c < sizeLine) (k : κ) (x : Int) : Ok (dSda d k x) fun d' => Dv d' (c + 1) fun k' x' => M k' x' ∨ k' = k ∧ x' = x := by
  have key : ∀ l : List Int, (dGet d k).getD [] = l → l.length ≤ c → Dv (dPut d k (l ++ [x])) (c + 1) fun k' x' => M k' x' ∨ k' = k ∧ x' = x := fun l el hl => by
    refine ⟨pt_dnd _ _ _ h.nd, Nat.le_trans (dPut_len _ _ _) (Nat.succ_le_succ h.len), fun k' l' e => ?_, fun k' x' => ?_⟩
    · rw [dGet_put] at e
      by_cases q : k' = k
      · rw [if_pos q] at e
        cases e
        exact ⟨by simp, by rw [List.length_append, List.length_singleton]; omega⟩
      · rw [if_neg q] at e
        have := h.row k' l' e
        exact ⟨this.1, by omega⟩
    · rw [dGet_put]
      by_cases q : k' = k
      · subst q
        rw [if_pos rfl, Option.getD_some, List.mem_append, List.mem_singleton, ← el, h.mem]
        simp
      · rw [if_neg q, h.mem]
        simp [q]
  unfold dSda
  cases e : dGet d k with
  | none =>
    simp only
    have := h.len
    rw [if_pos (by omega)]
    exact ok_some (key [] (by rw [e]; rfl) (Nat.zero_le _))
  | some l =>
    simp only
    have := (h.row k l e).2
    rw [if_pos (by omega)]
    exact ok_some (key l (by rw [e]; rfl) this)
/-- of each thing seen: the numbers that see it -/
theorem byV_ok {views : List (List κ)} {q : Nat} (hq : ∀ l ∈ views, l.length ≤ q) (hz : views.length * q < sizeLine) :
    Ok (byV views) fun d => Dv d (views.length * q) fun k x => ∃ (i : Nat) (l : List κ), views[i]? = some l ∧ x = (i : Int) ∧ k ∈ l := by
  unfold byV
  refine ok_bind (ok_forS (fun j d => Dv d (j * q) fun k x => ∃ (i : Nat) (l : List κ), i < j ∧ views[i]? = some l ∧ x = (i : Int) ∧ k ∈ l) (Dv.nil.imp (by omega) fun k x => by simp) fun j p d hx hd => ?_) fun d hd => ok_some (hd.imp (by rw [enumL_len]; exact Nat.le_refl _) fun k x => ?_)
  · obtain ⟨p1, p2⟩ := p
    have hp := enumL_get hx
    simp only at hp
    obtain ⟨rfl, hv⟩ := hp
    have hl := hq p2 (mem_getElem hv)
    have hj : j < views.length := (List.getElem?_eq_some_iff.mp hv).1
    have e1 : (j + 1) * q = j * q + q := Nat.succ_mul _ _
    have e2 : (j + 1) * q ≤ views.length * q := Nat.mul_le_mul_right _ hj
    refine ok_bind (ok_forS (fun i d' => Dv d' (j * q + i) fun k x => (∃ (i : Nat) (l : List κ), i < j ∧ views[i]? = some l ∧ x = (i : Int) ∧ k ∈ l) ∨ x = (j : Int) ∧ k ∈ p2.take i) (hd.imp (by omega) fun k x => by simp) fun i y d' hy hd' => ?_) fun d' hd' => ok_some (hd'.imp (by show j * q + p2.length ≤ (j + 1) * q; omega) fun k x => ?_)
    · have hi : i < p2.length := (List.getElem?_eq_some_iff.mp hy).1
      have hk : ∀ z : κ, z ∈ p2.take (i + 1) ↔ z ∈ p2.take i ∨ z = y := fun z => by
        rw [List.take_add_one, hy, List.mem_append]; simp
      refine ok_bind (sda_ok hd' (by omega) y (j : Int)) fun w hw => ok_some (hw.imp (by omega) fun k x => ?_)
      rw [hk]
      constructor
      · rintro ((a | ⟨a, b⟩) | ⟨a, b⟩)
        · exact .inl a
        · exact .inr ⟨a, .inl b⟩
        · exact .inr ⟨b, .inr a⟩
      · rintro (a | ⟨a, b | b⟩)
        · exact .inl (.inl a)
        · exact .inl (.inr ⟨a, b⟩)
        · exact .inr ⟨b, a⟩
    · rw [List.take_length]
      constructor
      · rintro (⟨i, l, a, b⟩ | ⟨a, b⟩)
        · exact ⟨i, l, by omega, b⟩
        · exact ⟨j, p2, by omega, hv, a, b⟩
      · rintro ⟨i, l, a, b, c, e⟩
        by_cases q : i = j
        · subst q
          rw [hv] at b; cases b
          exact .inr ⟨c, e⟩
        · exact .inl ⟨i, l, by omega, b, c, e⟩
  · constructor
    · rintro ⟨i, l, a, b⟩; exact ⟨i, l, b⟩
    · rintro ⟨i, l, b, c⟩
      exact ⟨i, l, by rw [enumL_len]; exact (List.getElem?_eq_some_iff.mp b).1, b, c⟩
theorem dGet_of_mem {ν : Type} : ∀ {d : List (κ × ν)} {p : κ × ν}, (d.map (·.1)).Nodup → p ∈ d → dGet d p.1 = some p.2
  | q :: r, p, nd, h => by
    rw [List.map_cons, List.nodup_cons] at nd
    unfold dGet
    rcases List.mem_cons.mp h with rfl | h
    · rw [if_pos rfl]
    · have : q.1 ≠ p.1 := fun e => nd.1 (by rw [e]; exact List.mem_map_of_mem (f := (·.1)) h)
      rw [if_neg this]
      exact dGet_of_mem nd.2 h
/-- what the parts need of the rows -/
theorem Dv.rows {d : List (κ × List Int)} {c m : Nat} {M : κ → Int → Prop} (h : Dv d c M) (hM : ∀ k x, M k x → 0 ≤ x ∧ x < (m : Int)) : ∀ p ∈ d, (∀ x ∈ p.2, 0 ≤ x ∧ x < (m : Int)) ∧ p.2 ≠ [] ∧ p.2.length ≤ c := fun p hp => by
  have e := dGet_of_mem h.nd hp
  have := h.row _ _ e
  exact ⟨fun x hx => hM p.1 x ((h.mem p.1 x).mp (by rw [e]; exact hx)), this.1, this.2⟩
/-- both ways to the parts tell the same -/
theorem parts_same {views : List (List κ)} {q : Nat} (hq : ∀ l ∈ views, l.length ≤ q) (hm : views.length ≤ 700) (hq2 : q ≤ 4) :
    ∃ d, byV views = some d ∧ partsOf (views.length : Int) (d.map fun p => p.2) = some (compsL (d.map fun p => p.2) views.length views.length) ∧ lawParts (views.length : Int) d = some (compsL (d.map fun p => p.2) views.length views.length) ∧
      Dv d (views.length * q) fun k x => ∃ (i : Nat) (l : List κ), views[i]? = some l ∧ x = (i : Int) ∧ k ∈ l := by
  have hs := sizeLine_eq
  have e1 : views.length * q ≤ 2800 := Nat.mul_le_mul hm hq2
  obtain ⟨d, e, h⟩ := byV_ok hq (by omega)
  have hr := h.rows (m := views.length) fun k x ⟨i, l, a, b, _⟩ => by
    have := (List.getElem?_eq_some_iff.mp a).1
    omega
  have hl := h.len
  refine ⟨d, e, ?_, ?_, h⟩
  · refine partsOf_ok (L := views.length * q) (by omega) (fun r hr' x hx => ?_) (fun r hr' => ?_) (fun r hr' => ?_) ?_
    · obtain ⟨p, hp, rfl⟩ := List.mem_map.mp hr'
      exact (hr p hp).1 x hx
    · obtain ⟨p, hp, rfl⟩ := List.mem_map.mp hr'
      exact (hr p hp).2.1
    · obtain ⟨p, hp, rfl⟩ := List.mem_map.mp hr'
      exact (hr p hp).2.2
    · rw [List.length_map]
      have := Nat.mul_le_mul (Nat.mul_le_mul_left 2 e1) (Nat.le_trans hl e1)
      omega
  · exact lawParts_ok (by omega) fun p hp => ⟨(hr p hp).1, (hr p hp).2.1, by have := (hr p hp).2.2; omega⟩
end
theorem comps_pos {rows : List (List Int)} {m : Nat} (hm : 0 < m) : 0 < (compsL rows m m).length := by
  unfold compsL
  rw [List.length_map, List.length_pos_iff]
  intro e
  have : (0 : Int) ∈ (rg m).filter fun f => @decide (LeastC rows f) (Classical.propDecidable _) := by
    rw [List.mem_filter]
    exact ⟨mem_rg.mpr ⟨Int.le_refl _, by omega⟩, by simp; intro g h0 h1; omega⟩
  rw [e] at this
  cases this
end Ab
end
section
/-! runs by number -/
namespace Ab
open PySem L2
section
variable {α β γ : Type}
theorem flat_get {f : β → List γ} {d : Nat} (hd : 0 < d) : ∀ (xs : List β) (_ : ∀ x ∈ xs, (f x).length = d) (n : Nat), (xs.flatMap f)[n]? = (xs[n / d]?).bind fun x => (f x)[n % d]?
  | [], _, n => by simp
  | x :: xs, h, n => by
    have hx := h x List.mem_cons_self
    rw [List.flatMap_cons]
    by_cases q : n < d
    · rw [List.getElem?_append_left (by omega), Nat.div_eq_of_lt q, Nat.mod_eq_of_lt q]; rfl
    · rw [List.getElem?_append_right (by omega), hx, flat_get hd xs (fun y hy => h y (List.mem_cons_of_mem _ hy))]
      have e1 : n / d = (n - d) / d + 1 := by rw [Nat.div_eq_sub_div hd (by omega)]
      have e2 : n % d = (n - d) % d := by rw [Nat.mod_eq_sub_mod (by omega)]
      rw [e1, e2]; rfl
theorem flat_len {f : β → List γ} {d : Nat} : ∀ (xs : List β) (_ : ∀ x ∈ xs, (f x).length = d), (xs.flatMap f).length = xs.length * d
  | [], _ => by simp
  | x :: xs, h => by
    rw [List.flatMap_cons, List.length_append, h x List.mem_cons_self, flat_len xs (fun y hy => h y (List.mem_cons_of_mem _ hy)), List.length_cons, Nat.succ_mul]
    omega
def rowsL (road : List α) : Nat → List (List α)
  | 0 => [[]]
  | k + 1 => (rowsL road k).flatMap fun row => road.map fun w => row ++ [w]
theorem rowsL_len (road : List α) : ∀ k, (rowsL road k).length = road.length ^ k
  | 0 => rfl
  | k + 1 => by
    rw [rowsL, flat_len (d := road.length) _ fun x _ => by simp, rowsL_len road k, Nat.pow_succ]
theorem rowsL_mem (road : List α) : ∀ k, ∀ r ∈ rowsL road k, r.length = k ∧ ∀ w ∈ r, w ∈ road
  | 0, r, h => by
    rw [rowsL, List.mem_singleton] at h
    subst h; simp
  | k + 1, r, h => by
    rw [rowsL, List.mem_flatMap] at h
    obtain ⟨x, hx, h⟩ := h
    obtain ⟨w, hw, rfl⟩ := List.mem_map.mp h
    have := rowsL_mem road k x hx
    refine ⟨by simp [this.1], fun y hy => ?_⟩
    rcases List.mem_append.mp hy with q | q
    · exact this.2 y q
    · rw [List.mem_singleton.mp q]; exact hw
/-- the places of a row, the last one first -/
def digs (road : List α) (w0 : α) : Nat → Nat → List α
  | 0, _ => []
  | k + 1, n => road.getD (n % road.length) w0 :: digs road w0 k (n / road.length)
theorem digs_len (road : List α) (w0 : α) : ∀ k n, (digs road w0 k n).length = k
  | 0, _ => rfl
  | k + 1, n => by rw [digs, List.length_cons, digs_len road w0 k]
theorem rows_get {road : List α} (hd : 0 < road.length) (w0 : α) : ∀ (k n : Nat), n < road.length ^ k → (rowsL road k)[n]? = some (digs road w0 k n).reverse
  | 0, n, h => by
    have : n = 0 := by simpa using h
    subst this; rfl
  | k + 1, n, h => by
    rw [rowsL, flat_get hd _ (fun x _ => by simp), rows_get hd w0 k (n / road.length) (by
      rw [Nat.pow_succ] at h
      exact Nat.div_lt_of_lt_mul (by rw [Nat.mul_comm]; exact h))]
    show (road.map _)[n % road.length]? = _
    have hm : n % road.length < road.length := Nat.mod_lt _ hd
    rw [List.getElem?_map, List.getElem?_eq_getElem hm, digs, List.reverse_cons, List.getD_eq_getElem?_getD, List.getElem?_eq_getElem hm]
    rfl
def runsL (road : List α) (k : Nat) (starts : List β) : List (β × List α) := starts.flatMap fun s => (rowsL road k).map fun r => (s, r)
theorem runsL_len (road : List α) (k : Nat) (starts : List β) : (runsL road k starts).length = starts.length * road.length ^ k := by
  unfold runsL
  rw [flat_len (d := road.length ^ k) _ fun x _ => by rw [List.length_map, rowsL_len]]
theorem runsL_mem {road : List α} {k : Nat} {starts : List β} {r : β × List α} (h : r ∈ runsL road k starts) : r.1 ∈ starts ∧ r.2.length = k ∧ ∀ w ∈ r.2, w ∈ road := by
  unfold runsL at h
  rw [List.mem_flatMap] at h
  obtain ⟨s, hs, h⟩ := h
  obtain ⟨x, hx, rfl⟩ := List.mem_map.mp h
  exact ⟨hs, rowsL_mem road k x hx⟩
/-! the program's way -/
def manyRows (a0 : List α) (a1 : Int) : Option Int := (rgO a1).bind fun r1 => (forS (fun (x2 : Int) (s5 : Int) => ((mulO s5 (a0.length : Int)).bind fun v6 => some v6)) r1 (1 : Int)).bind fun s5 => some s5
def manyRuns (a0 : List α) (a1 : Int) (a2 : List β) : Option Int := (manyRows a0 a1).bind fun v1 => (mulO (a2.length : Int) v1).bind fun v2 => some v2
def rowAt (a0 : List α) (a1 : Int) (a2 : Int) : Option (List α) := (rgO a1).bind fun r1 => (forS (fun (x2 : Int) (s11 : Int × (List α)) => ((modO s11.1 (a0.length : Int)).bind fun v12 => (atI a0 v12).bind fun v13 => (appO s11.2 v13).bind fun v14 => (divO s11.1 (a0.length : Int)).bind fun v15 => some (v15, v14))) r1 (a2, ([] : List α))).bind fun s11 => some s11.2.reverse
def runAt (a0 : List α) (a1 : Int) (a2 : List β) (a3 : Int) : Option (β × (List α)) := (manyRows a0 a1).bind fun v1 => (divO a3 v1).bind fun v2 => (atI a2 v2).bind fun v3 => (modO a3 v1).bind fun v4 => (rowAt a0 a1 v4).bind fun v5 => some (v3, v5)
def allRuns (a0 : List α) (a1 : Int) (a2 : List β) : Option (List (β × List α)) := (manyRuns a0 a1 a2).bind fun v1 => if (decide ((3000 : Int) < v1)) = true then (none) else ((rgO v1).bind fun r2 => (compP r2 (fun (x3 : Int) => some true) (fun (x3 : Int) => (runAt a0 a1 a2 x3).bind fun v4 => some v4)).bind fun v5 => some v5)
theorem manyRows_eq (road : List α) (k : Nat) (hd : road.length ≤ 1000000) (hk : k ≤ 100) : manyRows road k = some ((road.length ^ k : Nat) : Int) := by
  refine ok_is ?_
  unfold manyRows
  refine ok_b (rgO_ok (by omega)) ?_
  refine ok_bind (ok_forS (fun i s => s = ((road.length ^ i : Nat) : Int)) (by simp) fun i x s hx hs => ok_b (mulO_r (by omega)) (ok_some ?_)) fun s hs => ok_some (by rw [hs, rg_len])
  rw [hs, Nat.pow_succ]; simp
theorem rowAt_eq {road : List α} (hd : 0 < road.length) (hd2 : road.length ≤ 1000000) (w0 : α) (k n : Nat) (hk : k ≤ 100) : rowAt road k n = some (digs road w0 k n).reverse := by
  have hz := sizeLine_eq
  refine ok_is ?_
  unfold rowAt
  refine ok_b (rgO_ok (by omega)) ?_
  have key : ∀ (xs : List Int) (n : Nat) (row : List α), row.length + xs.length ≤ 100 → Ok (forS (fun (x2 : Int) (s11 : Int × (List α)) => ((modO s11.1 (road.length : Int)).bind fun v12 => (atI road v12).bind fun v13 => (appO s11.2 v13).bind fun v14 => (divO s11.1 (road.length : Int)).bind fun v15 => some (v15, v14))) xs ((n : Int), row)) fun s => s.2 = row ++ digs road w0 xs.length n := by
    intro xs
    induction xs with
    | nil => intro n row _; exact ok_some (by simp [digs])
    | cons x xs ih =>
      intro n row h
      rw [List.length_cons] at h
      unfold forS
      have hm : ((n : Int) % (road.length : Int)) = ((n % road.length : Nat) : Int) := by simp
      have hq : ((n : Int) / (road.length : Int)) = ((n / road.length : Nat) : Int) := by simp
      have hml : n % road.length < road.length := Nat.mod_lt _ hd
      refine ok_b (v := (((n / road.length : Nat) : Int), row ++ [road.getD (n % road.length) w0])) (ok_is ?_) ?_
      · refine ok_b (modO_ok (by omega)) ?_
        rw [hm]
        refine ok_b (atI_ok (d := w0) (by omega) (by omega)) (ok_b (appO_ok (by show row.length < _; omega)) (ok_b (divO_ok (by omega) (by omega)) (ok_some ?_)))
        rw [hq]; rfl
      · refine (ih _ _ (by rw [List.length_append, List.length_singleton]; omega)).imp fun s hs => ?_
        rw [hs, List.append_assoc]; rfl
  refine ok_bind (key (rg k) n [] (by rw [rg_len]; simp; omega)) fun s hs => ok_some ?_
  rw [hs, rg_len]; rfl
theorem allRuns_eq {road : List α} (hd : 0 < road.length) (hd2 : road.length ≤ 1000000) (w0 : α) (k : Nat) (hk : k ≤ 100) {starts : List β} (hN : starts.length * road.length ^ k ≤ 3000) : allRuns road k starts = some (runsL road k starts) := by
  have hz := sizeLine_eq
  refine ok_is ?_
  unfold allRuns manyRuns
  have hM : 0 < road.length ^ k := Nat.pow_pos hd
  have hs : starts.length ≤ 3000 := Nat.le_trans (Nat.le_mul_of_pos_right _ hM) hN
  refine ok_b (v := ((starts.length * road.length ^ k : Nat) : Int)) (ok_is (ok_b (manyRows_eq road k hd2 hk) (ok_b (mulO_l (by omega)) (ok_some (by simp))))) ?_
  refine ok_if (fun hb => ?_) (fun _ => ?_)
  · have : (3000 : Int) < ((starts.length * road.length ^ k : Nat) : Int) := by simpa using hb
    omega
  refine ok_b (rgO_ok (by omega)) ?_
  cases starts with
  | nil =>
    refine ok_b (v := []) ?_ (ok_some ?_)
    · simp [compP, compR, rg]
    · simp [runsL]
  | cons s0 starts0 =>
    generalize hst : s0 :: starts0 = starts at hN hs
    have hsl : 0 < starts.length := by rw [← hst]; simp
    have hM2 : road.length ^ k ≤ 3000 := Nat.le_trans (Nat.le_mul_of_pos_left _ hsl) hN
    refine ok_b (compP_map (fun x => ((starts.getD (x.toNat / road.length ^ k) s0), (digs road w0 k (x.toNat % road.length ^ k)).reverse)) (by rw [rg_len]; omega) fun x hx => ?_) (ok_some ?_)
    · have hx := mem_rg.mp hx
      obtain ⟨n, rfl⟩ := Int.eq_ofNat_of_zero_le hx.1
      have hn : n < starts.length * road.length ^ k := by omega
      refine ok_is ?_
      unfold runAt
      have hq : ((n : Int) / ((road.length ^ k : Nat) : Int)) = ((n / road.length ^ k : Nat) : Int) := by simp
      have hm : ((n : Int) % ((road.length ^ k : Nat) : Int)) = ((n % road.length ^ k : Nat) : Int) := by simp
      have hqs : n / road.length ^ k < starts.length := Nat.div_lt_of_lt_mul (by rw [Nat.mul_comm]; exact hn)
      refine ok_bind (P := fun v => v = ((starts.getD (n / road.length ^ k) s0), (digs road w0 k (n % road.length ^ k)).reverse)) (ok_b (manyRows_eq road k hd2 hk) (ok_b (divO_ok (by omega) (by omega)) ?_)) fun v hv => ok_some (by rw [hv]; simp)
      rw [hq]
      refine ok_b (atI_ok (d := s0) (Int.natCast_nonneg _) (Int.ofNat_lt.mpr hqs)) (ok_b (modO_ok (by omega)) ?_)
      rw [hm]
      refine ok_b (rowAt_eq hd hd2 w0 k _ hk) (ok_some (by rw [Int.toNat_natCast]))
    · refine List.ext_getElem? fun n => ?_
      unfold runsL
      rw [flat_get hM _ (fun x _ => by rw [List.length_map, rowsL_len]), List.getElem?_map]
      by_cases q : n < starts.length * road.length ^ k
      · have hqs : n / road.length ^ k < starts.length := Nat.div_lt_of_lt_mul (by rw [Nat.mul_comm]; exact q)
        rw [rg_at q, List.getElem?_eq_getElem hqs]
        show _ = ((rowsL road k).map _)[n % road.length ^ k]?
        rw [List.getElem?_map, rows_get hd w0 k _ (Nat.mod_lt _ hM)]
        simp [List.getD_eq_getElem?_getD, List.getElem?_eq_getElem hqs]
      · have e1 : (rg (starts.length * road.length ^ k))[n]? = none := List.getElem?_eq_none (by rw [rg_len]; omega)
        have e2 : starts[n / road.length ^ k]? = none := List.getElem?_eq_none (by
          have := (Nat.le_div_iff_mul_le hM).mpr (Nat.le_of_not_lt q); exact this)
        rw [e1, e2]; rfl
/-! the law's way -/
def lawRuns (a0 : List α) (a1 : Int) (a2 : List β) : Option (List (β × List α)) :=
  (some ([[]])).bind fun (rows_1 : List (List α)) => (rgO a1).bind fun r2 => (forS (fun (x3 : Int) (s56 : List (List α)) => ((forS (fun (x57 : List α) (s74 : List (List α)) => ((forS (fun (x75 : α) (s80 : List (List α)) => ((catO x57 ([x75] : List α)).bind fun v81 => (appO s80 v81).bind fun v82 => some v82)) a0 s74).bind fun s80 => some s80)) s56 ([] : List (List α))).bind fun s74 => some s74)) r2 rows_1).bind fun s56 => (forS (fun (x83 : β) (s94 : List (β × List α)) => ((forS (fun (x95 : List α) (s98 : List (β × List α)) => ((appO s98 (x83, x95)).bind fun v99 => some v99)) s56 s94).bind fun s98 => some s98)) a2 ([] : List (β × List α))).bind fun s94 => some s94
theorem lawRows_eq {road : List α} (k : Nat) (hk : k ≤ 100) (hN : ∀ i, i ≤ k → road.length ^ i ≤ 100000) : forS (fun (x3 : Int) (s56 : List (List α)) => ((forS (fun (x57 : List α) (s74 : List (List α)) => ((forS (fun (x75 : α) (s80 : List (List α)) => ((catO x57 ([x75] : List α)).bind fun v81 => (appO s80 v81).bind fun v82 => some v82)) road s74).bind fun s80 => some s80)) s56 ([] : List (List α))).bind fun s74 => some s74)) (rg k) [[]] = some (rowsL road k) := by
  have hz := sizeLine_eq
  refine ok_is ((ok_forS (fun i s => s = rowsL road i) rfl fun i x s hx hs => ?_).imp fun s hs => by rw [hs, rg_len])
  obtain ⟨_, hi⟩ := rg_get hx
  subst hs
  have hl := rowsL_len road i
  have hN1 := hN (i + 1) (by omega)
  rw [Nat.pow_succ] at hN1
  refine ok_b (forS_gather (fun row => road.map fun w => row ++ [w]) road.length (rowsL road i) [] (fun x _ => by simp) (by rw [hl]; simp; omega) fun row hr s hs => ?_) (ok_some (by simp [rowsL]))
  have hrl := (rowsL_mem road i row hr).1
  rw [List.length_map] at hs
  refine ok_is (ok_b (forS_maps (fun w => row ++ [w]) road s hs fun w hw s' hs' => ?_) (ok_some rfl))
  exact ok_is (ok_b (catO_ok (by simp; omega)) (ok_b (appO_ok hs') (ok_some rfl)))
theorem lawRuns_eq {road : List α} (k : Nat) (hk : k ≤ 100) (hN : ∀ i, i ≤ k → road.length ^ i ≤ 100000) {starts : List β} (hN2 : starts.length * road.length ^ k ≤ 100000) : lawRuns road k starts = some (runsL road k starts) := by
  have hz := sizeLine_eq
  refine ok_is ?_
  unfold lawRuns
  refine ok_let (ok_b (rgO_ok (by omega)) (ok_b (lawRows_eq k hk hN) ?_))
  have hl := rowsL_len road k
  refine ok_b (forS_gather (fun s => (rowsL road k).map fun r => (s, r)) (road.length ^ k) starts [] (fun x _ => by simp [hl]) (by simp; omega) fun x hx s hs => ?_) (ok_some (by simp [runsL]))
  rw [List.length_map] at hs
  refine ok_is (ok_b (forS_maps (fun r => (x, r)) (rowsL road k) s hs fun w hw s' hs' => ?_) (ok_some rfl))
  exact ok_is (ok_b (appO_ok hs') (ok_some rfl))
end
end Ab
end
section
namespace Lw
open PySem PySem.Spec PyProof.Rows L2 Ab
/-- many_rows(road, rounds, many, turn) -/
def f_many_rows : FS := fSeq (fAsg 2 (fC (.int 1))) (fSeq (fFor (fRange (fVar 1)) (.nm 3) (fAsg 2 (fBin gMulA (fVar 2) (fCB gLenX (fCons (fVar 0) (fNil)))))) (fRet (fVar 2)))
def F_many_rows : List D → Ro := defF 2 4 f_many_rows
/-- many_runs(road, rounds, starts) -/
def f_many_runs : FS := fRet (fBin gMulA (fCB gLenX (fCons (fVar 2) (fNil))) (fCall F_many_rows (fCons (fVar 0) (fCons (fVar 1) (fNil)))))
def F_many_runs : List D → Ro := defF 3 3 f_many_runs
/-- row_at(road, rounds, number, row, turn) -/
def f_row_at : FS := fSeq (fAsg 3 (fLst (fNil))) (fSeq (fFor (fRange (fVar 1)) (.nm 4) (fSeq (fDrop (fApp 3 (fBin gIxX (fVar 0) (fBin gMod (fVar 2) (fCB gLenX (fCons (fVar 0) (fNil))))))) (fAsgF 2 (fBin gDiv (fVar 2) (fCB gLenX (fCons (fVar 0) (fNil))))))) (fRet (fCB gTuple (fCons (fSlS (fVar 3) fNoPart fNoPart (fPart (fUn gNeg (fC (.int 1))))) (fNil)))))
def F_row_at : List D → Ro := defF 3 5 f_row_at
/-- run_at(road, rounds, starts, number, many) -/
def f_run_at : FS := fSeq (fAsgF 4 (fCall F_many_rows (fCons (fVar 0) (fCons (fVar 1) (fNil))))) (fRet (fTup (fCons (fBin gIxX (fVar 2) (fBin gDiv (fVar 3) (fVar 4))) (fCons (fCall F_row_at (fCons (fVar 0) (fCons (fVar 1) (fCons (fBin gMod (fVar 3) (fVar 4)) (fNil))))) (fNil)))))
def F_run_at : List D → Ro := defF 4 5 f_run_at
/-- all_runs(road, rounds, starts, many, number) -/
def f_all_runs : FS := fSeq (fAsgF 3 (fCall F_many_runs (fCons (fVar 0) (fCons (fVar 1) (fCons (fVar 2) (fNil)))))) (fSeq (fIf (fB (fBin gGt (fVar 3) (fC (.int 3000)))) (fRaise "TooMany") (fNext)) (fRet (fComp (fRange (fVar 3)) (.nm 4) fYes (fCall F_run_at (fCons (fVar 0) (fCons (fVar 1) (fCons (fVar 2) (fCons (fVar 4) (fNil)))))))))
def F_all_runs : List D → Ro := defF 3 5 f_all_runs
/-- came_to(hands, weather, hand, other) -/
def f_came_to : FS := fRet (fCB gTuple (fCons (fComp (fRange (fVar 0)) (.nm 3) (fAnd (fB (fBin gNe (fVar 3) (fVar 2))) (fB (fBin gNotInX (fTup (fCons (fVar 3) (fCons (fVar 2) (fNil)))) (fVar 1)))) (fVar 3)) (fNil)))
def F_came_to : List D → Ro := defF 3 4 f_came_to
/-- heard_spots(run, hand, heard, rows, weather, more, other, start) -/
def f_heard_spots : FS := fSeq (fAsgF 2 (fLst (fCons (fVar 1) (fNil)))) (fSeq (fAsg 3 (fLst (fCons (fVar 2) (fNil)))) (fSeq (fFor (fIt (fSlS (fBin gIxX (fVar 0) (fC (.int 1))) fNoPart fNoPart (fPart (fUn gNeg (fC (.int 1)))))) (.nm 4) (fSeq (fAsg 5 (fCB gList (fCons (fVar 2) (fNil)))) (fSeq (fFor (fIt (fVar 2)) (.nm 6) (fFor (fIt (fCall F_came_to (fCons (fCB gLenX (fCons (fBin gIxX (fVar 0) (fC (.int 0))) (fNil))) (fCons (fVar 4) (fCons (fVar 6) (fNil)))))) (.nm 7) (fIf (fB (fBin gNotInX (fVar 7) (fVar 5))) (fDrop (fApp 5 (fVar 7))) (fNext)))) (fSeq (fAsgF 2 (fVar 5)) (fDrop (fApp 3 (fVar 2))))))) (fRet (fSlS (fVar 3) fNoPart fNoPart (fPart (fUn gNeg (fC (.int 1))))))))
def F_heard_spots : List D → Ro := defF 2 8 f_heard_spots
/-- view(run, hand, rows, hands, values, other, came, heard, weather, some) -/
def f_view : FS := fSeq (fAsgF 2 (fCall F_heard_spots (fCons (fVar 0) (fCons (fVar 1) (fNil))))) (fSeq (fAsgF 3 (fCB gLenX (fCons (fBin gIxX (fVar 0) (fC (.int 0))) (fNil)))) (fSeq (fAsg 4 (fLst (fNil))) (fSeq (fFor (fRange (fVar 3)) (.nm 5) (fIf (fB (fBin gInX (fVar 5) (fBin gIxX (fVar 2) (fC (.int 0))))) (fDrop (fApp 4 (fBin gIxX (fBin gIxX (fVar 0) (fC (.int 0))) (fVar 5)))) (fDrop (fApp 4 (fC .non))))) (fSeq (fAsg 6 (fLst (fNil))) (fSeq (fFor (fZip (fSl (fVar 2) (fPart (fC (.int 1))) fNoPart) (fBin gIxX (fVar 0) (fC (.int 1)))) (.tu [7, 8]) (fSeq (fAsg 9 (fLst (fNil))) (fSeq (fFor (fRange (fVar 3)) (.nm 5) (fIf (fB (fBin gInX (fVar 5) (fVar 7))) (fDrop (fApp 9 (fCall F_came_to (fCons (fVar 3) (fCons (fVar 8) (fCons (fVar 5) (fNil))))))) (fDrop (fApp 9 (fC .non))))) (fDrop (fApp 6 (fCB gTuple (fCons (fVar 9) (fNil)))))))) (fRet (fTup (fCons (fVar 1) (fCons (fCB gTuple (fCons (fVar 4) (fNil))) (fCons (fCB gTuple (fCons (fVar 6) (fNil))) (fNil)))))))))))
def F_view : List D → Ro := defF 2 10 f_view
/-- parts_of(many, rows, near, row, found, met, first, part, at, one, other, number) -/
def f_parts_of : FS := fSeq (fAsg 2 (fComp (fRange (fVar 0)) (.nm 11) fYes (fLst (fNil)))) (fSeq (fFor (fIt (fVar 1)) (.nm 3) (fFor (fZipL (fVar 3) (fSl (fVar 3) (fPart (fC (.int 1))) fNoPart)) (.tu [9, 10]) (fSeq (fDrop (fNApp 2 (fVar 9) 10)) (fDrop (fNApp 2 (fVar 10) 9))))) (fFzS 2 (fSeq (fAsg 4 (fLst (fNil))) (fSeq (fAsg 5 (fDic0 false)) (fSeq (fFor (fRange (fVar 0)) (.nm 6) (fSeq (fIf (fB (fBin gInX (fVar 6) (fVar 5))) (fCont) (fNext)) (fSeq (fSetD 5 (fVar 6) (fC (.bl true))) (fSeq (fAsg 7 (fLst (fCons (fVar 6) (fNil)))) (fSeq (fAsgF 8 (fC (.int 0))) (fSeq (fWhile 1000000 (fB (fBin gLt (fVar 8) (fCB gLenX (fCons (fVar 7) (fNil))))) (fSeq (fFor (fIt (fBin gIxX (fVar 2) (fBin gIxX (fVar 7) (fVar 8)))) (.nm 10) (fIf (fB (fBin gNotInX (fVar 10) (fVar 5))) (fSeq (fSetD 5 (fVar 10) (fC (.bl true))) (fDrop (fApp 7 (fVar 10)))) (fNext))) (fAug (fun a b => a + b) 8 (fC (.int 1))))) (fDrop (fApp 4 (fCB gSortedX (fCons (fVar 7) (fNil))))))))))) (fRet (fVar 4)))))))
def F_parts_of : List D → Ro := defF 2 12 f_parts_of
/-- rows_of(hands, road, rounds, hand) -/
def f_rows_of : FS := fRet (fCall F_all_runs (fCons (fVar 1) (fCons (fVar 2) (fCons (fLst (fCons (fCB gTuple (fCons (fComp (fRange (fVar 0)) (.nm 3) fYes (fC (.int 0))) (fNil))) (fNil))) (fNil)))))
def F_rows_of : List D → Ro := defF 3 4 f_rows_of
/-- weather_parts(hands, road, rounds, runs, rows, number, run, hand) -/
def f_weather_parts : FS := fSeq (fAsgF 3 (fCall F_rows_of (fCons (fVar 0) (fCons (fVar 1) (fCons (fVar 2) (fNil)))))) (fSeq (fAsg 4 (fDic0 true)) (fSeq (fFor (fEnum (fVar 3)) (.tu [5, 6]) (fFor (fRange (fVar 0)) (.nm 7) (fDrop (fSdA 4 (fTup (fCons (fVar 7) (fCons (fBin gIxX (fCall F_view (fCons (fVar 6) (fCons (fVar 7) (fNil)))) (fC (.int 2))) (fNil)))) 5)))) (fRet (fCall F_parts_of (fCons (fCB gLenX (fCons (fVar 3) (fNil))) (fCons (fVals (fVar 4)) (fNil)))))))
def F_weather_parts : List D → Ro := defF 3 8 f_weather_parts
/-- heard_by_all(hands, run, found, hand, heard, other) -/
def f_heard_by_all : FS := fSeq (fAsg 2 (fListRange (fVar 0))) (fSeq (fFor (fRange (fVar 0)) (.nm 3) (fSeq (fAsgF 4 (fBin gIxX (fCall F_heard_spots (fCons (fVar 1) (fCons (fVar 3) (fNil)))) (fC (.int 0)))) (fAsg 2 (fComp (fIt (fVar 2)) (.nm 5) (fB (fBin gInX (fVar 5) (fVar 4))) (fVar 5))))) (fRet (fVar 2)))
def F_heard_by_all : List D → Ro := defF 2 6 f_heard_by_all
/-- callers(hands, road, rounds, runs, found, part, some, number, heard, hand) -/
def f_callers : FS := fSeq (fAsgF 3 (fCall F_rows_of (fCons (fVar 0) (fCons (fVar 1) (fCons (fVar 2) (fNil)))))) (fSeq (fAsg 4 (fLst (fNil))) (fSeq (fFor (fIt (fCall F_weather_parts (fCons (fVar 0) (fCons (fVar 1) (fCons (fVar 2) (fNil)))))) (.nm 5) (fSeq (fAsg 6 (fListRange (fVar 0))) (fSeq (fFor (fIt (fVar 5)) (.nm 7) (fSeq (fAsgF 8 (fCall F_heard_by_all (fCons (fVar 0) (fCons (fBin gIxX (fVar 3) (fVar 7)) (fNil))))) (fAsg 6 (fComp (fIt (fVar 6)) (.nm 9) (fB (fBin gInX (fVar 9) (fVar 8))) (fVar 9))))) (fDrop (fAppM 4 (fVar 6)))))) (fRet (fVar 4))))
def F_callers : List D → Ro := defF 3 10 f_callers
/-- _law_cell_at(_law_script, _law_k) -/
def f__law_cell_at : FS := fSeq (fIf (fB (fBin gLt (fVar 1) (fCB gLenX (fCons (fVar 0) (fNil))))) (fRet (fBin gIxX (fVar 0) (fVar 1))) (fNext)) (fRet (fC (.int 0)))
def F__law_cell_at : List D → Ro := defF 2 2 f__law_cell_at
/-- _law_mix(_law_cell, _law_k, _law_number, _law_turn) -/
def f__law_mix : FS := fSeq (fIf (fB (fBin gGe (fVar 0) (fBin gPow (fC (.int 10)) (fC (.int 12))))) (fSeq (fAsgF 0 (fBin gMinus (fBin gDiv (fVar 0) (fBin gPow (fC (.int 10)) (fC (.int 12)))) (fC (.int 1)))) (fSeq (fFor (fRange (fBin gMod (fVar 1) (fC (.int 61)))) (.nm 3) (fAsgF 0 (fBin gDiv (fVar 0) (fC (.int 2147483648))))) (fRet (fBin gMod (fVar 0) (fC (.int 2147483648)))))) (fNext)) (fSeq (fAsgF 2 (fBin gMod (fBin gMulA (fBin gAdd (fBin gAdd (fBin gMod (fVar 0) (fC (.int 1000003))) (fBin gMulA (fBin gMulA (fVar 1) (fVar 1)) (fC (.int 7919)))) (fVar 1)) (fC (.int 48271))) (fC (.int 2147483629)))) (fSeq (fAsgF 2 (fBin gMod (fBin gMulA (fVar 2) (fVar 2)) (fC (.int 2147483587)))) (fRet (fBin gDiv (fBin gMod (fBin gMulA (fVar 2) (fBin gAdd (fVar 2) (fC (.int 2)))) (fC (.int 2147483579))) (fC (.int 7))))))
def F__law_mix : List D → Ro := defF 2 4 f__law_mix
/-- _law_whole(_law_found) -/
def f__law_whole : FS := fRet (fAndV (fCB gIsi (fCons (fVar 0) (fCons (fC (.ty "int")) (fNil)))) (fNotV (fCB gIsi (fCons (fVar 0) (fCons (fC (.ty "bool")) (fNil))))))
def F__law_whole : List D → Ro := defF 1 1 f__law_whole
/-- _law_pairs(_law_hands, _law_found, _law_start, _law_goal) -/
def f__law_pairs : FS := fSeq (fAsg 1 (fLst (fNil))) (fSeq (fFor (fRange (fVar 0)) (.nm 2) (fFor (fRange (fVar 0)) (.nm 3) (fIf (fB (fBin gNe (fVar 2) (fVar 3))) (fDrop (fApp 1 (fTup (fCons (fVar 2) (fCons (fVar 3) (fNil)))))) (fNext)))) (fRet (fVar 1)))
def F__law_pairs : List D → Ro := defF 1 4 f__law_pairs
/-- _law_weather(_law_number, _law_hands, _law_lost, _law_pair) -/
def f__law_weather : FS := fSeq (fAsg 2 (fLst (fNil))) (fSeq (fFor (fIt (fCall F__law_pairs (fCons (fVar 1) (fNil)))) (.nm 3) (fSeq (fIf (fB (fBin gEq (fBin gMod (fVar 0) (fC (.int 3))) (fC (.int 0)))) (fDrop (fApp 2 (fVar 3))) (fNext)) (fAsgF 0 (fBin gDiv (fVar 0) (fC (.int 3)))))) (fRet (fCB gTuple (fCons (fVar 2) (fNil)))))
def F__law_weather : List D → Ro := defF 2 4 f__law_weather
/-- _law_road(_law_script, _law_hands, _law_many, _law_road_here, _law_k, _law_drawn, _law_weather_here) -/
def f__law_road : FS := fSeq (fAsg 3 (fLst (fNil))) (fSeq (fIf (fB (fBin gEq (fBin gMod (fCall F__law_cell_at (fCons (fVar 0) (fCons (fC (.int 1)) (fNil)))) (fC (.int 2))) (fC (.int 1)))) (fDrop (fApp 3 (fTup (fNil)))) (fNext)) (fSeq (fFor (fRange (fVar 2)) (.nm 4) (fSeq (fAsgF 5 (fCall F__law_mix (fCons (fCall F__law_cell_at (fCons (fVar 0) (fCons (fBin gAdd (fC (.int 2)) (fVar 4)) (fNil)))) (fCons (fBin gAdd (fC (.int 20)) (fVar 4)) (fNil))))) (fSeq (fAsgF 6 (fCall F__law_weather (fCons (fVar 5) (fCons (fVar 1) (fNil))))) (fSeq (fIf (fB (fBin gEq (fBin gMod (fBin gDiv (fVar 5) (fC (.int 600000))) (fC (.int 3))) (fC (.int 1)))) (fAsgF 6 (fSl (fVar 6) fNoPart (fPart (fC (.int 1))))) (fNext)) (fIf (fAnd (fB (fBin gNotInX (fVar 6) (fVar 3))) (fB (fBin gLt (fCB gLenX (fCons (fVar 3) (fNil))) (fVar 2)))) (fDrop (fApp 3 (fVar 6))) (fNext)))))) (fRet (fVar 3))))
def F__law_road : List D → Ro := defF 3 7 f__law_road
/-- _law_road_case(_law_script, _law_hands, _law_rounds, _law_road_here) -/
def f__law_road_case : FS := fSeq (fAsgF 1 (fBin gAdd (fC (.int 2)) (fBin gMod (fCall F__law_cell_at (fCons (fVar 0) (fCons (fC (.int 0)) (fNil)))) (fC (.int 3))))) (fSeq (fAsgF 2 (fBin gMod (fBin gDiv (fCall F__law_cell_at (fCons (fVar 0) (fCons (fC (.int 0)) (fNil)))) (fC (.int 3))) (fBin gIxX (fLst (fCons (fC (.int 5)) (fCons (fC (.int 4)) (fCons (fC (.int 3)) (fNil))))) (fBin gMinus (fVar 1) (fC (.int 2)))))) (fSeq (fAsgF 3 (fCall F__law_road (fCons (fVar 0) (fCons (fVar 1) (fCons (fBin gIxX (fLst (fCons (fC (.int 3)) (fCons (fC (.int 3)) (fCons (fC (.int 2)) (fNil))))) (fBin gMinus (fVar 1) (fC (.int 2)))) (fNil)))))) (fRet (fTup (fCons (fVar 1) (fCons (fVar 3) (fCons (fVar 2) (fNil))))))))
def F__law_road_case : List D → Ro := defF 1 4 f__law_road_case
/-- _law_rows(_law_road_here, _law_rounds, _law_rows_here, _law_k, _law_longer, _law_row, _law_weather_here) -/
def f__law_rows : FS := fSeq (fAsg 2 (fLst (fCons (fTup (fNil)) (fNil)))) (fSeq (fFor (fRange (fVar 1)) (.nm 3) (fSeq (fAsg 4 (fLst (fNil))) (fSeq (fFor (fIt (fVar 2)) (.nm 5) (fFor (fIt (fVar 0)) (.nm 6) (fDrop (fApp 4 (fBin gAdd (fVar 5) (fTup (fCons (fVar 6) (fNil)))))))) (fAsgM 2 (fVar 4))))) (fRet (fVar 2)))
def F__law_rows : List D → Ro := defF 2 7 f__law_rows
/-- _law_senders(_law_hands, _law_weather_here, _law_hand, _law_found, _law_other) -/
def f__law_senders : FS := fSeq (fAsg 3 (fLst (fNil))) (fSeq (fFor (fRange (fVar 0)) (.nm 4) (fIf (fAnd (fB (fBin gNe (fVar 4) (fVar 2))) (fB (fBin gNotInX (fTup (fCons (fVar 4) (fCons (fVar 2) (fNil)))) (fVar 1)))) (fDrop (fApp 3 (fVar 4))) (fNext))) (fRet (fCB gTuple (fCons (fVar 3) (fNil)))))
def F__law_senders : List D → Ro := defF 3 5 f__law_senders
/-- _law_view(_law_run, _law_hand, _law_hands, _law_known, _law_values, _law_came, _law_other, _law_k, _law_weather_here, _law_after, _law_row, _law_some, _law_start) -/
def f__law_view : FS := fSeq (fAsgF 2 (fCB gLenX (fCons (fBin gIxX (fVar 0) (fC (.int 0))) (fNil)))) (fSeq (fAsgF 3 (fComp (fRange (fVar 2)) (.nm 6) fYes (fDic1 true (fTup (fCons (fVar 6) (fCons (fC (.int 0)) (fNil)))) (fC (.bl true))))) (fSeq (fFor (fEnum (fBin gIxX (fVar 0) (fC (.int 1)))) (.tu [7, 8]) (fSeq (fAsg 9 (fLst (fNil))) (fSeq (fFor (fRange (fVar 2)) (.nm 6) (fSeq (fAsg 11 (fCB gDictOf (fCons (fBin gIxX (fVar 3) (fVar 6)) (fNil)))) (fSeq (fFor (fIt (fCall F__law_senders (fCons (fVar 2) (fCons (fVar 8) (fCons (fVar 6) (fNil)))))) (.nm 12) (fDrop (fUpd 11 (fBin gIxX (fVar 3) (fVar 12))))) (fSeq (fSetD 11 (fTup (fCons (fVar 6) (fCons (fBin gAdd (fVar 7) (fC (.int 1))) (fNil)))) (fC (.bl true))) (fDrop (fApp 9 (fVar 11))))))) (fAsgF 3 (fVar 9))))) (fSeq (fAsg 4 (fBin gMulA (fLst (fCons (fC .non) (fNil))) (fVar 2))) (fSeq (fAsg 5 (fLst (fNil))) (fSeq (fFor (fRange (fVar 2)) (.nm 6) (fIf (fB (fBin gInX (fTup (fCons (fVar 6) (fCons (fC (.int 0)) (fNil)))) (fBin gIxX (fVar 3) (fVar 1)))) (fSetI 4 (fVar 6) (fBin gIxX (fBin gIxX (fVar 0) (fC (.int 0))) (fVar 6))) (fNext))) (fSeq (fFor (fEnum (fBin gIxX (fVar 0) (fC (.int 1)))) (.tu [7, 8]) (fSeq (fAsg 10 (fBin gMulA (fLst (fCons (fC .non) (fNil))) (fVar 2))) (fSeq (fFor (fRange (fVar 2)) (.nm 6) (fIf (fB (fBin gInX (fTup (fCons (fVar 6) (fCons (fBin gAdd (fVar 7) (fC (.int 1))) (fNil)))) (fBin gIxX (fVar 3) (fVar 1)))) (fSetI 10 (fVar 6) (fCall F__law_senders (fCons (fVar 2) (fCons (fVar 8) (fCons (fVar 6) (fNil)))))) (fNext))) (fDrop (fApp 5 (fCB gTuple (fCons (fVar 10) (fNil)))))))) (fRet (fTup (fCons (fVar 1) (fCons (fCB gTuple (fCons (fVar 4) (fNil))) (fCons (fCB gTuple (fCons (fVar 5) (fNil))) (fNil))))))))))))
def F__law_view : List D → Ro := defF 2 13 f__law_view
/-- _law_parts(_law_many, _law_groups, _law_names, _law_busy, _law_found, _law_name, _law_seen, _law_group, _law_least, _law_number) -/
def f__law_parts : FS := fSeq (fAsg 2 (fListRange (fVar 0))) (fSeq (fAsgF 3 (fC (.bl true))) (fSeq (fWhile 1000000 (fB (fVar 3)) (fSeq (fAsgF 3 (fC (.bl false))) (fFor (fItems (fVar 1)) (.tu [6, 7]) (fSeq (fAsgF 8 (fCB gMinL (fCons (fComp (fIt (fVar 7)) (.nm 9) fYes (fBin gIxX (fVar 2) (fVar 9))) (fNil)))) (fFor (fIt (fVar 7)) (.nm 9) (fIf (fB (fBin gGt (fBin gIxX (fVar 2) (fVar 9)) (fVar 8))) (fSeq (fSetI 2 (fVar 9) (fVar 8)) (fAsgF 3 (fC (.bl true)))) (fNext))))))) (fSeq (fAsg 4 (fLst (fNil))) (fSeq (fFor (fRange (fVar 0)) (.nm 5) (fIf (fB (fBin gEq (fBin gIxX (fVar 2) (fVar 5)) (fVar 5))) (fDrop (fApp 4 (fComp (fRange (fVar 0)) (.nm 9) (fB (fBin gEq (fBin gIxX (fVar 2) (fVar 9)) (fVar 5))) (fVar 9)))) (fNext))) (fRet (fVar 4))))))
def F__law_parts : List D → Ro := defF 2 10 f__law_parts
/-- _law_came_parts(_law_hands, _law_rows_here, _law_groups, _law_number, _law_row, _law_hand) -/
def f__law_came_parts : FS := fSeq (fAsg 2 (fDic0 true)) (fSeq (fFor (fEnum (fVar 1)) (.tu [3, 4]) (fFor (fRange (fVar 0)) (.nm 5) (fDrop (fSdA 2 (fTup (fCons (fVar 5) (fCons (fBin gIxX (fCall F__law_view (fCons (fTup (fCons (fBin gMulT (fTup (fCons (fC (.int 0)) (fNil))) (fVar 0)) (fCons (fVar 4) (fNil)))) (fCons (fVar 5) (fNil)))) (fC (.int 2))) (fNil)))) 3)))) (fRet (fCall F__law_parts (fCons (fCB gLenX (fCons (fVar 1) (fNil))) (fCons (fVar 2) (fNil))))))
def F__law_came_parts : List D → Ro := defF 2 6 f__law_came_parts
/-- _law_heard_by_all(_law_hands, _law_row, _law_found, _law_hand, _law_seen, _law_other) -/
def f__law_heard_by_all : FS := fSeq (fAsg 2 (fListRange (fVar 0))) (fSeq (fFor (fRange (fVar 0)) (.nm 3) (fSeq (fAsgF 4 (fBin gIxX (fCall F__law_view (fCons (fTup (fCons (fTupRange (fVar 0)) (fCons (fVar 1) (fNil)))) (fCons (fVar 3) (fNil)))) (fC (.int 1)))) (fAsg 2 (fComp (fIt (fVar 2)) (.nm 5) (fB (fBin gNotN (fBin gIxX (fVar 4) (fVar 5)) (fC .non))) (fVar 5))))) (fRet (fVar 2)))
def F__law_heard_by_all : List D → Ro := defF 2 6 f__law_heard_by_all
/-- law(_law_script, _law_rows_here, _law_due, _law_part, _law_handed, _law_found, _law_hands, _law_road_here, _law_rounds, _law_some, _law_number, _law_hand, _law_heard) -/
def f_law : FS := fSeq (fAsgT (.tu [6, 7, 8]) (fCall F__law_road_case (fCons (fVar 0) (fNil)))) (fSeq (fAsgF 1 (fCall F__law_rows (fCons (fVar 7) (fCons (fVar 8) (fNil))))) (fSeq (fAsg 2 (fLst (fNil))) (fSeq (fFor (fIt (fCall F__law_came_parts (fCons (fVar 6) (fCons (fVar 1) (fNil))))) (.nm 3) (fSeq (fAsgF 9 (fListRange (fVar 6))) (fSeq (fFor (fIt (fVar 3)) (.nm 10) (fSeq (fAsgF 12 (fCall F__law_heard_by_all (fCons (fVar 6) (fCons (fBin gIxX (fVar 1) (fVar 10)) (fNil))))) (fAsgF 9 (fComp (fIt (fVar 9)) (.nm 11) (fB (fBin gInX (fVar 11) (fVar 12))) (fVar 11))))) (fDrop (fApp 2 (fVar 9)))))) (fSeq (fAsgF 4 (fCB gList (fCons (fVar 7) (fNil)))) (fSeq (fAsg 5 (fCall F_callers (fCons (fVar 6) (fCons (fVar 4) (fCons (fVar 8) (fNil)))))) (fSeq (fIf (fOr (fNot (fB (fCB gIsi (fCons (fVar 5) (fCons (fC (.ty "list")) (fNil)))))) (fOr (fB (fBin gNe (fVar 5) (fVar 2))) (fB (fBin gNe (fVar 4) (fVar 7))))) (fRet (fC (.bl false))) (fNext)) (fSeq (fLook 5 3 11 (fNot (fB (fCB gIsi (fCons (fVar 3) (fCons (fC (.ty "list")) (fNil)))))) (fNot (fB (fCall F__law_whole (fCons (fVar 11) (fNil)))))) (fSeq (fDrop (fNAppI 5 (fC (.int 0)) 9)) (fSeq (fDrop (fApp 5 (fLst (fNil)))) (fRet (fBin gEq (fCall F_callers (fCons (fVar 6) (fCons (fVar 4) (fCons (fVar 8) (fNil))))) (fVar 2))))))))))))
def F_law : List D → Ro := defF 1 13 f_law
end Lw
end
section
namespace Lw
open PySem PySem.Spec PyProof.Rows L2 Ab
def scE (d : Scope) : Expr → Scope
  | .ListComp _ _ s _ => s
  | _ => d
def scS (d : Scope) : Stmt → Scope
  | .Return (some e) _ => scE d e
  | .Assign _ e _ => scE d e
  | _ => d
def scR (d : Scope) (st : Stmt) : Scope := relabel (scS d st) (envOfC (Str.ofString "") d 0 0 .none)
def topS (i : Nat) : Stmt := PySem.Challenge.pw_losspact_k52_callers.main.body.getD i (.Pass ⟨0, 0, 0, 0⟩)
abbrev s_many_rows : Stmt := topS 5
abbrev N_many_rows : List Str := ["road", "rounds", "many", "turn"]
theorem sc_many_rows : FnScope N_many_rows ["road", "rounds"] (defScope s_many_rows) := ⟨rfl, rfl, rfl, by decide +kernel, rfl, by decide +kernel, by decide +kernel⟩
abbrev s_many_runs : Stmt := topS 6
abbrev N_many_runs : List Str := ["road", "rounds", "starts"]
theorem sc_many_runs : FnScope N_many_runs ["road", "rounds", "starts"] (defScope s_many_runs) := ⟨rfl, rfl, rfl, by decide +kernel, rfl, by decide +kernel, by decide +kernel⟩
abbrev s_row_at : Stmt := topS 7
abbrev N_row_at : List Str := ["road", "rounds", "number", "row", "turn"]
theorem sc_row_at : FnScope N_row_at ["road", "rounds", "number"] (defScope s_row_at) := ⟨rfl, rfl, rfl, by decide +kernel, rfl, by decide +kernel, by decide +kernel⟩
abbrev s_run_at : Stmt := topS 8
abbrev N_run_at : List Str := ["road", "rounds", "starts", "number", "many"]
theorem sc_run_at : FnScope N_run_at ["road", "rounds", "starts", "number"] (defScope s_run_at) := ⟨rfl, rfl, rfl, by decide +kernel, rfl, by decide +kernel, by decide +kernel⟩
abbrev s_all_runs : Stmt := topS 9
abbrev N_all_runs : List Str := ["road", "rounds", "starts", "many", "number"]
theorem sc_all_runs : FnScope N_all_runs ["road", "rounds", "starts"] (defScope s_all_runs) := ⟨rfl, rfl, rfl, by decide +kernel, rfl, by decide +kernel, by decide +kernel⟩
abbrev s_came_to : Stmt := topS 11
abbrev N_came_to : List Str := ["hands", "weather", "hand", "other"]
theorem sc_came_to : FnScope N_came_to ["hands", "weather", "hand"] (defScope s_came_to) := ⟨rfl, rfl, rfl, by decide +kernel, rfl, by decide +kernel, by decide +kernel⟩
abbrev s_heard_spots : Stmt := topS 12
abbrev N_heard_spots : List Str := ["run", "hand", "heard", "rows", "weather", "more", "other", "start"]
theorem sc_heard_spots : FnScope N_heard_spots ["run", "hand"] (defScope s_heard_spots) := ⟨rfl, rfl, rfl, by decide +kernel, rfl, by decide +kernel, by decide +kernel⟩
abbrev s_view : Stmt := topS 13
abbrev N_view : List Str := ["run", "hand", "rows", "hands", "values", "other", "came", "heard", "weather", "some"]
theorem sc_view : FnScope N_view ["run", "hand"] (defScope s_view) := ⟨rfl, rfl, rfl, by decide +kernel, rfl, by decide +kernel, by decide +kernel⟩
abbrev s_parts_of : Stmt := topS 15
abbrev N_parts_of : List Str := ["many", "rows", "near", "row", "found", "met", "first", "part", "at", "one", "other", "number"]
theorem sc_parts_of : FnScope N_parts_of ["many", "rows"] (defScope s_parts_of) := ⟨rfl, rfl, rfl, by decide +kernel, rfl, by decide +kernel, by decide +kernel⟩
abbrev s_rows_of : Stmt := topS 17
abbrev N_rows_of : List Str := ["hands", "road", "rounds", "hand"]
theorem sc_rows_of : FnScope N_rows_of ["hands", "road", "rounds"] (defScope s_rows_of) := ⟨rfl, rfl, rfl, by decide +kernel, rfl, by decide +kernel, by decide +kernel⟩
abbrev s_weather_parts : Stmt := topS 18
abbrev N_weather_parts : List Str := ["hands", "road", "rounds", "runs", "rows", "number", "run", "hand"]
theorem sc_weather_parts : FnScope N_weather_parts ["hands", "road", "rounds"] (defScope s_weather_parts) := ⟨rfl, rfl, rfl, by decide +kernel, rfl, by decide +kernel, by decide +kernel⟩
abbrev s_heard_by_all : Stmt := topS 19
abbrev N_heard_by_all : List Str := ["hands", "run", "found", "hand", "heard", "other"]
theorem sc_heard_by_all : FnScope N_heard_by_all ["hands", "run"] (defScope s_heard_by_all) := ⟨rfl, rfl, rfl, by decide +kernel, rfl, by decide +kernel, by decide +kernel⟩
abbrev s_callers : Stmt := topS 20
abbrev N_callers : List Str := ["hands", "road", "rounds", "runs", "found", "part", "some", "number", "heard", "hand"]
theorem sc_callers : FnScope N_callers ["hands", "road", "rounds"] (defScope s_callers) := ⟨rfl, rfl, rfl, by decide +kernel, rfl, by decide +kernel, by decide +kernel⟩
abbrev s__law_cell_at : Stmt := topS 22
abbrev N__law_cell_at : List Str := ["_law_script", "_law_k"]
theorem sc__law_cell_at : FnScope N__law_cell_at ["_law_script", "_law_k"] (defScope s__law_cell_at) := ⟨rfl, rfl, rfl, by decide +kernel, rfl, by decide +kernel, by decide +kernel⟩
abbrev s__law_mix : Stmt := topS 23
abbrev N__law_mix : List Str := ["_law_cell", "_law_k", "_law_number", "_law_turn"]
theorem sc__law_mix : FnScope N__law_mix ["_law_cell", "_law_k"] (defScope s__law_mix) := ⟨rfl, rfl, rfl, by decide +kernel, rfl, by decide +kernel, by decide +kernel⟩
abbrev s__law_whole : Stmt := topS 24
abbrev N__law_whole : List Str := ["_law_found"]
theorem sc__law_whole : FnScope N__law_whole ["_law_found"] (defScope s__law_whole) := ⟨rfl, rfl, rfl, by decide +kernel, rfl, by decide +kernel, by decide +kernel⟩
abbrev s__law_pairs : Stmt := topS 25
abbrev N__law_pairs : List Str := ["_law_hands", "_law_found", "_law_start", "_law_goal"]
theorem sc__law_pairs : FnScope N__law_pairs ["_law_hands"] (defScope s__law_pairs) := ⟨rfl, rfl, rfl, by decide +kernel, rfl, by decide +kernel, by decide +kernel⟩
abbrev s__law_weather : Stmt := topS 26
abbrev N__law_weather : List Str := ["_law_number", "_law_hands", "_law_lost", "_law_pair"]
theorem sc__law_weather : FnScope N__law_weather ["_law_number", "_law_hands"] (defScope s__law_weather) := ⟨rfl, rfl, rfl, by decide +kernel, rfl, by decide +kernel, by decide +kernel⟩
abbrev s__law_road : Stmt := topS 27
abbrev N__law_road : List Str := ["_law_script", "_law_hands", "_law_many", "_law_road_here", "_law_k", "_law_drawn", "_law_weather_here"]
theorem sc__law_road : FnScope N__law_road ["_law_script", "_law_hands", "_law_many"] (defScope s__law_road) := ⟨rfl, rfl, rfl, by decide +kernel, rfl, by decide +kernel, by decide +kernel⟩
abbrev s__law_road_case : Stmt := topS 28
abbrev N__law_road_case : List Str := ["_law_script", "_law_hands", "_law_rounds", "_law_road_here"]
theorem sc__law_road_case : FnScope N__law_road_case ["_law_script"] (defScope s__law_road_case) := ⟨rfl, rfl, rfl, by decide +kernel, rfl, by decide +kernel, by decide +kernel⟩
abbrev s__law_rows : Stmt := topS 29
abbrev N__law_rows : List Str := ["_law_road_here", "_law_rounds", "_law_rows_here", "_law_k", "_law_longer", "_law_row", "_law_weather_here"]
theorem sc__law_rows : FnScope N__law_rows ["_law_road_here", "_law_rounds"] (defScope s__law_rows) := ⟨rfl, rfl, rfl, by decide +kernel, rfl, by decide +kernel, by decide +kernel⟩
abbrev s__law_senders : Stmt := topS 30
abbrev N__law_senders : List Str := ["_law_hands", "_law_weather_here", "_law_hand", "_law_found", "_law_other"]
theorem sc__law_senders : FnScope N__law_senders ["_law_hands", "_law_weather_here", "_law_hand"] (defScope s__law_senders) := ⟨rfl, rfl, rfl, by decide +kernel, rfl, by decide +kernel, by decide +kernel⟩
abbrev s__law_view : Stmt := topS 31
abbrev N__law_view : List Str := ["_law_run", "_law_hand", "_law_hands", "_law_known", "_law_values", "_law_came", "_law_other", "_law_k", "_law_weather_here", "_law_after", "_law_row", "_law_some", "_law_start"]
theorem sc__law_view : FnScope N__law_view ["_law_run", "_law_hand"] (defScope s__law_view) := ⟨rfl, rfl, rfl, by decide +kernel, rfl, by decide +kernel, by decide +kernel⟩
abbrev s__law_parts : Stmt := topS 32
abbrev N__law_parts : List Str := ["_law_many", "_law_groups", "_law_names", "_law_busy", "_law_found", "_law_name", "_law_seen", "_law_group", "_law_least", "_law_number"]
theorem sc__law_parts : FnScope N__law_parts ["_law_many", "_law_groups"] (defScope s__law_parts) := ⟨rfl, rfl, rfl, by decide +kernel, rfl, by decide +kernel, by decide +kernel⟩
abbrev s__law_came_parts : Stmt := topS 33
abbrev N__law_came_parts : List Str := ["_law_hands", "_law_rows_here", "_law_groups", "_law_number", "_law_row", "_law_hand"]
theorem sc__law_came_parts : FnScope N__law_came_parts ["_law_hands", "_law_rows_here"] (defScope s__law_came_parts) := ⟨rfl, rfl, rfl, by decide +kernel, rfl, by decide +kernel, by decide +kernel⟩
abbrev s__law_heard_by_all : Stmt := topS 34
abbrev N__law_heard_by_all : List Str := ["_law_hands", "_law_row", "_law_found", "_law_hand", "_law_seen", "_law_other"]
theorem sc__law_heard_by_all : FnScope N__law_heard_by_all ["_law_hands", "_law_row"] (defScope s__law_heard_by_all) := ⟨rfl, rfl, rfl, by decide +kernel, rfl, by decide +kernel, by decide +kernel⟩
abbrev s_law : Stmt := topS 35
abbrev N_law : List Str := ["_law_script", "_law_rows_here", "_law_due", "_law_part", "_law_handed", "_law_found", "_law_hands", "_law_road_here", "_law_rounds", "_law_some", "_law_number", "_law_hand", "_law_heard"]
theorem sc_law : FnScope N_law ["_law_script"] (defScope s_law) := ⟨rfl, rfl, rfl, by decide +kernel, rfl, by decide +kernel, by decide +kernel⟩
/-- what the top has left: the defs' places a, their data, the built-ins, the constants -/
structure Txt (K : PySem.W.Frag) (mg : Str → Option Value) (cl : Str → Value) (c : Nat → Addr) (a : Nat → Addr) (fd : Nat → FuncData) : Prop where
  xg_TooMany : mg "TooMany" = some (.ref (c 0))
  xq_TooMany : PySem.W.excIn K (c 0) [.type "ValueError", .type "Exception", .type "BaseException", .type "object"] "ValueError.__new__" = true
  xk_TooMany : PySem.W.keepIn K (.ref (c 0)) = true
  xb_TooMany : PySem.W.subIn K (.ref (c 0)) (.type "BaseException") = some true
  xt_TooMany : PySem.W.typeIn K (.ref (c 0)) = some (.type "type")
  xc_TooMany : cl "TooMany" = .ref (c 0)
  f_many_rows : Fun K "many_rows" "many_rows" s_many_rows (a 0) (fd 0)
  g_many_rows : mg "many_rows" = some (.ref (a 0))
  k_many_rows : PySem.W.keepIn K (.ref (a 0)) = true
  b_many_rows : L2.Binds K (fd 0) ["road", "rounds"] []
  f_many_runs : Fun K "many_runs" "many_runs" s_many_runs (a 1) (fd 1)
  g_many_runs : mg "many_runs" = some (.ref (a 1))
  k_many_runs : PySem.W.keepIn K (.ref (a 1)) = true
  b_many_runs : L2.Binds K (fd 1) ["road", "rounds", "starts"] []
  f_row_at : Fun K "row_at" "row_at" s_row_at (a 2) (fd 2)
  g_row_at : mg "row_at" = some (.ref (a 2))
  k_row_at : PySem.W.keepIn K (.ref (a 2)) = true
  b_row_at : L2.Binds K (fd 2) ["road", "rounds", "number"] []
  f_run_at : Fun K "run_at" "run_at" s_run_at (a 3) (fd 3)
  g_run_at : mg "run_at" = some (.ref (a 3))
  k_run_at : PySem.W.keepIn K (.ref (a 3)) = true
  b_run_at : L2.Binds K (fd 3) ["road", "rounds", "starts", "number"] []
  f_all_runs : Fun K "all_runs" "all_runs" s_all_runs (a 4) (fd 4)
  g_all_runs : mg "all_runs" = some (.ref (a 4))
  k_all_runs : PySem.W.keepIn K (.ref (a 4)) = true
  b_all_runs : L2.Binds K (fd 4) ["road", "rounds", "starts"] []
  f_came_to : Fun K "came_to" "came_to" s_came_to (a 5) (fd 5)
  g_came_to : mg "came_to" = some (.ref (a 5))
  k_came_to : PySem.W.keepIn K (.ref (a 5)) = true
  b_came_to : L2.Binds K (fd 5) ["hands", "weather", "hand"] []
  f_heard_spots : Fun K "heard_spots" "heard_spots" s_heard_spots (a 6) (fd 6)
  g_heard_spots : mg "heard_spots" = some (.ref (a 6))
  k_heard_spots : PySem.W.keepIn K (.ref (a 6)) = true
  b_heard_spots : L2.Binds K (fd 6) ["run", "hand"] []
  f_view : Fun K "view" "view" s_view (a 7) (fd 7)
  g_view : mg "view" = some (.ref (a 7))
  k_view : PySem.W.keepIn K (.ref (a 7)) = true
  b_view : L2.Binds K (fd 7) ["run", "hand"] []
  f_parts_of : Fun K "parts_of" "parts_of" s_parts_of (a 8) (fd 8)
  g_parts_of : mg "parts_of" = some (.ref (a 8))
  k_parts_of : PySem.W.keepIn K (.ref (a 8)) = true
  b_parts_of : L2.Binds K (fd 8) ["many", "rows"] []
  f_rows_of : Fun K "rows_of" "rows_of" s_rows_of (a 9) (fd 9)
  g_rows_of : mg "rows_of" = some (.ref (a 9))
  k_rows_of : PySem.W.keepIn K (.ref (a 9)) = true
  b_rows_of : L2.Binds K (fd 9) ["hands", "road", "rounds"] []
  f_weather_parts : Fun K "weather_parts" "weather_parts" s_weather_parts (a 10) (fd 10)
  g_weather_parts : mg "weather_parts" = some (.ref (a 10))
  k_weather_parts : PySem.W.keepIn K (.ref (a 10)) = true
  b_weather_parts : L2.Binds K (fd 10) ["hands", "road", "rounds"] []
  f_heard_by_all : Fun K "heard_by_all" "heard_by_all" s_heard_by_all (a 11) (fd 11)
  g_heard_by_all : mg "heard_by_all" = some (.ref (a 11))
  k_heard_by_all : PySem.W.keepIn K (.ref (a 11)) = true
  b_heard_by_all : L2.Binds K (fd 11) ["hands", "run"] []
  f_callers : Fun K "callers" "callers" s_callers (a 12) (fd 12)
  g_callers : mg "callers" = some (.ref (a 12))
  k_callers : PySem.W.keepIn K (.ref (a 12)) = true
  b_callers : L2.Binds K (fd 12) ["hands", "road", "rounds"] []
  f__law_cell_at : Fun K "_law_cell_at" "_law_cell_at" s__law_cell_at (a 13) (fd 13)
  g__law_cell_at : mg "_law_cell_at" = some (.ref (a 13))
  k__law_cell_at : PySem.W.keepIn K (.ref (a 13)) = true
  b__law_cell_at : L2.Binds K (fd 13) ["_law_script", "_law_k"] []
  f__law_mix : Fun K "_law_mix" "_law_mix" s__law_mix (a 14) (fd 14)
  g__law_mix : mg "_law_mix" = some (.ref (a 14))
  k__law_mix : PySem.W.keepIn K (.ref (a 14)) = true
  b__law_mix : L2.Binds K (fd 14) ["_law_cell", "_law_k"] []
  f__law_whole : Fun K "_law_whole" "_law_whole" s__law_whole (a 15) (fd 15)
  g__law_whole : mg "_law_whole" = some (.ref (a 15))
  k__law_whole : PySem.W.keepIn K (.ref (a 15)) = true
  b__law_whole : L2.Binds K (fd 15) ["_law_found"] []
  f__law_pairs : Fun K "_law_pairs" "_law_pairs" s__law_pairs (a 16) (fd 16)
  g__law_pairs : mg "_law_pairs" = some (.ref (a 16))
  k__law_pairs : PySem.W.keepIn K (.ref (a 16)) = true
  b__law_pairs : L2.Binds K (fd 16) ["_law_hands"] []
  f__law_weather : Fun K "_law_weather" "_law_weather" s__law_weather (a 17) (fd 17)
  g__law_weather : mg "_law_weather" = some (.ref (a 17))
  k__law_weather : PySem.W.keepIn K (.ref (a 17)) = true
  b__law_weather : L2.Binds K (fd 17) ["_law_number", "_law_hands"] []
  f__law_road : Fun K "_law_road" "_law_road" s__law_road (a 18) (fd 18)
  g__law_road : mg "_law_road" = some (.ref (a 18))
  k__law_road : PySem.W.keepIn K (.ref (a 18)) = true
  b__law_road : L2.Binds K (fd 18) ["_law_script", "_law_hands", "_law_many"] []
  f__law_road_case : Fun K "_law_road_case" "_law_road_case" s__law_road_case (a 19) (fd 19)
  g__law_road_case : mg "_law_road_case" = some (.ref (a 19))
  k__law_road_case : PySem.W.keepIn K (.ref (a 19)) = true
  b__law_road_case : L2.Binds K (fd 19) ["_law_script"] []
  f__law_rows : Fun K "_law_rows" "_law_rows" s__law_rows (a 20) (fd 20)
  g__law_rows : mg "_law_rows" = some (.ref (a 20))
  k__law_rows : PySem.W.keepIn K (.ref (a 20)) = true
  b__law_rows : L2.Binds K (fd 20) ["_law_road_here", "_law_rounds"] []
  f__law_senders : Fun K "_law_senders" "_law_senders" s__law_senders (a 21) (fd 21)
  g__law_senders : mg "_law_senders" = some (.ref (a 21))
  k__law_senders : PySem.W.keepIn K (.ref (a 21)) = true
  b__law_senders : L2.Binds K (fd 21) ["_law_hands", "_law_weather_here", "_law_hand"] []
  f__law_view : Fun K "_law_view" "_law_view" s__law_view (a 22) (fd 22)
  g__law_view : mg "_law_view" = some (.ref (a 22))
  k__law_view : PySem.W.keepIn K (.ref (a 22)) = true
  b__law_view : L2.Binds K (fd 22) ["_law_run", "_law_hand"] []
  f__law_parts : Fun K "_law_parts" "_law_parts" s__law_parts (a 23) (fd 23)
  g__law_parts : mg "_law_parts" = some (.ref (a 23))
  k__law_parts : PySem.W.keepIn K (.ref (a 23)) = true
  b__law_parts : L2.Binds K (fd 23) ["_law_many", "_law_groups"] []
  f__law_came_parts : Fun K "_law_came_parts" "_law_came_parts" s__law_came_parts (a 24) (fd 24)
  g__law_came_parts : mg "_law_came_parts" = some (.ref (a 24))
  k__law_came_parts : PySem.W.keepIn K (.ref (a 24)) = true
  b__law_came_parts : L2.Binds K (fd 24) ["_law_hands", "_law_rows_here"] []
  f__law_heard_by_all : Fun K "_law_heard_by_all" "_law_heard_by_all" s__law_heard_by_all (a 25) (fd 25)
  g__law_heard_by_all : mg "_law_heard_by_all" = some (.ref (a 25))
  k__law_heard_by_all : PySem.W.keepIn K (.ref (a 25)) = true
  b__law_heard_by_all : L2.Binds K (fd 25) ["_law_hands", "_law_row"] []
  f_law : Fun K "law" "law" s_law (a 26) (fd 26)
  g_law : mg "law" = some (.ref (a 26))
  k_law : PySem.W.keepIn K (.ref (a 26)) = true
  b_law : L2.Binds K (fd 26) ["_law_script"] []
  c_MOST : ∃ t, mg "MOST" = some (.int 3000 t)
  b_bool : mg "bool" = none
  b_dict : mg "dict" = none
  b_enumerate : mg "enumerate" = none
  b_int : mg "int" = none
  b_isinstance : mg "isinstance" = none
  b_len : mg "len" = none
  b_list : mg "list" = none
  b_min : mg "min" = none
  b_range : mg "range" = none
  b_sorted : mg "sorted" = none
  b_tuple : mg "tuple" = none
  b_zip : mg "zip" = none
section
variable {P : Program} {w : World} {K : PySem.W.Frag} {mg : Str → Option Value} {base : Heap} {cl : Str → Value} {a : Nat → Addr} {fd : Nat → FuncData} {c : Nat → Addr}
theorem ok_many_rows (T : Txt K mg cl c a fd) : FnOk P w K mg base (L2.CX P w) 1 (a 0) (fd 0) ["road", "rounds"] (spF ⟨K, w⟩ cl 2 F_many_rows) := by
  have sc := sc_many_rows
  refine ok_def (N := N_many_rows) (k := 0) (np := 2) (nn := 4) (fb := f_many_rows) rfl rfl T.f_many_rows sc fun cdv A outer s H E B hr tk hp => ?_
  exact (qs_cons (qs_set (i := 2) sc.nd rfl (by first | exact Or.inl rfl | exact Or.inr rfl) qe_int)
      (qs_cons (qs_for hp rfl rfl (qi_range (by rfl) T.b_range (qv 1)) (qg_name (i := 3) sc.nd rfl (by first | exact Or.inl rfl | exact Or.inr rfl)) (qs_one (qs_set (i := 2) sc.nd rfl (by first | exact Or.inl rfl | exact Or.inr rfl) (qe_bin op_mulA opd_mulA (qv 2) (qe_callB call_lenX cd_lenX (by rfl) T.b_len (by decide +kernel) (qa_cons (qv 0) qa_nil))))))
      (qs_one (qs_ret (qv 2)))))
theorem ok_many_runs (T : Txt K mg cl c a fd) (G_many_rows : FnOk P w K mg base (L2.CX P w) 1 (a 0) (fd 0) ["road", "rounds"] (spF ⟨K, w⟩ cl 2 F_many_rows)) : FnOk P w K mg base (L2.CX P w) 2 (a 1) (fd 1) ["road", "rounds", "starts"] (spF ⟨K, w⟩ cl 3 F_many_runs) := by
  have sc := sc_many_runs
  refine ok_def (N := N_many_runs) (k := 1) (np := 3) (nn := 3) (fb := f_many_runs) rfl rfl T.f_many_runs sc fun cdv A outer s H E B hr tk hp => ?_
  exact (qs_one (qs_ret (qe_bin op_mulA opd_mulA (qe_callB call_lenX cd_lenX (by rfl) T.b_len (by decide +kernel) (qa_cons (qv 2) qa_nil)) (qe_call defF_len rfl tk G_many_rows (hr.mono (by decide)) (by rfl) T.g_many_rows T.k_many_rows T.b_many_rows (qa_cons (qv 0) (qa_cons (qv 1) qa_nil))))))
theorem ok_row_at (T : Txt K mg cl c a fd) : FnOk P w K mg base (L2.CX P w) 1 (a 2) (fd 2) ["road", "rounds", "number"] (spF ⟨K, w⟩ cl 3 F_row_at) := by
  have sc := sc_row_at
  refine ok_def (N := N_row_at) (k := 0) (np := 3) (nn := 5) (fb := f_row_at) rfl rfl T.f_row_at sc fun cdv A outer s H E B hr tk hp => ?_
  exact (qs_cons (qs_set (i := 3) sc.nd rfl (by first | exact Or.inl rfl | exact Or.inr rfl) (qe_lst qa_nil))
      (qs_cons (qs_for hp rfl rfl (qi_range (by rfl) T.b_range (qv 1)) (qg_name (i := 4) sc.nd rfl (by first | exact Or.inl rfl | exact Or.inr rfl)) (qs_cons (qs_expr (qe_app rfl (pv 3) (qe_ix (ix_X (hu65 hr)) opd_ixX (qv 0) (qe_bin op_mod opd_mod (qv 2) (qe_callB call_lenX cd_lenX (by rfl) T.b_len (by decide +kernel) (qa_cons (qv 0) qa_nil))) (fun _ _ => rfl))))
      (qs_one (qs_setF (i := 2) sc.nd rfl (by first | exact Or.inl rfl | exact Or.inr rfl) (qe_bin op_fdivW opd_div (qv 2) (qe_callB call_lenX cd_lenX (by rfl) T.b_len (by decide +kernel) (qa_cons (qv 0) qa_nil)))))))
      (qs_one (qs_ret (qe_callTy call_tuple_of cd_tuple (by rfl) T.b_tuple (by decide +kernel) (qa_cons (qe_sliceS rfl (qv 3) qo_none qo_none (qo_some (qe_neg qe_int))) qa_nil))))))
theorem ok_run_at (T : Txt K mg cl c a fd) (G_many_rows : FnOk P w K mg base (L2.CX P w) 1 (a 0) (fd 0) ["road", "rounds"] (spF ⟨K, w⟩ cl 2 F_many_rows)) (G_row_at : FnOk P w K mg base (L2.CX P w) 1 (a 2) (fd 2) ["road", "rounds", "number"] (spF ⟨K, w⟩ cl 3 F_row_at)) : FnOk P w K mg base (L2.CX P w) 2 (a 3) (fd 3) ["road", "rounds", "starts", "number"] (spF ⟨K, w⟩ cl 4 F_run_at) := by
  have sc := sc_run_at
  refine ok_def (N := N_run_at) (k := 1) (np := 4) (nn := 5) (fb := f_run_at) rfl rfl T.f_run_at sc fun cdv A outer s H E B hr tk hp => ?_
  exact (qs_cons (qs_setF (i := 4) sc.nd rfl (by first | exact Or.inl rfl | exact Or.inr rfl) (qe_call defF_len rfl tk G_many_rows (hr.mono (by decide)) (by rfl) T.g_many_rows T.k_many_rows T.b_many_rows (qa_cons (qv 0) (qa_cons (qv 1) qa_nil))))
      (qs_one (qs_ret (qe_tup (qa_cons (qe_ix (ix_X (hu65 hr)) opd_ixX (qv 2) (qe_bin op_fdivW opd_div (qv 3) (qv 4)) (fun _ _ => rfl)) (qa_cons (qe_call defF_len rfl tk G_row_at (hr.mono (by decide)) (by rfl) T.g_row_at T.k_row_at T.b_row_at (qa_cons (qv 0) (qa_cons (qv 1) (qa_cons (qe_bin op_mod opd_mod (qv 3) (qv 4)) qa_nil)))) qa_nil))))))
theorem ok_all_runs (T : Txt K mg cl c a fd) (G_many_runs : FnOk P w K mg base (L2.CX P w) 2 (a 1) (fd 1) ["road", "rounds", "starts"] (spF ⟨K, w⟩ cl 3 F_many_runs)) (G_run_at : FnOk P w K mg base (L2.CX P w) 2 (a 3) (fd 3) ["road", "rounds", "starts", "number"] (spF ⟨K, w⟩ cl 4 F_run_at)) : FnOk P w K mg base (L2.CX P w) 3 (a 4) (fd 4) ["road", "rounds", "starts"] (spF ⟨K, w⟩ cl 3 F_all_runs) := by
  have sc := sc_all_runs
  refine ok_def (N := N_all_runs) (k := 2) (np := 3) (nn := 5) (fb := f_all_runs) rfl rfl T.f_all_runs sc fun cdv A outer s H E B hr tk hp => ?_
  exact (qs_cons (qs_setF (i := 3) sc.nd rfl (by first | exact Or.inl rfl | exact Or.inr rfl) (qe_call defF_len rfl tk G_many_runs (hr.mono (by decide)) (by rfl) T.g_many_runs T.k_many_runs T.b_many_runs (qa_cons (qv 0) (qa_cons (qv 1) (qa_cons (qv 2) qa_nil)))))
      (qs_cons (qs_if (qt_cmp op_gt opd_gt (qv 3) (qe_gint (T.c_MOST.elim fun t e => pe_glob (by rfl) e ⟨t, rfl⟩)) (nomark _)) (qs_one (qs_raise PySem.F.excBase_ValueError rfl tk T.xq_TooMany T.xg_TooMany T.xk_TooMany T.xb_TooMany T.xt_TooMany (by rfl) T.xc_TooMany)) qs_nil)
      (qs_one (qs_ret (qe_comp (own := [("number", 4)]) rfl sc.nd rfl rfl (qi_range (by rfl) T.b_range (qv 3)) (blkOk_by (own := [("number", 4)]) (N := N_all_runs) (sc := defScope s_all_runs) (by decide +kernel)) (fun _ _ _ _ _ => (qg_name (i := 4) sc.nd rfl (by first | exact Or.inl rfl | exact Or.inr rfl))) (fun _ _ _ _ _ => qts_nil) (fun _ _ _ _ _ => (qe_call defF_len rfl takes0 G_run_at (hr.mono (by decide)) (by rfl) T.g_run_at T.k_run_at T.b_run_at (qa_cons (qv 0) (qa_cons (qv 1) (qa_cons (qv 2) (qa_cons (qv 4) qa_nil)))))))))))
theorem ok_came_to (T : Txt K mg cl c a fd) : FnOk P w K mg base (L2.CX P w) 1 (a 5) (fd 5) ["hands", "weather", "hand"] (spF ⟨K, w⟩ cl 3 F_came_to) := by
  have sc := sc_came_to
  refine ok_def (N := N_came_to) (k := 0) (np := 3) (nn := 4) (fb := f_came_to) rfl rfl T.f_came_to sc fun cdv A outer s H E B hr tk hp => ?_
  exact (qs_one (qs_ret (qe_callTy call_tuple_of cd_tuple (by rfl) T.b_tuple (by decide +kernel) (qa_cons (qe_comp (own := [("other", 3)]) rfl sc.nd rfl rfl (qi_range (by rfl) T.b_range (qv 0)) (blkOk_by (own := [("other", 3)]) (N := N_came_to) (sc := defScope s_came_to) (by decide +kernel)) (fun _ _ _ _ _ => (qg_name (i := 3) sc.nd rfl (by first | exact Or.inl rfl | exact Or.inr rfl))) (fun _ _ _ _ _ => (qts_one ((qw_and (qt_cmp (op_neD (hu64 hr)) opd_ne (qv 3) (qv 2) (nomark _)) (qw_and1 (qt_cmp (op_notInX (hu65 hr)) opd_notInX (qe_tup (qa_cons (qv 3) (qa_cons (qv 2) qa_nil))) (qv 1) (by rfl))))).pt)) (fun _ _ _ _ _ => (qv 3))) qa_nil))))
theorem ok_heard_spots (T : Txt K mg cl c a fd) (G_came_to : FnOk P w K mg base (L2.CX P w) 1 (a 5) (fd 5) ["hands", "weather", "hand"] (spF ⟨K, w⟩ cl 3 F_came_to)) : FnOk P w K mg base (L2.CX P w) 2 (a 6) (fd 6) ["run", "hand"] (spF ⟨K, w⟩ cl 2 F_heard_spots) := by
  have sc := sc_heard_spots
  refine ok_def (N := N_heard_spots) (k := 1) (np := 2) (nn := 8) (fb := f_heard_spots) rfl rfl T.f_heard_spots sc fun cdv A outer s H E B hr tk hp => ?_
  exact (qs_cons (qs_setF (i := 2) sc.nd rfl (by first | exact Or.inl rfl | exact Or.inr rfl) (qe_lst (qa_cons (qv 1) qa_nil)))
      (qs_cons (qs_set (i := 3) sc.nd rfl (by first | exact Or.inl rfl | exact Or.inr rfl) (qe_lst (qa_cons (qv 2) qa_nil)))
      (qs_cons (qs_for hp rfl rfl (qi_it rfl (qe_sliceS rfl (qe_ix (ix_X (hu65 hr)) opd_ixX (qv 0) qe_int (fun _ _ => rfl)) qo_none qo_none (qo_some (qe_neg qe_int)))) (qg_name (i := 4) sc.nd rfl (by first | exact Or.inl rfl | exact Or.inr rfl)) (qs_cons (qs_set (i := 5) sc.nd rfl (by first | exact Or.inl rfl | exact Or.inr rfl) (qe_callTy call_list_of cd_list (by rfl) T.b_list (by decide +kernel) (qa_cons (qv 2) qa_nil)))
      (qs_cons (qs_for hp rfl rfl (qi_it rfl (qv 2)) (qg_name (i := 6) sc.nd rfl (by first | exact Or.inl rfl | exact Or.inr rfl)) (qs_one (qs_for hp rfl rfl (qi_it rfl (qe_call defF_len rfl tk G_came_to (hr.mono (by decide)) (by rfl) T.g_came_to T.k_came_to T.b_came_to (qa_cons (qe_callB call_lenX cd_lenX (by rfl) T.b_len (by decide +kernel) (qa_cons (qe_ix (ix_X (hu65 hr)) opd_ixX (qv 0) qe_int (fun _ _ => rfl)) qa_nil)) (qa_cons (qv 4) (qa_cons (qv 6) qa_nil))))) (qg_name (i := 7) sc.nd rfl (by first | exact Or.inl rfl | exact Or.inr rfl)) (qs_one (qs_if (qt_cmp (op_notInX (hu65 hr)) opd_notInX (qv 7) (qv 5) (by rfl)) (qs_one (qs_expr (qe_app rfl (pv 5) (qv 7)))) qs_nil)))))
      (qs_cons (qs_setF (i := 2) sc.nd rfl (by first | exact Or.inl rfl | exact Or.inr rfl) (qv 5))
      (qs_one (qs_expr (qe_app rfl (pv 3) (qv 2))))))))
      (qs_one (qs_ret (qe_sliceS rfl (qv 3) qo_none qo_none (qo_some (qe_neg qe_int))))))))
theorem ok_view (T : Txt K mg cl c a fd) (G_heard_spots : FnOk P w K mg base (L2.CX P w) 2 (a 6) (fd 6) ["run", "hand"] (spF ⟨K, w⟩ cl 2 F_heard_spots)) (G_came_to : FnOk P w K mg base (L2.CX P w) 1 (a 5) (fd 5) ["hands", "weather", "hand"] (spF ⟨K, w⟩ cl 3 F_came_to)) : FnOk P w K mg base (L2.CX P w) 3 (a 7) (fd 7) ["run", "hand"] (spF ⟨K, w⟩ cl 2 F_view) := by
  have sc := sc_view
  refine ok_def (N := N_view) (k := 2) (np := 2) (nn := 10) (fb := f_view) rfl rfl T.f_view sc fun cdv A outer s H E B hr tk hp => ?_
  exact (qs_cons (qs_setF (i := 2) sc.nd rfl (by first | exact Or.inl rfl | exact Or.inr rfl) (qe_call defF_len rfl tk G_heard_spots (hr.mono (by decide)) (by rfl) T.g_heard_spots T.k_heard_spots T.b_heard_spots (qa_cons (qv 0) (qa_cons (qv 1) qa_nil))))
      (qs_cons (qs_setF (i := 3) sc.nd rfl (by first | exact Or.inl rfl | exact Or.inr rfl) (qe_callB call_lenX cd_lenX (by rfl) T.b_len (by decide +kernel) (qa_cons (qe_ix (ix_X (hu65 hr)) opd_ixX (qv 0) qe_int (fun _ _ => rfl)) qa_nil)))
      (qs_cons (qs_set (i := 4) sc.nd rfl (by first | exact Or.inl rfl | exact Or.inr rfl) (qe_lst qa_nil))
      (qs_cons (qs_for hp rfl rfl (qi_range (by rfl) T.b_range (qv 3)) (qg_name (i := 5) sc.nd rfl (by first | exact Or.inl rfl | exact Or.inr rfl)) (qs_one (qs_if (qt_cmp (op_inX (hu65 hr)) opd_inX (qv 5) (qe_ix (ix_X (hu65 hr)) opd_ixX (qv 2) qe_int (fun _ _ => rfl)) (by rfl)) (qs_one (qs_expr (qe_app rfl (pv 4) (qe_ix (ix_X (hu65 hr)) opd_ixX (qe_ix (ix_X (hu65 hr)) opd_ixX (qv 0) qe_int (fun _ _ => rfl)) (qv 5) (fun _ _ => rfl))))) (qs_one (qs_expr (qe_app rfl (pv 4) qe_non))))))
      (qs_cons (qs_set (i := 6) sc.nd rfl (by first | exact Or.inl rfl | exact Or.inr rfl) (qe_lst qa_nil))
      (qs_cons (qs_for hp rfl rfl (qi_zip rfl (by rfl) T.b_zip (qe_slice rfl (qv 2) (qo_some qe_int) qo_none) (qe_ix (ix_X (hu65 hr)) opd_ixX (qv 0) qe_int (fun _ _ => rfl))) (qg_tup rfl (qgs_cons (i := 7) sc.nd rfl (by first | exact Or.inl rfl | exact Or.inr rfl) (qgs_cons (i := 8) sc.nd rfl (by first | exact Or.inl rfl | exact Or.inr rfl) qgs_nil))) (qs_cons (qs_set (i := 9) sc.nd rfl (by first | exact Or.inl rfl | exact Or.inr rfl) (qe_lst qa_nil))
      (qs_cons (qs_for hp rfl rfl (qi_range (by rfl) T.b_range (qv 3)) (qg_name (i := 5) sc.nd rfl (by first | exact Or.inl rfl | exact Or.inr rfl)) (qs_one (qs_if (qt_cmp (op_inX (hu65 hr)) opd_inX (qv 5) (qv 7) (by rfl)) (qs_one (qs_expr (qe_app rfl (pv 9) (qe_call defF_len rfl tk G_came_to (hr.mono (by decide)) (by rfl) T.g_came_to T.k_came_to T.b_came_to (qa_cons (qv 3) (qa_cons (qv 8) (qa_cons (qv 5) qa_nil))))))) (qs_one (qs_expr (qe_app rfl (pv 9) qe_non))))))
      (qs_one (qs_expr (qe_app rfl (pv 6) (qe_callTy call_tuple_of cd_tuple (by rfl) T.b_tuple (by decide +kernel) (qa_cons (qv 9) qa_nil))))))))
      (qs_one (qs_ret (qe_tup (qa_cons (qv 1) (qa_cons (qe_callTy call_tuple_of cd_tuple (by rfl) T.b_tuple (by decide +kernel) (qa_cons (qv 4) qa_nil)) (qa_cons (qe_callTy call_tuple_of cd_tuple (by rfl) T.b_tuple (by decide +kernel) (qa_cons (qv 6) qa_nil)) qa_nil))))))))))))
theorem ok_parts_of (T : Txt K mg cl c a fd) : FnOk P w K mg base (L2.CX P w) 1 (a 8) (fd 8) ["many", "rows"] (spF ⟨K, w⟩ cl 2 F_parts_of) := by
  have sc := sc_parts_of
  refine ok_def (N := N_parts_of) (k := 0) (np := 2) (nn := 12) (fb := f_parts_of) rfl rfl T.f_parts_of sc fun cdv A outer s H E B hr tk hp => ?_
  exact (qs_cons (qs_comp (i := 2) (own := [("number", 11)]) rfl sc.nd rfl rfl rfl rfl (sw_true rfl rfl rfl (by decide +kernel)) (qi_range (by rfl) T.b_range (qv 0)) (blkOk_by (own := [("number", 11)]) (N := N_parts_of) (sc := defScope s_parts_of) (by decide +kernel)) (fun _ _ _ _ _ => (qg_name (i := 11) sc.nd rfl (by first | exact Or.inl rfl | exact Or.inr rfl))) (fun _ _ _ _ _ => qts_nil) (fun _ _ _ _ _ => (qe_lst qa_nil)))
      (qs_cons (qs_for hp rfl rfl (qi_it rfl (qv 1)) (qg_name (i := 3) sc.nd rfl (by first | exact Or.inl rfl | exact Or.inr rfl)) (qs_one (qs_for hp rfl rfl (qi_zipL rfl (by rfl) T.b_zip (qv 3) (qe_slice rfl (qv 3) (qo_some qe_int) qo_none)) (qg_tup rfl (qgs_cons (i := 9) sc.nd rfl (by first | exact Or.inl rfl | exact Or.inr rfl) (qgs_cons (i := 10) sc.nd rfl (by first | exact Or.inl rfl | exact Or.inr rfl) qgs_nil))) (qs_cons (qs_expr (qe_napp rfl (pv 2) (qv 9) (pv 10) (fun _ _ => rfl)))
      (qs_one (qs_expr (qe_napp rfl (pv 2) (qv 10) (pv 9) (fun _ _ => rfl))))))))
      (qs_fzs (qs_cons (qs_set (i := 4) sc.nd rfl (by first | exact Or.inl rfl | exact Or.inr rfl) (qe_lst qa_nil))
      (qs_cons (qs_set (i := 5) sc.nd rfl (by first | exact Or.inl rfl | exact Or.inr rfl) qe_dic0K)
      (qs_cons (qs_for hp rfl rfl (qi_range (by rfl) T.b_range (qv 0)) (qg_name (i := 6) sc.nd rfl (by first | exact Or.inl rfl | exact Or.inr rfl)) (qs_cons (qs_if (qt_cmp (op_inX (hu65 hr)) opd_inX (qv 6) (qv 5) (by rfl)) (qs_one qs_cont) qs_nil)
      (qs_cons (qs_setD (hu65 hr) rfl (pv 5) (qv 6) qe_bl)
      (qs_cons (qs_set (i := 7) sc.nd rfl (by first | exact Or.inl rfl | exact Or.inr rfl) (qe_lst (qa_cons (qv 6) qa_nil)))
      (qs_cons (qs_setF (i := 8) sc.nd rfl (by first | exact Or.inl rfl | exact Or.inr rfl) qe_int)
      (qs_cons (qs_while hp (qt_cmp op_lt opd_lt (qv 8) (qe_callB call_lenX cd_lenX (by rfl) T.b_len (by decide +kernel) (qa_cons (qv 7) qa_nil)) (nomark _)) (qs_cons (qs_for hp rfl rfl (qi_it rfl (qe_ix (ix_X (hu65 hr)) opd_ixX (qv 2) (qe_ix (ix_X (hu65 hr)) opd_ixX (qv 7) (qv 8) (fun _ _ => rfl)) (fun _ _ => rfl))) (qg_name (i := 10) sc.nd rfl (by first | exact Or.inl rfl | exact Or.inr rfl)) (qs_one (qs_if (qt_cmp (op_notInX (hu65 hr)) opd_notInX (qv 10) (qv 5) (by rfl)) (qs_cons (qs_setD (hu65 hr) rfl (pv 5) (qv 10) qe_bl)
      (qs_one (qs_expr (qe_app rfl (pv 7) (qv 10))))) qs_nil)))
      (qs_one (qs_augA (i := 8) sc.nd rfl (by first | exact Or.inl rfl | exact Or.inr rfl) qe_int))))
      (qs_one (qs_expr (qe_app rfl (pv 4) (qe_callB cr_sortedX cd_sortedX (by rfl) T.b_sorted (by decide +kernel) (qa_cons (qv 7) qa_nil)))))))))))
      (qs_one (qs_ret (qv 4)))))))))
theorem ok_rows_of (T : Txt K mg cl c a fd) (G_all_runs : FnOk P w K mg base (L2.CX P w) 3 (a 4) (fd 4) ["road", "rounds", "starts"] (spF ⟨K, w⟩ cl 3 F_all_runs)) : FnOk P w K mg base (L2.CX P w) 4 (a 9) (fd 9) ["hands", "road", "rounds"] (spF ⟨K, w⟩ cl 3 F_rows_of) := by
  have sc := sc_rows_of
  refine ok_def (N := N_rows_of) (k := 3) (np := 3) (nn := 4) (fb := f_rows_of) rfl rfl T.f_rows_of sc fun cdv A outer s H E B hr tk hp => ?_
  exact (qs_one (qs_ret (qe_call defF_len rfl tk G_all_runs (hr.mono (by decide)) (by rfl) T.g_all_runs T.k_all_runs T.b_all_runs (qa_cons (qv 1) (qa_cons (qv 2) (qa_cons (qe_lst (qa_cons (qe_callTy call_tuple_of cd_tuple (by rfl) T.b_tuple (by decide +kernel) (qa_cons (qe_comp (own := [("hand", 3)]) rfl sc.nd rfl rfl (qi_range (by rfl) T.b_range (qv 0)) (blkOk_by (own := [("hand", 3)]) (N := N_rows_of) (sc := defScope s_rows_of) (by decide +kernel)) (fun _ _ _ _ _ => (qg_name (i := 3) sc.nd rfl (by first | exact Or.inl rfl | exact Or.inr rfl))) (fun _ _ _ _ _ => qts_nil) (fun _ _ _ _ _ => qe_int)) qa_nil)) qa_nil)) qa_nil))))))
theorem ok_weather_parts (T : Txt K mg cl c a fd) (G_rows_of : FnOk P w K mg base (L2.CX P w) 4 (a 9) (fd 9) ["hands", "road", "rounds"] (spF ⟨K, w⟩ cl 3 F_rows_of)) (G_view : FnOk P w K mg base (L2.CX P w) 3 (a 7) (fd 7) ["run", "hand"] (spF ⟨K, w⟩ cl 2 F_view)) (G_parts_of : FnOk P w K mg base (L2.CX P w) 1 (a 8) (fd 8) ["many", "rows"] (spF ⟨K, w⟩ cl 2 F_parts_of)) : FnOk P w K mg base (L2.CX P w) 5 (a 10) (fd 10) ["hands", "road", "rounds"] (spF ⟨K, w⟩ cl 3 F_weather_parts) := by
  have sc := sc_weather_parts
  refine ok_def (N := N_weather_parts) (k := 4) (np := 3) (nn := 8) (fb := f_weather_parts) rfl rfl T.f_weather_parts sc fun cdv A outer s H E B hr tk hp => ?_
  exact (qs_cons (qs_setF (i := 3) sc.nd rfl (by first | exact Or.inl rfl | exact Or.inr rfl) (qe_call defF_len rfl tk G_rows_of (hr.mono (by decide)) (by rfl) T.g_rows_of T.k_rows_of T.b_rows_of (qa_cons (qv 0) (qa_cons (qv 1) (qa_cons (qv 2) qa_nil)))))
      (qs_cons (qs_set (i := 4) sc.nd rfl (by first | exact Or.inl rfl | exact Or.inr rfl) (qe_dic0N rfl))
      (qs_cons (qs_for hp rfl rfl (qi_enum rfl (by rfl) T.b_enumerate (qv 3)) (qg_tup rfl (qgs_cons (i := 5) sc.nd rfl (by first | exact Or.inl rfl | exact Or.inr rfl) (qgs_cons (i := 6) sc.nd rfl (by first | exact Or.inl rfl | exact Or.inr rfl) qgs_nil))) (qs_one (qs_for hp rfl rfl (qi_range (by rfl) T.b_range (qv 0)) (qg_name (i := 7) sc.nd rfl (by first | exact Or.inl rfl | exact Or.inr rfl)) (qs_one (qs_expr (qe_sda (ps := ⟨0, 0, 0, 0⟩) (hu65 hr) rfl rfl (pv 4) (qe_tup (qa_cons (qv 7) (qa_cons (qe_ix (ix_X (hu65 hr)) opd_ixX (qe_call defF_len rfl tk G_view (hr.mono (by decide)) (by rfl) T.g_view T.k_view T.b_view (qa_cons (qv 6) (qa_cons (qv 7) qa_nil))) qe_int (fun _ _ => rfl)) qa_nil))) (pv 5)))))))
      (qs_one (qs_ret (qe_call defF_len rfl tk G_parts_of (hr.mono (by decide)) (by rfl) T.g_parts_of T.k_parts_of T.b_parts_of (qa_cons (qe_callB call_lenX cd_lenX (by rfl) T.b_len (by decide +kernel) (qa_cons (qv 3) qa_nil)) (qa_cons (qe_vals rfl rfl (by rfl) T.b_list (by decide +kernel) (qv 4)) qa_nil))))))))
theorem ok_heard_by_all (T : Txt K mg cl c a fd) (G_heard_spots : FnOk P w K mg base (L2.CX P w) 2 (a 6) (fd 6) ["run", "hand"] (spF ⟨K, w⟩ cl 2 F_heard_spots)) : FnOk P w K mg base (L2.CX P w) 3 (a 11) (fd 11) ["hands", "run"] (spF ⟨K, w⟩ cl 2 F_heard_by_all) := by
  have sc := sc_heard_by_all
  refine ok_def (N := N_heard_by_all) (k := 2) (np := 2) (nn := 6) (fb := f_heard_by_all) rfl rfl T.f_heard_by_all sc fun cdv A outer s H E B hr tk hp => ?_
  exact (qs_cons (qs_set (i := 2) sc.nd rfl (by first | exact Or.inl rfl | exact Or.inr rfl) (qe_listRange rfl (by rfl) T.b_list (by rfl) T.b_range (qv 0)))
      (qs_cons (qs_for hp rfl rfl (qi_range (by rfl) T.b_range (qv 0)) (qg_name (i := 3) sc.nd rfl (by first | exact Or.inl rfl | exact Or.inr rfl)) (qs_cons (qs_setF (i := 4) sc.nd rfl (by first | exact Or.inl rfl | exact Or.inr rfl) (qe_ix (ix_X (hu65 hr)) opd_ixX (qe_call defF_len rfl tk G_heard_spots (hr.mono (by decide)) (by rfl) T.g_heard_spots T.k_heard_spots T.b_heard_spots (qa_cons (qv 1) (qa_cons (qv 3) qa_nil))) qe_int (fun _ _ => rfl)))
      (qs_one (qs_comp (i := 2) (own := [("other", 5)]) rfl sc.nd rfl rfl rfl rfl (sw_true rfl rfl rfl (by decide +kernel)) (qi_it rfl (qv 2)) (blkOk_by (own := [("other", 5)]) (N := N_heard_by_all) (sc := defScope s_heard_by_all) (by decide +kernel)) (fun _ _ _ _ _ => (qg_name (i := 5) sc.nd rfl (by first | exact Or.inl rfl | exact Or.inr rfl))) (fun _ _ _ _ _ => (qts_one (qt_cmp (op_inX (hu65 hr)) opd_inX (qv 5) (qv 4) (by rfl)))) (fun _ _ _ _ _ => (qv 5))))))
      (qs_one (qs_ret (qv 2)))))
theorem ok_callers (T : Txt K mg cl c a fd) (G_rows_of : FnOk P w K mg base (L2.CX P w) 4 (a 9) (fd 9) ["hands", "road", "rounds"] (spF ⟨K, w⟩ cl 3 F_rows_of)) (G_weather_parts : FnOk P w K mg base (L2.CX P w) 5 (a 10) (fd 10) ["hands", "road", "rounds"] (spF ⟨K, w⟩ cl 3 F_weather_parts)) (G_heard_by_all : FnOk P w K mg base (L2.CX P w) 3 (a 11) (fd 11) ["hands", "run"] (spF ⟨K, w⟩ cl 2 F_heard_by_all)) : FnOk P w K mg base (L2.CX P w) 6 (a 12) (fd 12) ["hands", "road", "rounds"] (spF ⟨K, w⟩ cl 3 F_callers) := by
  have sc := sc_callers
  refine ok_def (N := N_callers) (k := 5) (np := 3) (nn := 10) (fb := f_callers) rfl rfl T.f_callers sc fun cdv A outer s H E B hr tk hp => ?_
  exact (qs_cons (qs_setF (i := 3) sc.nd rfl (by first | exact Or.inl rfl | exact Or.inr rfl) (qe_call defF_len rfl tk G_rows_of (hr.mono (by decide)) (by rfl) T.g_rows_of T.k_rows_of T.b_rows_of (qa_cons (qv 0) (qa_cons (qv 1) (qa_cons (qv 2) qa_nil)))))
      (qs_cons (qs_set (i := 4) sc.nd rfl (by first | exact Or.inl rfl | exact Or.inr rfl) (qe_lst qa_nil))
      (qs_cons (qs_for hp rfl rfl (qi_it rfl (qe_call defF_len rfl tk G_weather_parts (hr.mono (by decide)) (by rfl) T.g_weather_parts T.k_weather_parts T.b_weather_parts (qa_cons (qv 0) (qa_cons (qv 1) (qa_cons (qv 2) qa_nil))))) (qg_name (i := 5) sc.nd rfl (by first | exact Or.inl rfl | exact Or.inr rfl)) (qs_cons (qs_set (i := 6) sc.nd rfl (by first | exact Or.inl rfl | exact Or.inr rfl) (qe_listRange rfl (by rfl) T.b_list (by rfl) T.b_range (qv 0)))
      (qs_cons (qs_for hp rfl rfl (qi_it rfl (qv 5)) (qg_name (i := 7) sc.nd rfl (by first | exact Or.inl rfl | exact Or.inr rfl)) (qs_cons (qs_setF (i := 8) sc.nd rfl (by first | exact Or.inl rfl | exact Or.inr rfl) (qe_call defF_len rfl tk G_heard_by_all (hr.mono (by decide)) (by rfl) T.g_heard_by_all T.k_heard_by_all T.b_heard_by_all (qa_cons (qv 0) (qa_cons (qe_ix (ix_X (hu65 hr)) opd_ixX (qv 3) (qv 7) (fun _ _ => rfl)) qa_nil))))
      (qs_one (qs_comp (i := 6) (own := [("hand", 9)]) rfl sc.nd rfl rfl rfl rfl (sw_true rfl rfl rfl (by decide +kernel)) (qi_it rfl (qv 6)) (blkOk_by (own := [("hand", 9)]) (N := N_callers) (sc := defScope s_callers) (by decide +kernel)) (fun _ _ _ _ _ => (qg_name (i := 9) sc.nd rfl (by first | exact Or.inl rfl | exact Or.inr rfl))) (fun _ _ _ _ _ => (qts_one (qt_cmp (op_inX (hu65 hr)) opd_inX (qv 9) (qv 8) (by rfl)))) (fun _ _ _ _ _ => (qv 9))))))
      (qs_one (qs_expr (qe_appM rfl (pv 4) (qv 6)))))))
      (qs_one (qs_ret (qv 4))))))
theorem ok__law_cell_at (T : Txt K mg cl c a fd) : FnOk P w K mg base (L2.CX P w) 1 (a 13) (fd 13) ["_law_script", "_law_k"] (spF ⟨K, w⟩ cl 2 F__law_cell_at) := by
  have sc := sc__law_cell_at
  refine ok_def (N := N__law_cell_at) (k := 0) (np := 2) (nn := 2) (fb := f__law_cell_at) rfl rfl T.f__law_cell_at sc fun cdv A outer s H E B hr tk hp => ?_
  exact (qs_cons (qs_if (qt_cmp op_lt opd_lt (qv 1) (qe_callB call_lenX cd_lenX (by rfl) T.b_len (by decide +kernel) (qa_cons (qv 0) qa_nil)) (nomark _)) (qs_one (qs_ret (qe_ix (ix_X (hu65 hr)) opd_ixX (qv 0) (qv 1) (fun _ _ => rfl)))) qs_nil)
      (qs_one (qs_ret qe_int)))
theorem ok__law_mix (T : Txt K mg cl c a fd) : FnOk P w K mg base (L2.CX P w) 1 (a 14) (fd 14) ["_law_cell", "_law_k"] (spF ⟨K, w⟩ cl 2 F__law_mix) := by
  have sc := sc__law_mix
  refine ok_def (N := N__law_mix) (k := 0) (np := 2) (nn := 4) (fb := f__law_mix) rfl rfl T.f__law_mix sc fun cdv A outer s H E B hr tk hp => ?_
  exact (qs_cons (qs_if (qt_cmp op_ge opd_ge (qv 0) (qe_bin op_pow opd_pow qe_int qe_int) (nomark _)) (qs_cons (qs_setF (i := 0) sc.nd rfl (by first | exact Or.inl rfl | exact Or.inr rfl) (qe_bin op_sub opd_sub (qe_bin op_fdivW opd_div (qv 0) (qe_bin op_pow opd_pow qe_int qe_int)) qe_int))
      (qs_cons (qs_for hp rfl rfl (qi_range (by rfl) T.b_range (qe_bin op_mod opd_mod (qv 1) qe_int)) (qg_name (i := 3) sc.nd rfl (by first | exact Or.inl rfl | exact Or.inr rfl)) (qs_one (qs_setF (i := 0) sc.nd rfl (by first | exact Or.inl rfl | exact Or.inr rfl) (qe_bin op_fdivW opd_div (qv 0) qe_int))))
      (qs_one (qs_ret (qe_bin op_mod opd_mod (qv 0) qe_int))))) qs_nil)
      (qs_cons (qs_setF (i := 2) sc.nd rfl (by first | exact Or.inl rfl | exact Or.inr rfl) (qe_bin op_mod opd_mod (qe_bin op_mulA opd_mulA (qe_bin op_addA opd_add (qe_bin op_addA opd_add (qe_bin op_mod opd_mod (qv 0) qe_int) (qe_bin op_mulA opd_mulA (qe_bin op_mulA opd_mulA (qv 1) (qv 1)) qe_int)) (qv 1)) qe_int) qe_int))
      (qs_cons (qs_setF (i := 2) sc.nd rfl (by first | exact Or.inl rfl | exact Or.inr rfl) (qe_bin op_mod opd_mod (qe_bin op_mulA opd_mulA (qv 2) (qv 2)) qe_int))
      (qs_one (qs_ret (qe_bin op_fdivW opd_div (qe_bin op_mod opd_mod (qe_bin op_mulA opd_mulA (qv 2) (qe_bin op_addA opd_add (qv 2) qe_int)) qe_int) qe_int))))))
theorem ok__law_whole (T : Txt K mg cl c a fd) : FnOk P w K mg base (L2.CX P w) 1 (a 15) (fd 15) ["_law_found"] (spF ⟨K, w⟩ cl 1 F__law_whole) := by
  have sc := sc__law_whole
  refine ok_def (N := N__law_whole) (k := 0) (np := 1) (nn := 1) (fb := f__law_whole) rfl rfl T.f__law_whole sc fun cdv A outer s H E B hr tk hp => ?_
  exact (qs_one (qs_ret (qe_and (qe_callB call_isi cd_isi (by rfl) T.b_isinstance (by decide +kernel) (qa_cons (qv 0) (qa_cons (qe_ty (pe_bltn (v := .ty "int") (by rfl) T.b_int (by decide +kernel) rfl)) qa_nil))) (qe_one (qe_not (qe_callB call_isi cd_isi (by rfl) T.b_isinstance (by decide +kernel) (qa_cons (qv 0) (qa_cons (qe_ty (pe_bltn (v := .ty "bool") (by rfl) T.b_bool (by decide +kernel) rfl)) qa_nil))))))))
theorem ok__law_pairs (T : Txt K mg cl c a fd) : FnOk P w K mg base (L2.CX P w) 1 (a 16) (fd 16) ["_law_hands"] (spF ⟨K, w⟩ cl 1 F__law_pairs) := by
  have sc := sc__law_pairs
  refine ok_def (N := N__law_pairs) (k := 0) (np := 1) (nn := 4) (fb := f__law_pairs) rfl rfl T.f__law_pairs sc fun cdv A outer s H E B hr tk hp => ?_
  exact (qs_cons (qs_set (i := 1) sc.nd rfl (by first | exact Or.inl rfl | exact Or.inr rfl) (qe_lst qa_nil))
      (qs_cons (qs_for hp rfl rfl (qi_range (by rfl) T.b_range (qv 0)) (qg_name (i := 2) sc.nd rfl (by first | exact Or.inl rfl | exact Or.inr rfl)) (qs_one (qs_for hp rfl rfl (qi_range (by rfl) T.b_range (qv 0)) (qg_name (i := 3) sc.nd rfl (by first | exact Or.inl rfl | exact Or.inr rfl)) (qs_one (qs_if (qt_cmp (op_neD (hu64 hr)) opd_ne (qv 2) (qv 3) (nomark _)) (qs_one (qs_expr (qe_app rfl (pv 1) (qe_tup (qa_cons (qv 2) (qa_cons (qv 3) qa_nil)))))) qs_nil)))))
      (qs_one (qs_ret (qv 1)))))
theorem ok__law_weather (T : Txt K mg cl c a fd) (G__law_pairs : FnOk P w K mg base (L2.CX P w) 1 (a 16) (fd 16) ["_law_hands"] (spF ⟨K, w⟩ cl 1 F__law_pairs)) : FnOk P w K mg base (L2.CX P w) 2 (a 17) (fd 17) ["_law_number", "_law_hands"] (spF ⟨K, w⟩ cl 2 F__law_weather) := by
  have sc := sc__law_weather
  refine ok_def (N := N__law_weather) (k := 1) (np := 2) (nn := 4) (fb := f__law_weather) rfl rfl T.f__law_weather sc fun cdv A outer s H E B hr tk hp => ?_
  exact (qs_cons (qs_set (i := 2) sc.nd rfl (by first | exact Or.inl rfl | exact Or.inr rfl) (qe_lst qa_nil))
      (qs_cons (qs_for hp rfl rfl (qi_it rfl (qe_call defF_len rfl tk G__law_pairs (hr.mono (by decide)) (by rfl) T.g__law_pairs T.k__law_pairs T.b__law_pairs (qa_cons (qv 1) qa_nil))) (qg_name (i := 3) sc.nd rfl (by first | exact Or.inl rfl | exact Or.inr rfl)) (qs_cons (qs_if (qt_cmp (op_eqD (hu64 hr)) opd_eq (qe_bin op_mod opd_mod (qv 0) qe_int) qe_int (nomark _)) (qs_one (qs_expr (qe_app rfl (pv 2) (qv 3)))) qs_nil)
      (qs_one (qs_setF (i := 0) sc.nd rfl (by first | exact Or.inl rfl | exact Or.inr rfl) (qe_bin op_fdivW opd_div (qv 0) qe_int)))))
      (qs_one (qs_ret (qe_callTy call_tuple_of cd_tuple (by rfl) T.b_tuple (by decide +kernel) (qa_cons (qv 2) qa_nil))))))
theorem ok__law_road (T : Txt K mg cl c a fd) (G__law_cell_at : FnOk P w K mg base (L2.CX P w) 1 (a 13) (fd 13) ["_law_script", "_law_k"] (spF ⟨K, w⟩ cl 2 F__law_cell_at)) (G__law_mix : FnOk P w K mg base (L2.CX P w) 1 (a 14) (fd 14) ["_law_cell", "_law_k"] (spF ⟨K, w⟩ cl 2 F__law_mix)) (G__law_weather : FnOk P w K mg base (L2.CX P w) 2 (a 17) (fd 17) ["_law_number", "_law_hands"] (spF ⟨K, w⟩ cl 2 F__law_weather)) : FnOk P w K mg base (L2.CX P w) 3 (a 18) (fd 18) ["_law_script", "_law_hands", "_law_many"] (spF ⟨K, w⟩ cl 3 F__law_road) := by
  have sc := sc__law_road
  refine ok_def (N := N__law_road) (k := 2) (np := 3) (nn := 7) (fb := f__law_road) rfl rfl T.f__law_road sc fun cdv A outer s H E B hr tk hp => ?_
  exact (qs_cons (qs_set (i := 3) sc.nd rfl (by first | exact Or.inl rfl | exact Or.inr rfl) (qe_lst qa_nil))
      (qs_cons (qs_if (qt_cmp (op_eqD (hu64 hr)) opd_eq (qe_bin op_mod opd_mod (qe_call defF_len rfl tk G__law_cell_at (hr.mono (by decide)) (by rfl) T.g__law_cell_at T.k__law_cell_at T.b__law_cell_at (qa_cons (qv 0) (qa_cons qe_int qa_nil))) qe_int) qe_int (nomark _)) (qs_one (qs_expr (qe_app rfl (pv 3) (qe_tup qa_nil)))) qs_nil)
      (qs_cons (qs_for hp rfl rfl (qi_range (by rfl) T.b_range (qv 2)) (qg_name (i := 4) sc.nd rfl (by first | exact Or.inl rfl | exact Or.inr rfl)) (qs_cons (qs_setF (i := 5) sc.nd rfl (by first | exact Or.inl rfl | exact Or.inr rfl) (qe_call defF_len rfl tk G__law_mix (hr.mono (by decide)) (by rfl) T.g__law_mix T.k__law_mix T.b__law_mix (qa_cons (qe_call defF_len rfl tk G__law_cell_at (hr.mono (by decide)) (by rfl) T.g__law_cell_at T.k__law_cell_at T.b__law_cell_at (qa_cons (qv 0) (qa_cons (qe_bin op_addA opd_add qe_int (qv 4)) qa_nil))) (qa_cons (qe_bin op_addA opd_add qe_int (qv 4)) qa_nil))))
      (qs_cons (qs_setF (i := 6) sc.nd rfl (by first | exact Or.inl rfl | exact Or.inr rfl) (qe_call defF_len rfl tk G__law_weather (hr.mono (by decide)) (by rfl) T.g__law_weather T.k__law_weather T.b__law_weather (qa_cons (qv 5) (qa_cons (qv 1) qa_nil))))
      (qs_cons (qs_if (qt_cmp (op_eqD (hu64 hr)) opd_eq (qe_bin op_mod opd_mod (qe_bin op_fdivW opd_div (qv 5) qe_int) qe_int) qe_int (nomark _)) (qs_one (qs_setF (i := 6) sc.nd rfl (by first | exact Or.inl rfl | exact Or.inr rfl) (qe_slice rfl (qv 6) qo_none (qo_some qe_int)))) qs_nil)
      (qs_one (qs_if ((qw_and (qt_cmp (op_notInX (hu65 hr)) opd_notInX (qv 6) (qv 3) (by rfl)) (qw_and1 (qt_cmp op_lt opd_lt (qe_callB call_lenX cd_lenX (by rfl) T.b_len (by decide +kernel) (qa_cons (qv 3) qa_nil)) (qv 2) (nomark _))))).pt (qs_one (qs_expr (qe_app rfl (pv 3) (qv 6)))) qs_nil))))))
      (qs_one (qs_ret (qv 3))))))
theorem ok__law_road_case (T : Txt K mg cl c a fd) (G__law_cell_at : FnOk P w K mg base (L2.CX P w) 1 (a 13) (fd 13) ["_law_script", "_law_k"] (spF ⟨K, w⟩ cl 2 F__law_cell_at)) (G__law_road : FnOk P w K mg base (L2.CX P w) 3 (a 18) (fd 18) ["_law_script", "_law_hands", "_law_many"] (spF ⟨K, w⟩ cl 3 F__law_road)) : FnOk P w K mg base (L2.CX P w) 4 (a 19) (fd 19) ["_law_script"] (spF ⟨K, w⟩ cl 1 F__law_road_case) := by
  have sc := sc__law_road_case
  refine ok_def (N := N__law_road_case) (k := 3) (np := 1) (nn := 4) (fb := f__law_road_case) rfl rfl T.f__law_road_case sc fun cdv A outer s H E B hr tk hp => ?_
  exact (qs_cons (qs_setF (i := 1) sc.nd rfl (by first | exact Or.inl rfl | exact Or.inr rfl) (qe_bin op_addA opd_add qe_int (qe_bin op_mod opd_mod (qe_call defF_len rfl tk G__law_cell_at (hr.mono (by decide)) (by rfl) T.g__law_cell_at T.k__law_cell_at T.b__law_cell_at (qa_cons (qv 0) (qa_cons qe_int qa_nil))) qe_int)))
      (qs_cons (qs_setF (i := 2) sc.nd rfl (by first | exact Or.inl rfl | exact Or.inr rfl) (qe_bin op_mod opd_mod (qe_bin op_fdivW opd_div (qe_call defF_len rfl tk G__law_cell_at (hr.mono (by decide)) (by rfl) T.g__law_cell_at T.k__law_cell_at T.b__law_cell_at (qa_cons (qv 0) (qa_cons qe_int qa_nil))) qe_int) (qe_ix (ix_X (hu65 hr)) opd_ixX (qe_lst (qa_cons qe_int (qa_cons qe_int (qa_cons qe_int qa_nil)))) (qe_bin op_sub opd_sub (qv 1) qe_int) (fun _ _ => rfl))))
      (qs_cons (qs_setF (i := 3) sc.nd rfl (by first | exact Or.inl rfl | exact Or.inr rfl) (qe_call defF_len rfl tk G__law_road (hr.mono (by decide)) (by rfl) T.g__law_road T.k__law_road T.b__law_road (qa_cons (qv 0) (qa_cons (qv 1) (qa_cons (qe_ix (ix_X (hu65 hr)) opd_ixX (qe_lst (qa_cons qe_int (qa_cons qe_int (qa_cons qe_int qa_nil)))) (qe_bin op_sub opd_sub (qv 1) qe_int) (fun _ _ => rfl)) qa_nil)))))
      (qs_one (qs_ret (qe_tup (qa_cons (qv 1) (qa_cons (qv 3) (qa_cons (qv 2) qa_nil)))))))))
theorem ok__law_rows (T : Txt K mg cl c a fd) : FnOk P w K mg base (L2.CX P w) 1 (a 20) (fd 20) ["_law_road_here", "_law_rounds"] (spF ⟨K, w⟩ cl 2 F__law_rows) := by
  have sc := sc__law_rows
  refine ok_def (N := N__law_rows) (k := 0) (np := 2) (nn := 7) (fb := f__law_rows) rfl rfl T.f__law_rows sc fun cdv A outer s H E B hr tk hp => ?_
  exact (qs_cons (qs_set (i := 2) sc.nd rfl (by first | exact Or.inl rfl | exact Or.inr rfl) (qe_lst (qa_cons (qe_tup qa_nil) qa_nil)))
      (qs_cons (qs_for hp rfl rfl (qi_range (by rfl) T.b_range (qv 1)) (qg_name (i := 3) sc.nd rfl (by first | exact Or.inl rfl | exact Or.inr rfl)) (qs_cons (qs_set (i := 4) sc.nd rfl (by first | exact Or.inl rfl | exact Or.inr rfl) (qe_lst qa_nil))
      (qs_cons (qs_for hp rfl rfl (qi_it rfl (qv 2)) (qg_name (i := 5) sc.nd rfl (by first | exact Or.inl rfl | exact Or.inr rfl)) (qs_one (qs_for hp rfl rfl (qi_it rfl (qv 0)) (qg_name (i := 6) sc.nd rfl (by first | exact Or.inl rfl | exact Or.inr rfl)) (qs_one (qs_expr (qe_app rfl (pv 4) (qe_bin op_addA opd_add (qv 5) (qe_tup (qa_cons (qv 6) qa_nil)))))))))
      (qs_one (qs_setM (i := 2) sc.nd rfl (by first | exact Or.inl rfl | exact Or.inr rfl) (qv 4))))))
      (qs_one (qs_ret (qv 2)))))
theorem ok__law_senders (T : Txt K mg cl c a fd) : FnOk P w K mg base (L2.CX P w) 1 (a 21) (fd 21) ["_law_hands", "_law_weather_here", "_law_hand"] (spF ⟨K, w⟩ cl 3 F__law_senders) := by
  have sc := sc__law_senders
  refine ok_def (N := N__law_senders) (k := 0) (np := 3) (nn := 5) (fb := f__law_senders) rfl rfl T.f__law_senders sc fun cdv A outer s H E B hr tk hp => ?_
  exact (qs_cons (qs_set (i := 3) sc.nd rfl (by first | exact Or.inl rfl | exact Or.inr rfl) (qe_lst qa_nil))
      (qs_cons (qs_for hp rfl rfl (qi_range (by rfl) T.b_range (qv 0)) (qg_name (i := 4) sc.nd rfl (by first | exact Or.inl rfl | exact Or.inr rfl)) (qs_one (qs_if ((qw_and (qt_cmp (op_neD (hu64 hr)) opd_ne (qv 4) (qv 2) (nomark _)) (qw_and1 (qt_cmp (op_notInX (hu65 hr)) opd_notInX (qe_tup (qa_cons (qv 4) (qa_cons (qv 2) qa_nil))) (qv 1) (by rfl))))).pt (qs_one (qs_expr (qe_app rfl (pv 3) (qv 4)))) qs_nil)))
      (qs_one (qs_ret (qe_callTy call_tuple_of cd_tuple (by rfl) T.b_tuple (by decide +kernel) (qa_cons (qv 3) qa_nil))))))
theorem ok__law_view (T : Txt K mg cl c a fd) (G__law_senders : FnOk P w K mg base (L2.CX P w) 1 (a 21) (fd 21) ["_law_hands", "_law_weather_here", "_law_hand"] (spF ⟨K, w⟩ cl 3 F__law_senders)) : FnOk P w K mg base (L2.CX P w) 2 (a 22) (fd 22) ["_law_run", "_law_hand"] (spF ⟨K, w⟩ cl 2 F__law_view) := by
  have sc := sc__law_view
  refine ok_def (N := N__law_view) (k := 1) (np := 2) (nn := 13) (fb := f__law_view) rfl rfl T.f__law_view sc fun cdv A outer s H E B hr tk hp => ?_
  exact (qs_cons (qs_setF (i := 2) sc.nd rfl (by first | exact Or.inl rfl | exact Or.inr rfl) (qe_callB call_lenX cd_lenX (by rfl) T.b_len (by decide +kernel) (qa_cons (qe_ix (ix_X (hu65 hr)) opd_ixX (qv 0) qe_int (fun _ _ => rfl)) qa_nil)))
      (qs_cons (qs_compF (i := 3) (own := [("_law_other", 6)]) rfl sc.nd rfl rfl rfl rfl (sw_true rfl rfl rfl (by decide +kernel)) (qi_range (by rfl) T.b_range (qv 2)) (blkOk_by (own := [("_law_other", 6)]) (N := N__law_view) (sc := defScope s__law_view) (by decide +kernel)) (fun _ _ _ _ _ => (qg_name (i := 6) sc.nd rfl (by first | exact Or.inl rfl | exact Or.inr rfl))) (fun _ _ _ _ _ => qts_nil) (fun _ _ _ _ _ => (qe_dic1N (hu65 hr) rfl (qe_tup (qa_cons (qv 6) (qa_cons qe_int qa_nil))) qe_bl)))
      (qs_cons (qs_for hp rfl rfl (qi_enum rfl (by rfl) T.b_enumerate (qe_ix (ix_X (hu65 hr)) opd_ixX (qv 0) qe_int (fun _ _ => rfl))) (qg_tup rfl (qgs_cons (i := 7) sc.nd rfl (by first | exact Or.inl rfl | exact Or.inr rfl) (qgs_cons (i := 8) sc.nd rfl (by first | exact Or.inl rfl | exact Or.inr rfl) qgs_nil))) (qs_cons (qs_set (i := 9) sc.nd rfl (by first | exact Or.inl rfl | exact Or.inr rfl) (qe_lst qa_nil))
      (qs_cons (qs_for hp rfl rfl (qi_range (by rfl) T.b_range (qv 2)) (qg_name (i := 6) sc.nd rfl (by first | exact Or.inl rfl | exact Or.inr rfl)) (qs_cons (qs_set (i := 11) sc.nd rfl (by first | exact Or.inl rfl | exact Or.inr rfl) (qe_callTy (call_dictOf (hu65 hr)) cd_dictOf (by rfl) T.b_dict (by decide +kernel) (qa_cons (qe_ix (ix_X (hu65 hr)) opd_ixX (qv 3) (qv 6) (fun _ _ => rfl)) qa_nil)))
      (qs_cons (qs_for hp rfl rfl (qi_it rfl (qe_call defF_len rfl tk G__law_senders (hr.mono (by decide)) (by rfl) T.g__law_senders T.k__law_senders T.b__law_senders (qa_cons (qv 2) (qa_cons (qv 8) (qa_cons (qv 6) qa_nil))))) (qg_name (i := 12) sc.nd rfl (by first | exact Or.inl rfl | exact Or.inr rfl)) (qs_one (qs_expr (qe_upd (hu65 hr) rfl (pv 11) (qe_ix (ix_X (hu65 hr)) opd_ixX (qv 3) (qv 12) (fun _ _ => rfl))))))
      (qs_cons (qs_setD (hu65 hr) rfl (pv 11) (qe_tup (qa_cons (qv 6) (qa_cons (qe_bin op_addA opd_add (qv 7) qe_int) qa_nil))) qe_bl)
      (qs_one (qs_expr (qe_app rfl (pv 9) (qv 11))))))))
      (qs_one (qs_setF (i := 3) sc.nd rfl (by first | exact Or.inl rfl | exact Or.inr rfl) (qv 9))))))
      (qs_cons (qs_set (i := 4) sc.nd rfl (by first | exact Or.inl rfl | exact Or.inr rfl) (qe_bin op_mulA opd_mulA (qe_lst (qa_cons qe_non qa_nil)) (qv 2)))
      (qs_cons (qs_set (i := 5) sc.nd rfl (by first | exact Or.inl rfl | exact Or.inr rfl) (qe_lst qa_nil))
      (qs_cons (qs_for hp rfl rfl (qi_range (by rfl) T.b_range (qv 2)) (qg_name (i := 6) sc.nd rfl (by first | exact Or.inl rfl | exact Or.inr rfl)) (qs_one (qs_if (qt_cmp (op_inX (hu65 hr)) opd_inX (qe_tup (qa_cons (qv 6) (qa_cons qe_int qa_nil))) (qe_ix (ix_X (hu65 hr)) opd_ixX (qv 3) (qv 1) (fun _ _ => rfl)) (by rfl)) (qs_one (qs_setI (pv 4) (qv 6) (qe_ix (ix_X (hu65 hr)) opd_ixX (qe_ix (ix_X (hu65 hr)) opd_ixX (qv 0) qe_int (fun _ _ => rfl)) (qv 6) (fun _ _ => rfl)))) qs_nil)))
      (qs_cons (qs_for hp rfl rfl (qi_enum rfl (by rfl) T.b_enumerate (qe_ix (ix_X (hu65 hr)) opd_ixX (qv 0) qe_int (fun _ _ => rfl))) (qg_tup rfl (qgs_cons (i := 7) sc.nd rfl (by first | exact Or.inl rfl | exact Or.inr rfl) (qgs_cons (i := 8) sc.nd rfl (by first | exact Or.inl rfl | exact Or.inr rfl) qgs_nil))) (qs_cons (qs_set (i := 10) sc.nd rfl (by first | exact Or.inl rfl | exact Or.inr rfl) (qe_bin op_mulA opd_mulA (qe_lst (qa_cons qe_non qa_nil)) (qv 2)))
      (qs_cons (qs_for hp rfl rfl (qi_range (by rfl) T.b_range (qv 2)) (qg_name (i := 6) sc.nd rfl (by first | exact Or.inl rfl | exact Or.inr rfl)) (qs_one (qs_if (qt_cmp (op_inX (hu65 hr)) opd_inX (qe_tup (qa_cons (qv 6) (qa_cons (qe_bin op_addA opd_add (qv 7) qe_int) qa_nil))) (qe_ix (ix_X (hu65 hr)) opd_ixX (qv 3) (qv 1) (fun _ _ => rfl)) (by rfl)) (qs_one (qs_setI (pv 10) (qv 6) (qe_call defF_len rfl tk G__law_senders (hr.mono (by decide)) (by rfl) T.g__law_senders T.k__law_senders T.b__law_senders (qa_cons (qv 2) (qa_cons (qv 8) (qa_cons (qv 6) qa_nil)))))) qs_nil)))
      (qs_one (qs_expr (qe_app rfl (pv 5) (qe_callTy call_tuple_of cd_tuple (by rfl) T.b_tuple (by decide +kernel) (qa_cons (qv 10) qa_nil))))))))
      (qs_one (qs_ret (qe_tup (qa_cons (qv 1) (qa_cons (qe_callTy call_tuple_of cd_tuple (by rfl) T.b_tuple (by decide +kernel) (qa_cons (qv 4) qa_nil)) (qa_cons (qe_callTy call_tuple_of cd_tuple (by rfl) T.b_tuple (by decide +kernel) (qa_cons (qv 5) qa_nil)) qa_nil)))))))))))))
theorem ok__law_parts (T : Txt K mg cl c a fd) : FnOk P w K mg base (L2.CX P w) 1 (a 23) (fd 23) ["_law_many", "_law_groups"] (spF ⟨K, w⟩ cl 2 F__law_parts) := by
  have sc := sc__law_parts
  refine ok_def (N := N__law_parts) (k := 0) (np := 2) (nn := 10) (fb := f__law_parts) rfl rfl T.f__law_parts sc fun cdv A outer s H E B hr tk hp => ?_
  exact (qs_cons (qs_set (i := 2) sc.nd rfl (by first | exact Or.inl rfl | exact Or.inr rfl) (qe_listRange rfl (by rfl) T.b_list (by rfl) T.b_range (qv 0)))
      (qs_cons (qs_setF (i := 3) sc.nd rfl (by first | exact Or.inl rfl | exact Or.inr rfl) qe_bl)
      (qs_cons (qs_while hp (qt_val (qv 3)) (qs_cons (qs_setF (i := 3) sc.nd rfl (by first | exact Or.inl rfl | exact Or.inr rfl) qe_bl)
      (qs_one (qs_for hp rfl rfl (qi_items rfl (qv 1)) (qg_tup rfl (qgs_cons (i := 6) sc.nd rfl (by first | exact Or.inl rfl | exact Or.inr rfl) (qgs_cons (i := 7) sc.nd rfl (by first | exact Or.inl rfl | exact Or.inr rfl) qgs_nil))) (qs_cons (qs_setF (i := 8) sc.nd rfl (by first | exact Or.inl rfl | exact Or.inr rfl) (qe_callB (cr_min rfl) cd_minL (by rfl) T.b_min (by decide +kernel) (qa_cons (qe_comp (own := [("_law_number", 9)]) rfl sc.nd rfl rfl (qi_it rfl (qv 7)) (blkOk_by (own := [("_law_number", 9)]) (N := N__law_parts) (sc := defScope s__law_parts) (by decide +kernel)) (fun _ _ _ _ _ => (qg_name (i := 9) sc.nd rfl (by first | exact Or.inl rfl | exact Or.inr rfl))) (fun _ _ _ _ _ => qts_nil) (fun _ _ _ _ _ => (qe_ix (ix_X (hu65 hr)) opd_ixX (qv 2) (qv 9) (fun _ _ => rfl)))) qa_nil)))
      (qs_one (qs_for hp rfl rfl (qi_it rfl (qv 7)) (qg_name (i := 9) sc.nd rfl (by first | exact Or.inl rfl | exact Or.inr rfl)) (qs_one (qs_if (qt_cmp op_gt opd_gt (qe_ix (ix_X (hu65 hr)) opd_ixX (qv 2) (qv 9) (fun _ _ => rfl)) (qv 8) (nomark _)) (qs_cons (qs_setI (pv 2) (qv 9) (qv 8))
      (qs_one (qs_setF (i := 3) sc.nd rfl (by first | exact Or.inl rfl | exact Or.inr rfl) qe_bl))) qs_nil)))))))))
      (qs_cons (qs_set (i := 4) sc.nd rfl (by first | exact Or.inl rfl | exact Or.inr rfl) (qe_lst qa_nil))
      (qs_cons (qs_for hp rfl rfl (qi_range (by rfl) T.b_range (qv 0)) (qg_name (i := 5) sc.nd rfl (by first | exact Or.inl rfl | exact Or.inr rfl)) (qs_one (qs_if (qt_cmp (op_eqD (hu64 hr)) opd_eq (qe_ix (ix_X (hu65 hr)) opd_ixX (qv 2) (qv 5) (fun _ _ => rfl)) (qv 5) (nomark _)) (qs_one (qs_expr (qe_app rfl (pv 4) (qe_comp (own := [("_law_number", 9)]) rfl sc.nd rfl rfl (qi_range (by rfl) T.b_range (qv 0)) (blkOk_by (own := [("_law_number", 9)]) (N := N__law_parts) (sc := defScope s__law_parts) (by decide +kernel)) (fun _ _ _ _ _ => (qg_name (i := 9) sc.nd rfl (by first | exact Or.inl rfl | exact Or.inr rfl))) (fun _ _ _ _ _ => (qts_one (qt_cmp (op_eqD (hu64 hr)) opd_eq (qe_ix (ix_X (hu65 hr)) opd_ixX (qv 2) (qv 9) (fun _ _ => rfl)) (qv 5) (nomark _)))) (fun _ _ _ _ _ => (qv 9)))))) qs_nil)))
      (qs_one (qs_ret (qv 4))))))))
theorem ok__law_came_parts (T : Txt K mg cl c a fd) (G__law_view : FnOk P w K mg base (L2.CX P w) 2 (a 22) (fd 22) ["_law_run", "_law_hand"] (spF ⟨K, w⟩ cl 2 F__law_view)) (G__law_parts : FnOk P w K mg base (L2.CX P w) 1 (a 23) (fd 23) ["_law_many", "_law_groups"] (spF ⟨K, w⟩ cl 2 F__law_parts)) : FnOk P w K mg base (L2.CX P w) 3 (a 24) (fd 24) ["_law_hands", "_law_rows_here"] (spF ⟨K, w⟩ cl 2 F__law_came_parts) := by
  have sc := sc__law_came_parts
  refine ok_def (N := N__law_came_parts) (k := 2) (np := 2) (nn := 6) (fb := f__law_came_parts) rfl rfl T.f__law_came_parts sc fun cdv A outer s H E B hr tk hp => ?_
  exact (qs_cons (qs_set (i := 2) sc.nd rfl (by first | exact Or.inl rfl | exact Or.inr rfl) (qe_dic0N rfl))
      (qs_cons (qs_for hp rfl rfl (qi_enum rfl (by rfl) T.b_enumerate (qv 1)) (qg_tup rfl (qgs_cons (i := 3) sc.nd rfl (by first | exact Or.inl rfl | exact Or.inr rfl) (qgs_cons (i := 4) sc.nd rfl (by first | exact Or.inl rfl | exact Or.inr rfl) qgs_nil))) (qs_one (qs_for hp rfl rfl (qi_range (by rfl) T.b_range (qv 0)) (qg_name (i := 5) sc.nd rfl (by first | exact Or.inl rfl | exact Or.inr rfl)) (qs_one (qs_expr (qe_sda (ps := ⟨0, 0, 0, 0⟩) (hu65 hr) rfl rfl (pv 2) (qe_tup (qa_cons (qv 5) (qa_cons (qe_ix (ix_X (hu65 hr)) opd_ixX (qe_call defF_len rfl tk G__law_view (hr.mono (by decide)) (by rfl) T.g__law_view T.k__law_view T.b__law_view (qa_cons (qe_tup (qa_cons (qe_bin op_repT opd_mulT (qe_tup (qa_cons qe_int qa_nil)) (qv 0)) (qa_cons (qv 4) qa_nil))) (qa_cons (qv 5) qa_nil))) qe_int (fun _ _ => rfl)) qa_nil))) (pv 3)))))))
      (qs_one (qs_ret (qe_call defF_len rfl tk G__law_parts (hr.mono (by decide)) (by rfl) T.g__law_parts T.k__law_parts T.b__law_parts (qa_cons (qe_callB call_lenX cd_lenX (by rfl) T.b_len (by decide +kernel) (qa_cons (qv 1) qa_nil)) (qa_cons (qv 2) qa_nil)))))))
theorem ok__law_heard_by_all (T : Txt K mg cl c a fd) (G__law_view : FnOk P w K mg base (L2.CX P w) 2 (a 22) (fd 22) ["_law_run", "_law_hand"] (spF ⟨K, w⟩ cl 2 F__law_view)) : FnOk P w K mg base (L2.CX P w) 3 (a 25) (fd 25) ["_law_hands", "_law_row"] (spF ⟨K, w⟩ cl 2 F__law_heard_by_all) := by
  have sc := sc__law_heard_by_all
  refine ok_def (N := N__law_heard_by_all) (k := 2) (np := 2) (nn := 6) (fb := f__law_heard_by_all) rfl rfl T.f__law_heard_by_all sc fun cdv A outer s H E B hr tk hp => ?_
  exact (qs_cons (qs_set (i := 2) sc.nd rfl (by first | exact Or.inl rfl | exact Or.inr rfl) (qe_listRange rfl (by rfl) T.b_list (by rfl) T.b_range (qv 0)))
      (qs_cons (qs_for hp rfl rfl (qi_range (by rfl) T.b_range (qv 0)) (qg_name (i := 3) sc.nd rfl (by first | exact Or.inl rfl | exact Or.inr rfl)) (qs_cons (qs_setF (i := 4) sc.nd rfl (by first | exact Or.inl rfl | exact Or.inr rfl) (qe_ix (ix_X (hu65 hr)) opd_ixX (qe_call defF_len rfl tk G__law_view (hr.mono (by decide)) (by rfl) T.g__law_view T.k__law_view T.b__law_view (qa_cons (qe_tup (qa_cons (qe_tupRange rfl (by rfl) T.b_tuple (by rfl) T.b_range (qv 0)) (qa_cons (qv 1) qa_nil))) (qa_cons (qv 3) qa_nil))) qe_int (fun _ _ => rfl)))
      (qs_one (qs_comp (i := 2) (own := [("_law_other", 5)]) rfl sc.nd rfl rfl rfl rfl (sw_true rfl rfl rfl (by decide +kernel)) (qi_it rfl (qv 2)) (blkOk_by (own := [("_law_other", 5)]) (N := N__law_heard_by_all) (sc := defScope s__law_heard_by_all) (by decide +kernel)) (fun _ _ _ _ _ => (qg_name (i := 5) sc.nd rfl (by first | exact Or.inl rfl | exact Or.inr rfl))) (fun _ _ _ _ _ => (qts_one (qt_cmp op_notN opd_notN (qe_ix (ix_X (hu65 hr)) opd_ixX (qv 4) (qv 5) (fun _ _ => rfl)) qe_non (nomark _)))) (fun _ _ _ _ _ => (qv 5))))))
      (qs_one (qs_ret (qv 2)))))
theorem ok_law (T : Txt K mg cl c a fd) (G__law_road_case : FnOk P w K mg base (L2.CX P w) 4 (a 19) (fd 19) ["_law_script"] (spF ⟨K, w⟩ cl 1 F__law_road_case)) (G__law_rows : FnOk P w K mg base (L2.CX P w) 1 (a 20) (fd 20) ["_law_road_here", "_law_rounds"] (spF ⟨K, w⟩ cl 2 F__law_rows)) (G__law_came_parts : FnOk P w K mg base (L2.CX P w) 3 (a 24) (fd 24) ["_law_hands", "_law_rows_here"] (spF ⟨K, w⟩ cl 2 F__law_came_parts)) (G__law_heard_by_all : FnOk P w K mg base (L2.CX P w) 3 (a 25) (fd 25) ["_law_hands", "_law_row"] (spF ⟨K, w⟩ cl 2 F__law_heard_by_all)) (G_callers : FnOk P w K mg base (L2.CX P w) 6 (a 12) (fd 12) ["hands", "road", "rounds"] (spF ⟨K, w⟩ cl 3 F_callers)) (G__law_whole : FnOk P w K mg base (L2.CX P w) 1 (a 15) (fd 15) ["_law_found"] (spF ⟨K, w⟩ cl 1 F__law_whole)) : FnOk P w K mg base (L2.CX P w) 7 (a 26) (fd 26) ["_law_script"] (spF ⟨K, w⟩ cl 1 F_law) := by
  have sc := sc_law
  refine ok_def (N := N_law) (k := 6) (np := 1) (nn := 13) (fb := f_law) rfl rfl T.f_law sc fun cdv A outer s H E B hr tk hp => ?_
  exact (qs_cons (qs_asgT rfl (qe_call defF_len rfl tk G__law_road_case (hr.mono (by decide)) (by rfl) T.g__law_road_case T.k__law_road_case T.b__law_road_case (qa_cons (qv 0) qa_nil)) (qg_tup rfl (qgs_cons (i := 6) sc.nd rfl (by first | exact Or.inl rfl | exact Or.inr rfl) (qgs_cons (i := 7) sc.nd rfl (by first | exact Or.inl rfl | exact Or.inr rfl) (qgs_cons (i := 8) sc.nd rfl (by first | exact Or.inl rfl | exact Or.inr rfl) qgs_nil)))))
      (qs_cons (qs_setF (i := 1) sc.nd rfl (by first | exact Or.inl rfl | exact Or.inr rfl) (qe_call defF_len rfl tk G__law_rows (hr.mono (by decide)) (by rfl) T.g__law_rows T.k__law_rows T.b__law_rows (qa_cons (qv 7) (qa_cons (qv 8) qa_nil))))
      (qs_cons (qs_set (i := 2) sc.nd rfl (by first | exact Or.inl rfl | exact Or.inr rfl) (qe_lst qa_nil))
      (qs_cons (qs_for hp rfl rfl (qi_it rfl (qe_call defF_len rfl tk G__law_came_parts (hr.mono (by decide)) (by rfl) T.g__law_came_parts T.k__law_came_parts T.b__law_came_parts (qa_cons (qv 6) (qa_cons (qv 1) qa_nil)))) (qg_name (i := 3) sc.nd rfl (by first | exact Or.inl rfl | exact Or.inr rfl)) (qs_cons (qs_setF (i := 9) sc.nd rfl (by first | exact Or.inl rfl | exact Or.inr rfl) (qe_listRange rfl (by rfl) T.b_list (by rfl) T.b_range (qv 6)))
      (qs_cons (qs_for hp rfl rfl (qi_it rfl (qv 3)) (qg_name (i := 10) sc.nd rfl (by first | exact Or.inl rfl | exact Or.inr rfl)) (qs_cons (qs_setF (i := 12) sc.nd rfl (by first | exact Or.inl rfl | exact Or.inr rfl) (qe_call defF_len rfl tk G__law_heard_by_all (hr.mono (by decide)) (by rfl) T.g__law_heard_by_all T.k__law_heard_by_all T.b__law_heard_by_all (qa_cons (qv 6) (qa_cons (qe_ix (ix_X (hu65 hr)) opd_ixX (qv 1) (qv 10) (fun _ _ => rfl)) qa_nil))))
      (qs_one (qs_compF (i := 9) (own := [("_law_hand", 11)]) rfl sc.nd rfl rfl rfl rfl (sw_true rfl rfl rfl (by decide +kernel)) (qi_it rfl (qv 9)) (blkOk_by (own := [("_law_hand", 11)]) (N := N_law) (sc := defScope s_law) (by decide +kernel)) (fun _ _ _ _ _ => (qg_name (i := 11) sc.nd rfl (by first | exact Or.inl rfl | exact Or.inr rfl))) (fun _ _ _ _ _ => (qts_one (qt_cmp (op_inX (hu65 hr)) opd_inX (qv 11) (qv 12) (by rfl)))) (fun _ _ _ _ _ => (qv 11))))))
      (qs_one (qs_expr (qe_app rfl (pv 2) (qv 9)))))))
      (qs_cons (qs_setF (i := 4) sc.nd rfl (by first | exact Or.inl rfl | exact Or.inr rfl) (qe_callTy call_list_of cd_list (by rfl) T.b_list (by decide +kernel) (qa_cons (qv 7) qa_nil)))
      (qs_cons (qs_set (i := 5) sc.nd rfl (by first | exact Or.inl rfl | exact Or.inr rfl) (qe_call defF_len rfl tk G_callers (hr.mono (by decide)) (by rfl) T.g_callers T.k_callers T.b_callers (qa_cons (qv 6) (qa_cons (qv 4) (qa_cons (qv 8) qa_nil)))))
      (qs_cons (qs_if ((qw_or (qt_not (qt_val (qe_callB call_isi cd_isi (by rfl) T.b_isinstance (by decide +kernel) (qa_cons (qv 5) (qa_cons (qe_ty (pe_bltn (v := .ty "list") (by rfl) T.b_list (by decide +kernel) rfl)) qa_nil))))) (qw_or (qt_cmp (op_neD (hu64 hr)) opd_ne (qv 5) (qv 2) (nomark _)) (qw_or1 (qt_cmp (op_neD (hu64 hr)) opd_ne (qv 4) (qv 7) (nomark _)))))).pt (qs_one (qs_ret qe_bl)) qs_nil)
      (qs_cons (qs_look hp rfl rfl (by decide) (by decide) (by decide) (pv 5) (pv 3) (pg_name (i := 3) sc.nd rfl (by first | exact Or.inl rfl | exact Or.inr rfl)) (pg_name (i := 11) sc.nd rfl (by first | exact Or.inl rfl | exact Or.inr rfl)) (fun _ => (qt_not (qt_val (qe_callB call_isi cd_isi (by rfl) T.b_isinstance (by decide +kernel) (qa_cons (qv 3) (qa_cons (qe_ty (pe_bltn (v := .ty "list") (by rfl) T.b_list (by decide +kernel) rfl)) qa_nil)))))) (fun _ => (qt_not (qt_val (qe_call defF_len rfl tk G__law_whole (hr.mono (by decide)) (by rfl) T.g__law_whole T.k__law_whole T.b__law_whole (qa_cons (qv 11) qa_nil))))))
      (qs_cons (qs_expr (qe_nappI rfl (pv 5) qe_int pe_int (fun _ _ => rfl)))
      (qs_cons (qs_expr (qe_app rfl (pv 5) (qe_lst qa_nil)))
      (qs_one (qs_ret (qe_cmp (op_eqD (hu64 hr)) opd_eq (qe_call defF_len rfl tk G_callers (hr.mono (by decide)) (by rfl) T.g_callers T.k_callers T.b_callers (qa_cons (qv 6) (qa_cons (qv 4) (qa_cons (qv 8) qa_nil)))) (qv 2) (nomark _))))))))))))))
end
/-! ### the end -/
theorem all_mk {l : PySem.W.OpenLaw} {w : World} {K : PySem.W.Frag} {h : Heap} {mg : Str → Option Value} {fa : Addr} (X : K.In h) (G : h.Ns mainGlobals mg) (hfa : mg "law" = some (.ref fa))
    {p0 p1 p2 p3 p4 p5 p6 p7 p8 p9 p10 p11 p12 p13 p14 p15 p16 p17 p18 p19 p20 p21 p22 p23 p24 p25 p26 : Addr} {od0 an0 od1 an1 od2 an2 od3 an3 od4 an4 od5 an5 od6 an6 od7 an7 od8 an8 od9 an9 od10 an10 od11 an11 od12 an12 od13 an13 od14 an14 od15 an15 od16 an16 od17 an17 od18 an18 od19 an19 od20 an20 od21 an21 od22 an22 od23 an23 od24 an24 od25 an25 od26 an26 : Option Addr} {sl0 sl1 sl2 sl3 sl4 sl5 sl6 sl7 sl8 sl9 sl10 sl11 sl12 sl13 sl14 sl15 sl16 sl17 sl18 sl19 sl20 sl21 sl22 sl23 sl24 sl25 sl26 : Array (Option Value)} {oc0 kV0 dc0 pm0 cd0 ct0 oc1 kV1 dc1 pm1 cd1 ct1 oc2 kV2 dc2 pm2 cd2 ct2 oc3 kV3 dc3 pm3 cd3 ct3 oc4 kV4 dc4 pm4 cd4 ct4 oc5 kV5 dc5 pm5 cd5 ct5 oc6 kV6 dc6 pm6 cd6 ct6 oc7 kV7 dc7 pm7 cd7 ct7 oc8 kV8 dc8 pm8 cd8 ct8 oc9 kV9 dc9 pm9 cd9 ct9 oc10 kV10 dc10 pm10 cd10 ct10 oc11 kV11 dc11 pm11 cd11 ct11 oc12 kV12 dc12 pm12 cd12 ct12 oc13 kV13 dc13 pm13 cd13 ct13 oc14 kV14 dc14 pm14 cd14 ct14 oc15 kV15 dc15 pm15 cd15 ct15 oc16 kV16 dc16 pm16 cd16 ct16 oc17 kV17 dc17 pm17 cd17 ct17 oc18 kV18 dc18 pm18 cd18 ct18 oc19 kV19 dc19 pm19 cd19 ct19 oc20 kV20 dc20 pm20 cd20 ct20 oc21 kV21 dc21 pm21 cd21 ct21 oc22 kV22 dc22 pm22 cd22 ct22 oc23 kV23 dc23 pm23 cd23 ct23 oc24 kV24 dc24 pm24 cd24 ct24 oc25 kV25 dc25 pm25 cd25 ct25 oc26 kV26 dc26 pm26 cd26 ct26 : Value}
    (a0 : PySem.W.nsIn K mainGlobals "many_rows" = some (some (.ref p0))) (l0 : K.lookup p0 = some ⟨oc0, od0, .func (PySem.W.fnOf "many_rows" "many_rows" (defArgs s_many_rows) (defBody s_many_rows) (defScope s_many_rows) .none kV0 dc0 pm0 an0 cd0 ct0), sl0⟩) (c0 : PySem.W.codeIn K cd0 "many_rows" = true) (k0 : PySem.W.keepIn K (.ref p0) = true)
    (a1 : PySem.W.nsIn K mainGlobals "many_runs" = some (some (.ref p1))) (l1 : K.lookup p1 = some ⟨oc1, od1, .func (PySem.W.fnOf "many_runs" "many_runs" (defArgs s_many_runs) (defBody s_many_runs) (defScope s_many_runs) .none kV1 dc1 pm1 an1 cd1 ct1), sl1⟩) (c1 : PySem.W.codeIn K cd1 "many_runs" = true) (k1 : PySem.W.keepIn K (.ref p1) = true)
    (a2 : PySem.W.nsIn K mainGlobals "row_at" = some (some (.ref p2))) (l2 : K.lookup p2 = some ⟨oc2, od2, .func (PySem.W.fnOf "row_at" "row_at" (defArgs s_row_at) (defBody s_row_at) (defScope s_row_at) .none kV2 dc2 pm2 an2 cd2 ct2), sl2⟩) (c2 : PySem.W.codeIn K cd2 "row_at" = true) (k2 : PySem.W.keepIn K (.ref p2) = true)
    (a3 : PySem.W.nsIn K mainGlobals "run_at" = some (some (.ref p3))) (l3 : K.lookup p3 = some ⟨oc3, od3, .func (PySem.W.fnOf "run_at" "run_at" (defArgs s_run_at) (defBody s_run_at) (defScope s_run_at) .none kV3 dc3 pm3 an3 cd3 ct3), sl3⟩) (c3 : PySem.W.codeIn K cd3 "run_at" = true) (k3 : PySem.W.keepIn K (.ref p3) = true)
    (a4 : PySem.W.nsIn K mainGlobals "all_runs" = some (some (.ref p4))) (l4 : K.lookup p4 = some ⟨oc4, od4, .func (PySem.W.fnOf "all_runs" "all_runs" (defArgs s_all_runs) (defBody s_all_runs) (defScope s_all_runs) .none kV4 dc4 pm4 an4 cd4 ct4), sl4⟩) (c4 : PySem.W.codeIn K cd4 "all_runs" = true) (k4 : PySem.W.keepIn K (.ref p4) = true)
    (a5 : PySem.W.nsIn K mainGlobals "came_to" = some (some (.ref p5))) (l5 : K.lookup p5 = some ⟨oc5, od5, .func (PySem.W.fnOf "came_to" "came_to" (defArgs s_came_to) (defBody s_came_to) (defScope s_came_to) .none kV5 dc5 pm5 an5 cd5 ct5), sl5⟩) (c5 : PySem.W.codeIn K cd5 "came_to" = true) (k5 : PySem.W.keepIn K (.ref p5) = true)
    (a6 : PySem.W.nsIn K mainGlobals "heard_spots" = some (some (.ref p6))) (l6 : K.lookup p6 = some ⟨oc6, od6, .func (PySem.W.fnOf "heard_spots" "heard_spots" (defArgs s_heard_spots) (defBody s_heard_spots) (defScope s_heard_spots) .none kV6 dc6 pm6 an6 cd6 ct6), sl6⟩) (c6 : PySem.W.codeIn K cd6 "heard_spots" = true) (k6 : PySem.W.keepIn K (.ref p6) = true)
    (a7 : PySem.W.nsIn K mainGlobals "view" = some (some (.ref p7))) (l7 : K.lookup p7 = some ⟨oc7, od7, .func (PySem.W.fnOf "view" "view" (defArgs s_view) (defBody s_view) (defScope s_view) .none kV7 dc7 pm7 an7 cd7 ct7), sl7⟩) (c7 : PySem.W.codeIn K cd7 "view" = true) (k7 : PySem.W.keepIn K (.ref p7) = true)
    (a8 : PySem.W.nsIn K mainGlobals "parts_of" = some (some (.ref p8))) (l8 : K.lookup p8 = some ⟨oc8, od8, .func (PySem.W.fnOf "parts_of" "parts_of" (defArgs s_parts_of) (defBody s_parts_of) (defScope s_parts_of) .none kV8 dc8 pm8 an8 cd8 ct8), sl8⟩) (c8 : PySem.W.codeIn K cd8 "parts_of" = true) (k8 : PySem.W.keepIn K (.ref p8) = true)
    (a9 : PySem.W.nsIn K mainGlobals "rows_of" = some (some (.ref p9))) (l9 : K.lookup p9 = some ⟨oc9, od9, .func (PySem.W.fnOf "rows_of" "rows_of" (defArgs s_rows_of) (defBody s_rows_of) (defScope s_rows_of) .none kV9 dc9 pm9 an9 cd9 ct9), sl9⟩) (c9 : PySem.W.codeIn K cd9 "rows_of" = true) (k9 : PySem.W.keepIn K (.ref p9) = true)
    (a10 : PySem.W.nsIn K mainGlobals "weather_parts" = some (some (.ref p10))) (l10 : K.lookup p10 = some ⟨oc10, od10, .func (PySem.W.fnOf "weather_parts" "weather_parts" (defArgs s_weather_parts) (defBody s_weather_parts) (defScope s_weather_parts) .none kV10 dc10 pm10 an10 cd10 ct10), sl10⟩) (c10 : PySem.W.codeIn K cd10 "weather_parts" = true) (k10 : PySem.W.keepIn K (.ref p10) = true)
    (a11 : PySem.W.nsIn K mainGlobals "heard_by_all" = some (some (.ref p11))) (l11 : K.lookup p11 = some ⟨oc11, od11, .func (PySem.W.fnOf "heard_by_all" "heard_by_all" (defArgs s_heard_by_all) (defBody s_heard_by_all) (defScope s_heard_by_all) .none kV11 dc11 pm11 an11 cd11 ct11), sl11⟩) (c11 : PySem.W.codeIn K cd11 "heard_by_all" = true) (k11 : PySem.W.keepIn K (.ref p11) = true)
    (a12 : PySem.W.nsIn K mainGlobals "callers" = some (some (.ref p12))) (l12 : K.lookup p12 = some ⟨oc12, od12, .func (PySem.W.fnOf "callers" "callers" (defArgs s_callers) (defBody s_callers) (defScope s_callers) .none kV12 dc12 pm12 an12 cd12 ct12), sl12⟩) (c12 : PySem.W.codeIn K cd12 "callers" = true) (k12 : PySem.W.keepIn K (.ref p12) = true)
    (a13 : PySem.W.nsIn K mainGlobals "_law_cell_at" = some (some (.ref p13))) (l13 : K.lookup p13 = some ⟨oc13, od13, .func (PySem.W.fnOf "_law_cell_at" "_law_cell_at" (defArgs s__law_cell_at) (defBody s__law_cell_at) (defScope s__law_cell_at) .none kV13 dc13 pm13 an13 cd13 ct13), sl13⟩) (c13 : PySem.W.codeIn K cd13 "_law_cell_at" = true) (k13 : PySem.W.keepIn K (.ref p13) = true)
    (a14 : PySem.W.nsIn K mainGlobals "_law_mix" = some (some (.ref p14))) (l14 : K.lookup p14 = some ⟨oc14, od14, .func (PySem.W.fnOf "_law_mix" "_law_mix" (defArgs s__law_mix) (defBody s__law_mix) (defScope s__law_mix) .none kV14 dc14 pm14 an14 cd14 ct14), sl14⟩) (c14 : PySem.W.codeIn K cd14 "_law_mix" = true) (k14 : PySem.W.keepIn K (.ref p14) = true)
    (a15 : PySem.W.nsIn K mainGlobals "_law_whole" = some (some (.ref p15))) (l15 : K.lookup p15 = some ⟨oc15, od15, .func (PySem.W.fnOf "_law_whole" "_law_whole" (defArgs s__law_whole) (defBody s__law_whole) (defScope s__law_whole) .none kV15 dc15 pm15 an15 cd15 ct15), sl15⟩) (c15 : PySem.W.codeIn K cd15 "_law_whole" = true) (k15 : PySem.W.keepIn K (.ref p15) = true)
    (a16 : PySem.W.nsIn K mainGlobals "_law_pairs" = some (some (.ref p16))) (l16 : K.lookup p16 = some ⟨oc16, od16, .func (PySem.W.fnOf "_law_pairs" "_law_pairs" (defArgs s__law_pairs) (defBody s__law_pairs) (defScope s__law_pairs) .none kV16 dc16 pm16 an16 cd16 ct16), sl16⟩) (c16 : PySem.W.codeIn K cd16 "_law_pairs" = true) (k16 : PySem.W.keepIn K (.ref p16) = true)
    (a17 : PySem.W.nsIn K mainGlobals "_law_weather" = some (some (.ref p17))) (l17 : K.lookup p17 = some ⟨oc17, od17, .func (PySem.W.fnOf "_law_weather" "_law_weather" (defArgs s__law_weather) (defBody s__law_weather) (defScope s__law_weather) .none kV17 dc17 pm17 an17 cd17 ct17), sl17⟩) (c17 : PySem.W.codeIn K cd17 "_law_weather" = true) (k17 : PySem.W.keepIn K (.ref p17) = true)
    (a18 : PySem.W.nsIn K mainGlobals "_law_road" = some (some (.ref p18))) (l18 : K.lookup p18 = some ⟨oc18, od18, .func (PySem.W.fnOf "_law_road" "_law_road" (defArgs s__law_road) (defBody s__law_road) (defScope s__law_road) .none kV18 dc18 pm18 an18 cd18 ct18), sl18⟩) (c18 : PySem.W.codeIn K cd18 "_law_road" = true) (k18 : PySem.W.keepIn K (.ref p18) = true)
    (a19 : PySem.W.nsIn K mainGlobals "_law_road_case" = some (some (.ref p19))) (l19 : K.lookup p19 = some ⟨oc19, od19, .func (PySem.W.fnOf "_law_road_case" "_law_road_case" (defArgs s__law_road_case) (defBody s__law_road_case) (defScope s__law_road_case) .none kV19 dc19 pm19 an19 cd19 ct19), sl19⟩) (c19 : PySem.W.codeIn K cd19 "_law_road_case" = true) (k19 : PySem.W.keepIn K (.ref p19) = true)
    (a20 : PySem.W.nsIn K mainGlobals "_law_rows" = some (some (.ref p20))) (l20 : K.lookup p20 = some ⟨oc20, od20, .func (PySem.W.fnOf "_law_rows" "_law_rows" (defArgs s__law_rows) (defBody s__law_rows) (defScope s__law_rows) .none kV20 dc20 pm20 an20 cd20 ct20), sl20⟩) (c20 : PySem.W.codeIn K cd20 "_law_rows" = true) (k20 : PySem.W.keepIn K (.ref p20) = true)
    (a21 : PySem.W.nsIn K mainGlobals "_law_senders" = some (some (.ref p21))) (l21 : K.lookup p21 = some ⟨oc21, od21, .func (PySem.W.fnOf "_law_senders" "_law_senders" (defArgs s__law_senders) (defBody s__law_senders) (defScope s__law_senders) .none kV21 dc21 pm21 an21 cd21 ct21), sl21⟩) (c21 : PySem.W.codeIn K cd21 "_law_senders" = true) (k21 : PySem.W.keepIn K (.ref p21) = true)
    (a22 : PySem.W.nsIn K mainGlobals "_law_view" = some (some (.ref p22))) (l22 : K.lookup p22 = some ⟨oc22, od22, .func (PySem.W.fnOf "_law_view" "_law_view" (defArgs s__law_view) (defBody s__law_view) (defScope s__law_view) .none kV22 dc22 pm22 an22 cd22 ct22), sl22⟩) (c22 : PySem.W.codeIn K cd22 "_law_view" = true) (k22 : PySem.W.keepIn K (.ref p22) = true)
    (a23 : PySem.W.nsIn K mainGlobals "_law_parts" = some (some (.ref p23))) (l23 : K.lookup p23 = some ⟨oc23, od23, .func (PySem.W.fnOf "_law_parts" "_law_parts" (defArgs s__law_parts) (defBody s__law_parts) (defScope s__law_parts) .none kV23 dc23 pm23 an23 cd23 ct23), sl23⟩) (c23 : PySem.W.codeIn K cd23 "_law_parts" = true) (k23 : PySem.W.keepIn K (.ref p23) = true)
    (a24 : PySem.W.nsIn K mainGlobals "_law_came_parts" = some (some (.ref p24))) (l24 : K.lookup p24 = some ⟨oc24, od24, .func (PySem.W.fnOf "_law_came_parts" "_law_came_parts" (defArgs s__law_came_parts) (defBody s__law_came_parts) (defScope s__law_came_parts) .none kV24 dc24 pm24 an24 cd24 ct24), sl24⟩) (c24 : PySem.W.codeIn K cd24 "_law_came_parts" = true) (k24 : PySem.W.keepIn K (.ref p24) = true)
    (a25 : PySem.W.nsIn K mainGlobals "_law_heard_by_all" = some (some (.ref p25))) (l25 : K.lookup p25 = some ⟨oc25, od25, .func (PySem.W.fnOf "_law_heard_by_all" "_law_heard_by_all" (defArgs s__law_heard_by_all) (defBody s__law_heard_by_all) (defScope s__law_heard_by_all) .none kV25 dc25 pm25 an25 cd25 ct25), sl25⟩) (c25 : PySem.W.codeIn K cd25 "_law_heard_by_all" = true) (k25 : PySem.W.keepIn K (.ref p25) = true)
    (a26 : PySem.W.nsIn K mainGlobals "law" = some (some (.ref p26))) (l26 : K.lookup p26 = some ⟨oc26, od26, .func (PySem.W.fnOf "law" "law" (defArgs s_law) (defBody s_law) (defScope s_law) .none kV26 dc26 pm26 an26 cd26 ct26), sl26⟩) (c26 : PySem.W.codeIn K cd26 "law" = true) (k26 : PySem.W.keepIn K (.ref p26) = true)
    {pc0 : Addr}
    (xa0 : PySem.W.nsIn K mainGlobals "TooMany" = some (some (.ref pc0))) (xq0 : PySem.W.excIn K pc0 [.type "ValueError", .type "Exception", .type "BaseException", .type "object"] "ValueError.__new__" = true) (xk0 : PySem.W.keepIn K (.ref pc0) = true) (xb0 : PySem.W.subIn K (.ref pc0) (.type "BaseException") = some true) (xt0 : PySem.W.typeIn K (.ref pc0) = some (.type "type"))
    {tv_MOST : Tok}
    (v_MOST : PySem.W.nsIn K mainGlobals "MOST" = some (some (.int 3000 tv_MOST)))
    (z_bool : PySem.W.nsIn K mainGlobals "bool" = some none)
    (z_dict : PySem.W.nsIn K mainGlobals "dict" = some none)
    (z_enumerate : PySem.W.nsIn K mainGlobals "enumerate" = some none)
    (z_int : PySem.W.nsIn K mainGlobals "int" = some none)
    (z_isinstance : PySem.W.nsIn K mainGlobals "isinstance" = some none)
    (z_len : PySem.W.nsIn K mainGlobals "len" = some none)
    (z_list : PySem.W.nsIn K mainGlobals "list" = some none)
    (z_min : PySem.W.nsIn K mainGlobals "min" = some none)
    (z_range : PySem.W.nsIn K mainGlobals "range" = some none)
    (z_sorted : PySem.W.nsIn K mainGlobals "sorted" = some none)
    (z_tuple : PySem.W.nsIn K mainGlobals "tuple" = some none)
    (z_zip : PySem.W.nsIn K mainGlobals "zip" = some none) :
    ∃ fd : FuncData, (∀ (s : Shared) (v : Value), BindsTo s fd ⟨[v], []⟩ [("_law_script", v)]) ∧ ∀ base : Heap, K.In base → base.Ns mainGlobals mg → FnOk l.prog w K mg base (L2.CX l.prog w) 7 fa fd ["_law_script"] (spAny ⟨K, w⟩ 1 F_law) := by
  have e := hfa.symm.trans (PySem.W.mg_of X G a26)
  have e2 : p26 = fa := by injection e with e3; injection e3 with e4; exact e4.symm
  subst e2
  have F0 := fun_mk (st := s_many_rows) l0 c0 k0
  have F1 := fun_mk (st := s_many_runs) l1 c1 k1
  have F2 := fun_mk (st := s_row_at) l2 c2 k2
  have F3 := fun_mk (st := s_run_at) l3 c3 k3
  have F4 := fun_mk (st := s_all_runs) l4 c4 k4
  have F5 := fun_mk (st := s_came_to) l5 c5 k5
  have F6 := fun_mk (st := s_heard_spots) l6 c6 k6
  have F7 := fun_mk (st := s_view) l7 c7 k7
  have F8 := fun_mk (st := s_parts_of) l8 c8 k8
  have F9 := fun_mk (st := s_rows_of) l9 c9 k9
  have F10 := fun_mk (st := s_weather_parts) l10 c10 k10
  have F11 := fun_mk (st := s_heard_by_all) l11 c11 k11
  have F12 := fun_mk (st := s_callers) l12 c12 k12
  have F13 := fun_mk (st := s__law_cell_at) l13 c13 k13
  have F14 := fun_mk (st := s__law_mix) l14 c14 k14
  have F15 := fun_mk (st := s__law_whole) l15 c15 k15
  have F16 := fun_mk (st := s__law_pairs) l16 c16 k16
  have F17 := fun_mk (st := s__law_weather) l17 c17 k17
  have F18 := fun_mk (st := s__law_road) l18 c18 k18
  have F19 := fun_mk (st := s__law_road_case) l19 c19 k19
  have F20 := fun_mk (st := s__law_rows) l20 c20 k20
  have F21 := fun_mk (st := s__law_senders) l21 c21 k21
  have F22 := fun_mk (st := s__law_view) l22 c22 k22
  have F23 := fun_mk (st := s__law_parts) l23 c23 k23
  have F24 := fun_mk (st := s__law_came_parts) l24 c24 k24
  have F25 := fun_mk (st := s__law_heard_by_all) l25 c25 k25
  have F26 := fun_mk (st := s_law) l26 c26 k26
  have T : Txt K mg (fun s => if s = "TooMany" then .ref pc0 else .none) (fun i => [pc0].getD i 0) (fun i => [p0, p1, p2, p3, p4, p5, p6, p7, p8, p9, p10, p11, p12, p13, p14, p15, p16, p17, p18, p19, p20, p21, p22, p23, p24, p25, p26].getD i 0) (fun i => [PySem.W.fnOf "many_rows" "many_rows" (defArgs s_many_rows) (defBody s_many_rows) (defScope s_many_rows) .none kV0 dc0 pm0 an0 cd0 ct0, PySem.W.fnOf "many_runs" "many_runs" (defArgs s_many_runs) (defBody s_many_runs) (defScope s_many_runs) .none kV1 dc1 pm1 an1 cd1 ct1, PySem.W.fnOf "row_at" "row_at" (defArgs s_row_at) (defBody s_row_at) (defScope s_row_at) .none kV2 dc2 pm2 an2 cd2 ct2, PySem.W.fnOf "run_at" "run_at" (defArgs s_run_at) (defBody s_run_at) (defScope s_run_at) .none kV3 dc3 pm3 an3 cd3 ct3, PySem.W.fnOf "all_runs" "all_runs" (defArgs s_all_runs) (defBody s_all_runs) (defScope s_all_runs) .none kV4 dc4 pm4 an4 cd4 ct4, PySem.W.fnOf "came_to" "came_to" (defArgs s_came_to) (defBody s_came_to) (defScope s_came_to) .none kV5 dc5 pm5 an5 cd5 ct5, PySem.W.fnOf "heard_spots" "heard_spots" (defArgs s_heard_spots) (defBody s_heard_spots) (defScope s_heard_spots) .none kV6 dc6 pm6 an6 cd6 ct6, PySem.W.fnOf "view" "view" (defArgs s_view) (defBody s_view) (defScope s_view) .none kV7 dc7 pm7 an7 cd7 ct7, PySem.W.fnOf "parts_of" "parts_of" (defArgs s_parts_of) (defBody s_parts_of) (defScope s_parts_of) .none kV8 dc8 pm8 an8 cd8 ct8, PySem.W.fnOf "rows_of" "rows_of" (defArgs s_rows_of) (defBody s_rows_of) (defScope s_rows_of) .none kV9 dc9 pm9 an9 cd9 ct9, PySem.W.fnOf "weather_parts" "weather_parts" (defArgs s_weather_parts) (defBody s_weather_parts) (defScope s_weather_parts) .none kV10 dc10 pm10 an10 cd10 ct10, PySem.W.fnOf "heard_by_all" "heard_by_all" (defArgs s_heard_by_all) (defBody s_heard_by_all) (defScope s_heard_by_all) .none kV11 dc11 pm11 an11 cd11 ct11, PySem.W.fnOf "callers" "callers" (defArgs s_callers) (defBody s_callers) (defScope s_callers) .none kV12 dc12 pm12 an12 cd12 ct12, PySem.W.fnOf "_law_cell_at" "_law_cell_at" (defArgs s__law_cell_at) (defBody s__law_cell_at) (defScope s__law_cell_at) .none kV13 dc13 pm13 an13 cd13 ct13, PySem.W.fnOf "_law_mix" "_law_mix" (defArgs s__law_mix) (defBody s__law_mix) (defScope s__law_mix) .none kV14 dc14 pm14 an14 cd14 ct14, PySem.W.fnOf "_law_whole" "_law_whole" (defArgs s__law_whole) (defBody s__law_whole) (defScope s__law_whole) .none kV15 dc15 pm15 an15 cd15 ct15, PySem.W.fnOf "_law_pairs" "_law_pairs" (defArgs s__law_pairs) (defBody s__law_pairs) (defScope s__law_pairs) .none kV16 dc16 pm16 an16 cd16 ct16, PySem.W.fnOf "_law_weather" "_law_weather" (defArgs s__law_weather) (defBody s__law_weather) (defScope s__law_weather) .none kV17 dc17 pm17 an17 cd17 ct17, PySem.W.fnOf "_law_road" "_law_road" (defArgs s__law_road) (defBody s__law_road) (defScope s__law_road) .none kV18 dc18 pm18 an18 cd18 ct18, PySem.W.fnOf "_law_road_case" "_law_road_case" (defArgs s__law_road_case) (defBody s__law_road_case) (defScope s__law_road_case) .none kV19 dc19 pm19 an19 cd19 ct19, PySem.W.fnOf "_law_rows" "_law_rows" (defArgs s__law_rows) (defBody s__law_rows) (defScope s__law_rows) .none kV20 dc20 pm20 an20 cd20 ct20, PySem.W.fnOf "_law_senders" "_law_senders" (defArgs s__law_senders) (defBody s__law_senders) (defScope s__law_senders) .none kV21 dc21 pm21 an21 cd21 ct21, PySem.W.fnOf "_law_view" "_law_view" (defArgs s__law_view) (defBody s__law_view) (defScope s__law_view) .none kV22 dc22 pm22 an22 cd22 ct22, PySem.W.fnOf "_law_parts" "_law_parts" (defArgs s__law_parts) (defBody s__law_parts) (defScope s__law_parts) .none kV23 dc23 pm23 an23 cd23 ct23, PySem.W.fnOf "_law_came_parts" "_law_came_parts" (defArgs s__law_came_parts) (defBody s__law_came_parts) (defScope s__law_came_parts) .none kV24 dc24 pm24 an24 cd24 ct24, PySem.W.fnOf "_law_heard_by_all" "_law_heard_by_all" (defArgs s__law_heard_by_all) (defBody s__law_heard_by_all) (defScope s__law_heard_by_all) .none kV25 dc25 pm25 an25 cd25 ct25, PySem.W.fnOf "law" "law" (defArgs s_law) (defBody s_law) (defScope s_law) .none kV26 dc26 pm26 an26 cd26 ct26].getD i (PySem.W.fnOf "law" "law" (defArgs s_law) (defBody s_law) (defScope s_law) .none kV0 dc0 pm0 an0 cd0 ct0)) :=
    ⟨PySem.W.mg_of X G xa0, xq0, xk0, xb0, xt0, by simp, F0, PySem.W.mg_of X G a0, k0, F0.binds (fun _ _ _ _ _ _ us hl => match us, hl with | [_, _], _ => rfl), F1, PySem.W.mg_of X G a1, k1, F1.binds (fun _ _ _ _ _ _ us hl => match us, hl with | [_, _, _], _ => rfl), F2, PySem.W.mg_of X G a2, k2, F2.binds (fun _ _ _ _ _ _ us hl => match us, hl with | [_, _, _], _ => rfl), F3, PySem.W.mg_of X G a3, k3, F3.binds (fun _ _ _ _ _ _ us hl => match us, hl with | [_, _, _, _], _ => rfl), F4, PySem.W.mg_of X G a4, k4, F4.binds (fun _ _ _ _ _ _ us hl => match us, hl with | [_, _, _], _ => rfl), F5, PySem.W.mg_of X G a5, k5, F5.binds (fun _ _ _ _ _ _ us hl => match us, hl with | [_, _, _], _ => rfl), F6, PySem.W.mg_of X G a6, k6, F6.binds (fun _ _ _ _ _ _ us hl => match us, hl with | [_, _], _ => rfl), F7, PySem.W.mg_of X G a7, k7, F7.binds (fun _ _ _ _ _ _ us hl => match us, hl with | [_, _], _ => rfl), F8, PySem.W.mg_of X G a8, k8, F8.binds (fun _ _ _ _ _ _ us hl => match us, hl with | [_, _], _ => rfl), F9, PySem.W.mg_of X G a9, k9, F9.binds (fun _ _ _ _ _ _ us hl => match us, hl with | [_, _, _], _ => rfl), F10, PySem.W.mg_of X G a10, k10, F10.binds (fun _ _ _ _ _ _ us hl => match us, hl with | [_, _, _], _ => rfl), F11, PySem.W.mg_of X G a11, k11, F11.binds (fun _ _ _ _ _ _ us hl => match us, hl with | [_, _], _ => rfl), F12, PySem.W.mg_of X G a12, k12, F12.binds (fun _ _ _ _ _ _ us hl => match us, hl with | [_, _, _], _ => rfl), F13, PySem.W.mg_of X G a13, k13, F13.binds (fun _ _ _ _ _ _ us hl => match us, hl with | [_, _], _ => rfl), F14, PySem.W.mg_of X G a14, k14, F14.binds (fun _ _ _ _ _ _ us hl => match us, hl with | [_, _], _ => rfl), F15, PySem.W.mg_of X G a15, k15, F15.binds (fun _ _ _ _ _ _ us hl => match us, hl with | [_], _ => rfl), F16, PySem.W.mg_of X G a16, k16, F16.binds (fun _ _ _ _ _ _ us hl => match us, hl with | [_], _ => rfl), F17, PySem.W.mg_of X G a17, k17, F17.binds (fun _ _ _ _ _ _ us hl => match us, hl with | [_, _], _ => rfl), F18, PySem.W.mg_of X G a18, k18, F18.binds (fun _ _ _ _ _ _ us hl => match us, hl with | [_, _, _], _ => rfl), F19, PySem.W.mg_of X G a19, k19, F19.binds (fun _ _ _ _ _ _ us hl => match us, hl with | [_], _ => rfl), F20, PySem.W.mg_of X G a20, k20, F20.binds (fun _ _ _ _ _ _ us hl => match us, hl with | [_, _], _ => rfl), F21, PySem.W.mg_of X G a21, k21, F21.binds (fun _ _ _ _ _ _ us hl => match us, hl with | [_, _, _], _ => rfl), F22, PySem.W.mg_of X G a22, k22, F22.binds (fun _ _ _ _ _ _ us hl => match us, hl with | [_, _], _ => rfl), F23, PySem.W.mg_of X G a23, k23, F23.binds (fun _ _ _ _ _ _ us hl => match us, hl with | [_, _], _ => rfl), F24, PySem.W.mg_of X G a24, k24, F24.binds (fun _ _ _ _ _ _ us hl => match us, hl with | [_, _], _ => rfl), F25, PySem.W.mg_of X G a25, k25, F25.binds (fun _ _ _ _ _ _ us hl => match us, hl with | [_, _], _ => rfl), F26, PySem.W.mg_of X G a26, k26, F26.binds (fun _ _ _ _ _ _ us hl => match us, hl with | [_], _ => rfl), ⟨tv_MOST, PySem.W.mg_of X G v_MOST⟩, PySem.W.mg_none_of X G z_bool, PySem.W.mg_none_of X G z_dict, PySem.W.mg_none_of X G z_enumerate, PySem.W.mg_none_of X G z_int, PySem.W.mg_none_of X G z_isinstance, PySem.W.mg_none_of X G z_len, PySem.W.mg_none_of X G z_list, PySem.W.mg_none_of X G z_min, PySem.W.mg_none_of X G z_range, PySem.W.mg_none_of X G z_sorted, PySem.W.mg_none_of X G z_tuple, PySem.W.mg_none_of X G z_zip⟩
  refine ⟨PySem.W.fnOf "law" "law" (defArgs s_law) (defBody s_law) (defScope s_law) .none kV26 dc26 pm26 an26 cd26 ct26, fun s v => .of_eq rfl, fun base _ _ => ?_⟩
  have G_many_rows := ok_many_rows (P := l.prog) (w := w) (base := base) T
  have G_many_runs := ok_many_runs (P := l.prog) (w := w) (base := base) T G_many_rows
  have G_row_at := ok_row_at (P := l.prog) (w := w) (base := base) T
  have G_run_at := ok_run_at (P := l.prog) (w := w) (base := base) T G_many_rows G_row_at
  have G_all_runs := ok_all_runs (P := l.prog) (w := w) (base := base) T G_many_runs G_run_at
  have G_came_to := ok_came_to (P := l.prog) (w := w) (base := base) T
  have G_heard_spots := ok_heard_spots (P := l.prog) (w := w) (base := base) T G_came_to
  have G_view := ok_view (P := l.prog) (w := w) (base := base) T G_heard_spots G_came_to
  have G_parts_of := ok_parts_of (P := l.prog) (w := w) (base := base) T
  have G_rows_of := ok_rows_of (P := l.prog) (w := w) (base := base) T G_all_runs
  have G_weather_parts := ok_weather_parts (P := l.prog) (w := w) (base := base) T G_rows_of G_view G_parts_of
  have G_heard_by_all := ok_heard_by_all (P := l.prog) (w := w) (base := base) T G_heard_spots
  have G_callers := ok_callers (P := l.prog) (w := w) (base := base) T G_rows_of G_weather_parts G_heard_by_all
  have G__law_cell_at := ok__law_cell_at (P := l.prog) (w := w) (base := base) T
  have G__law_mix := ok__law_mix (P := l.prog) (w := w) (base := base) T
  have G__law_whole := ok__law_whole (P := l.prog) (w := w) (base := base) T
  have G__law_pairs := ok__law_pairs (P := l.prog) (w := w) (base := base) T
  have G__law_weather := ok__law_weather (P := l.prog) (w := w) (base := base) T G__law_pairs
  have G__law_road := ok__law_road (P := l.prog) (w := w) (base := base) T G__law_cell_at G__law_mix G__law_weather
  have G__law_road_case := ok__law_road_case (P := l.prog) (w := w) (base := base) T G__law_cell_at G__law_road
  have G__law_rows := ok__law_rows (P := l.prog) (w := w) (base := base) T
  have G__law_senders := ok__law_senders (P := l.prog) (w := w) (base := base) T
  have G__law_view := ok__law_view (P := l.prog) (w := w) (base := base) T G__law_senders
  have G__law_parts := ok__law_parts (P := l.prog) (w := w) (base := base) T
  have G__law_came_parts := ok__law_came_parts (P := l.prog) (w := w) (base := base) T G__law_view G__law_parts
  have G__law_heard_by_all := ok__law_heard_by_all (P := l.prog) (w := w) (base := base) T G__law_view
  have G_law := ok_law (P := l.prog) (w := w) (base := base) T G__law_road_case G__law_rows G__law_came_parts G__law_heard_by_all G_callers G__law_whole
  exact G_law.imp (spAny_to _)
end Lw
end
section
namespace Lw
open PySem L2 Ab
abbrev e_FI : List Int → D := fun xs => D.fro (xs.map D.int)
theorem k_FI : EncOk e_FI 1 := enc_fro enc_int
abbrev e_P0 : Unit → D := fun _ => D.tup []
theorem k_P0 : EncOk e_P0 1 := enc_P0
abbrev e_LP0 : List Unit → D := eL e_P0
theorem k_LP0 : EncOk e_LP0 2 := enc_lst k_P0
abbrev e_MP0 : List Unit → D := eM e_P0
theorem z_MP0 : Fz e_MP0 e_LP0 := fz_M (fz_F k_P0)
theorem t_MP0 : Dt e_MP0 e_LP0 := dt_M dt_rfl
abbrev e_P2II : (Int × Int) → D := eP D.int D.int
theorem k_P2II : EncOk e_P2II 1 := enc_P2 (enc_up enc_int (by decide)) (enc_up enc_int (by decide))
abbrev e_LP2II : (List (Int × Int)) → D := eL e_P2II
theorem k_LP2II : EncOk e_LP2II 2 := enc_lst k_P2II
abbrev e_MP2II : (List (Int × Int)) → D := eM e_P2II
theorem z_MP2II : Fz e_MP2II e_LP2II := fz_M (fz_F k_P2II)
theorem t_MP2II : Dt e_MP2II e_LP2II := dt_M dt_rfl
abbrev e_TP2II : (List (Int × Int)) → D := eT e_P2II
theorem k_TP2II : EncOk e_TP2II 2 := enc_tup k_P2II
abbrev e_LTP2II : (List (List (Int × Int))) → D := eL e_TP2II
theorem k_LTP2II : EncOk e_LTP2II 3 := enc_lst k_TP2II
abbrev e_MTP2II : (List (List (Int × Int))) → D := eM e_TP2II
theorem z_MTP2II : Fz e_MTP2II e_LTP2II := fz_M (fz_F k_TP2II)
theorem t_MTP2II : Dt e_MTP2II e_LTP2II := dt_M dt_rfl
abbrev e_P3ILTP2III : (Int × (List (List (Int × Int))) × Int) → D := fun v => D.tup [D.int (v.1), e_LTP2II (v.2.1), D.int (v.2.2)]
theorem k_P3ILTP2III : EncOk e_P3ILTP2III 4 := enc_P3 (enc_up enc_int (by decide)) (enc_up k_LTP2II (by decide)) (enc_up enc_int (by decide))
abbrev e_TTP2II : (List (List (Int × Int))) → D := eT e_TP2II
theorem k_TTP2II : EncOk e_TTP2II 3 := enc_tup k_TP2II
abbrev e_LTTP2II : (List (List (List (Int × Int)))) → D := eL e_TTP2II
theorem k_LTTP2II : EncOk e_LTTP2II 4 := enc_lst k_TTP2II
abbrev e_MTTP2II : (List (List (List (Int × Int)))) → D := eM e_TTP2II
theorem z_MTTP2II : Fz e_MTTP2II e_LTTP2II := fz_M (fz_F k_TTP2II)
theorem t_MTTP2II : Dt e_MTTP2II e_LTTP2II := dt_M dt_rfl
abbrev e_TI : List Int → D := eT D.int
theorem k_TI : EncOk e_TI 1 := enc_tup enc_int
abbrev e_P2TITTP2II : ((List Int) × (List (List (Int × Int)))) → D := eP e_TI e_TTP2II
theorem k_P2TITTP2II : EncOk e_P2TITTP2II 4 := enc_P2 (enc_up k_TI (by decide)) (enc_up k_TTP2II (by decide))
abbrev e_DLnP2IIB : (List ((Int × Int) × Bool)) → D := eDL true e_P2II D.bl
theorem k_DLnP2IIB : FOk e_DLnP2IIB := fo_D
abbrev e_DMnP2IIB : (List ((Int × Int) × Bool)) → D := eDM true e_P2II D.bl
theorem z_DMnP2IIB : Fz e_DMnP2IIB e_DLnP2IIB := fz_D (fz_F enc_bl)
theorem key_P2II : KeyEnc e_P2II true (nkP NestedKey.num NestedKey.num) := key_tup (nko_P (nko_up (k := 0) nko_int (by decide)) (nko_up (k := 0) nko_int (by decide))) (fun _ => ⟨_, rfl⟩)
abbrev e_LDLnP2IIB : (List (List ((Int × Int) × Bool))) → D := eL e_DLnP2IIB
theorem k_LDLnP2IIB : FOk e_LDLnP2IIB := fo_L
abbrev e_MDMnP2IIB : (List (List ((Int × Int) × Bool))) → D := eM e_DMnP2IIB
theorem z_MDMnP2IIB : Fz e_MDMnP2IIB e_LDLnP2IIB := fz_M z_DMnP2IIB
abbrev e_LI : List Int → D := eL D.int
theorem k_LI : EncOk e_LI 1 := enc_lst enc_int
abbrev e_MI : List Int → D := eM D.int
theorem z_MI : Fz e_MI e_LI := fz_M (fz_F enc_int)
theorem t_MI : Dt e_MI e_LI := dt_M dt_rfl
abbrev e_MDLnP2IIB : (List (List ((Int × Int) × Bool))) → D := eM e_DLnP2IIB
theorem z_MDLnP2IIB : Fz e_MDLnP2IIB e_LDLnP2IIB := fz_M (fz_FO k_DLnP2IIB)
abbrev e_P2ITP2II : (Int × (List (Int × Int))) → D := eP D.int e_TP2II
theorem k_P2ITP2II : EncOk e_P2ITP2II 3 := enc_P2 (enc_up enc_int (by decide)) (enc_up k_TP2II (by decide))
abbrev e_N : Unit → D := (fun _ => D.non)
theorem k_N : EncOk e_N 0 := enc_non
abbrev e_OI : Option Int → D := eO D.int
theorem k_OI : EncOk e_OI 0 := enc_opt enc_int (nn_int).1 (nn_int).2
abbrev e_LOI : List (Option Int) → D := eL e_OI
theorem k_LOI : EncOk e_LOI 1 := enc_lst k_OI
abbrev e_MOI : List (Option Int) → D := eM e_OI
theorem z_MOI : Fz e_MOI e_LOI := fz_M (fz_F k_OI)
theorem t_MOI : Dt e_MOI e_LOI := dt_M dt_rfl
abbrev e_OTI : Option (List Int) → D := eO e_TI
theorem k_OTI : EncOk e_OTI 1 := enc_opt k_TI (nn_T).1 (nn_T).2
abbrev e_LOTI : List (Option (List Int)) → D := eL e_OTI
theorem k_LOTI : EncOk e_LOTI 2 := enc_lst k_OTI
abbrev e_MOTI : List (Option (List Int)) → D := eM e_OTI
theorem z_MOTI : Fz e_MOTI e_LOTI := fz_M (fz_F k_OTI)
theorem t_MOTI : Dt e_MOTI e_LOTI := dt_M dt_rfl
abbrev e_TOTI : List (Option (List Int)) → D := eT e_OTI
theorem k_TOTI : EncOk e_TOTI 2 := enc_tup k_OTI
abbrev e_LTOTI : List (List (Option (List Int))) → D := eL e_TOTI
theorem k_LTOTI : EncOk e_LTOTI 3 := enc_lst k_TOTI
abbrev e_MTOTI : List (List (Option (List Int))) → D := eM e_TOTI
theorem z_MTOTI : Fz e_MTOTI e_LTOTI := fz_M (fz_F k_TOTI)
theorem t_MTOTI : Dt e_MTOTI e_LTOTI := dt_M dt_rfl
abbrev e_TTOTI : List (List (Option (List Int))) → D := eT e_TOTI
theorem k_TTOTI : EncOk e_TTOTI 3 := enc_tup k_TOTI
abbrev e_TOI : List (Option Int) → D := eT e_OI
theorem k_TOI : EncOk e_TOI 1 := enc_tup k_OI
abbrev e_P3ITOITTOTI : (Int × (List (Option Int)) × (List (List (Option (List Int))))) → D := fun v => D.tup [D.int (v.1), e_TOI (v.2.1), e_TTOTI (v.2.2)]
theorem k_P3ITOITTOTI : EncOk e_P3ITOITTOTI 4 := enc_P3 (enc_up enc_int (by decide)) (enc_up k_TOI (by decide)) (enc_up k_TTOTI (by decide))
abbrev e_P2ITTOTI : (Int × (List (List (Option (List Int))))) → D := eP D.int e_TTOTI
theorem k_P2ITTOTI : EncOk e_P2ITTOTI 4 := enc_P2 (enc_up enc_int (by decide)) (enc_up k_TTOTI (by decide))
theorem key_P2ITTOTI : KeyEnc e_P2ITTOTI true (nkP NestedKey.num (nkT (nkT (nkO (nkT NestedKey.num))))) := key_tup (nko_P (nko_up (k := 3) nko_int (by decide)) (nko_up (k := 3) (nko_T (nko_T (nko_O (nko_T nko_int) (fun _ q => nomatch q)))) (by decide))) (fun _ => ⟨_, rfl⟩)
abbrev e_DLnP2ITTOTILI : (List ((Int × (List (List (Option (List Int))))) × (List Int))) → D := eDL true e_P2ITTOTI e_LI
theorem k_DLnP2ITTOTILI : FOk e_DLnP2ITTOTILI := fo_D
abbrev e_DMnP2ITTOTIMI : (List ((Int × (List (List (Option (List Int))))) × (List Int))) → D := eDM true e_P2ITTOTI e_MI
theorem z_DMnP2ITTOTIMI : Fz e_DMnP2ITTOTIMI e_DLnP2ITTOTILI := fz_D z_MI
abbrev e_P2ITTP2II : (Int × (List (List (Int × Int)))) → D := eP D.int e_TTP2II
theorem k_P2ITTP2II : EncOk e_P2ITTP2II 4 := enc_P2 (enc_up enc_int (by decide)) (enc_up k_TTP2II (by decide))
abbrev e_P2P2ITTOTILI : ((Int × (List (List (Option (List Int))))) × (List Int)) → D := eP e_P2ITTOTI e_LI
theorem k_P2P2ITTOTILI : EncOk e_P2P2ITTOTILI 5 := enc_P2 (enc_up k_P2ITTOTI (by decide)) (enc_up k_LI (by decide))
abbrev e_LLI : List (List Int) → D := eL e_LI
theorem k_LLI : EncOk e_LLI 2 := enc_lst k_LI
abbrev e_MMI : List (List Int) → D := eM e_MI
theorem z_MMI : Fz e_MMI e_LLI := fz_M z_MI
theorem t_MMI : Dt e_MMI e_LLI := dt_M t_MI
abbrev e_MLI : List (List Int) → D := eM e_LI
theorem z_MLI : Fz e_MLI e_LLI := fz_M (fz_F k_LI)
theorem t_MLI : Dt e_MLI e_LLI := dt_M dt_rfl
abbrev e_LTI : List (List Int) → D := eL e_TI
theorem k_LTI : EncOk e_LTI 2 := enc_lst k_TI
abbrev e_LP2TITTP2II : (List ((List Int) × (List (List (Int × Int))))) → D := eL e_P2TITTP2II
theorem k_LP2TITTP2II : EncOk e_LP2TITTP2II 5 := enc_lst k_P2TITTP2II
abbrev e_MP2TITTP2II : (List ((List Int) × (List (List (Int × Int))))) → D := eM e_P2TITTP2II
theorem z_MP2TITTP2II : Fz e_MP2TITTP2II e_LP2TITTP2II := fz_M (fz_F k_P2TITTP2II)
theorem t_MP2TITTP2II : Dt e_MP2TITTP2II e_LP2TITTP2II := dt_M dt_rfl
abbrev e_MTI : List (List Int) → D := eM e_TI
theorem z_MTI : Fz e_MTI e_LTI := fz_M (fz_F k_TI)
theorem t_MTI : Dt e_MTI e_LTI := dt_M dt_rfl
abbrev e_P2LITP2II : ((List Int) × (List (Int × Int))) → D := eP e_LI e_TP2II
theorem k_P2LITP2II : EncOk e_P2LITP2II 3 := enc_P2 (enc_up k_LI (by decide)) (enc_up k_TP2II (by decide))
abbrev e_P2IP2TITTP2II : (Int × ((List Int) × (List (List (Int × Int))))) → D := eP D.int e_P2TITTP2II
theorem k_P2IP2TITTP2II : EncOk e_P2IP2TITTP2II 5 := enc_P2 (enc_up enc_int (by decide)) (enc_up k_P2TITTP2II (by decide))
abbrev e_bot : Int → D := D.int
abbrev e_Lbot : List Int → D := eL e_bot
theorem k_Lbot : EncOk e_Lbot 1 := enc_lst enc_int
abbrev e_Mbot : List Int → D := eM e_bot
theorem z_Mbot : Fz e_Mbot e_Lbot := fz_M (fz_F enc_int)
theorem t_Mbot : Dt e_Mbot e_Lbot := dt_M dt_rfl
abbrev e_DLiIB : (List (Int × Bool)) → D := eDL false D.int D.bl
theorem k_DLiIB : FOk e_DLiIB := fo_D
abbrev e_DMiIB : (List (Int × Bool)) → D := eDM false D.int D.bl
theorem z_DMiIB : Fz e_DMiIB e_DLiIB := fz_D (fz_F enc_bl)
def P__law_cell_at (a0 : List Int) (a1 : Int) : Option Int :=
  if (decide (a1 < (a0.length : Int))) = true then ((atI a0 a1).bind fun v1 => some v1) else (some (0 : Int))
theorem sim__law_cell_at (a0 : List Int) (a1 : Int) (r : Int) (h : P__law_cell_at a0 a1 = some r) : F__law_cell_at [e_FI a0, D.int a1] = .ok (D.int r) := by
  refine def_F (e := D.int) [some (e_FI a0), some (D.int a1)] rfl rfl (fun _ _ q => nomatch q) h (sm_last ?_)
  unfold f__law_cell_at P__law_cell_at
  refine sm_as ?_
  refine sm_ifs ((ev_B (ev_bin (ev_var rfl (enc_int.f _)) (ev_cb (ev_cons (ev_var rfl (k_FI.f _)) ev_nil) (gLenX_s (e1 := D.int) rfl)) gLt_ok))) (fun hb => ?_) (fun hb => ?_)
  · refine sm_need fun v1 hv1 => ?_
    exact sm_retF (ev_ret (ev_bin (ev_var rfl (k_FI.f _)) (ev_var rfl (enc_int.f _)) (gIxX_s (gIx_o (e := D.int) rfl hv1 (enc_int.f _)) rfl)) (fun _ q => nomatch q))
  · refine sm_skip ?_
    exact sm_retF (ev_ret ev_C (fun _ q => nomatch q))
def P__law_mix (a0 : Int) (a1 : Int) : Option Int :=
  if (decide ((10 ^ 12 : Int) ≤ a0)) = true then ((some (((a0 / (10 ^ 12 : Int)) - (1 : Int)))).bind fun (cell_1 : Int) => (rgO (a1 % (61 : Int))).bind fun r2 => (forS (fun (x3 : Int) (s6 : Int) => ((some ((s6 / (2147483648 : Int)))).bind fun (cell_7 : Int) => some cell_7)) r2 cell_1).bind fun s6 => some (s6 % (2147483648 : Int))) else ((mulO a1 a1).bind fun v8 => (some ((((((a0 % (1000003 : Int)) + (v8 * (7919 : Int))) + a1) * (48271 : Int)) % (2147483629 : Int)))).bind fun (number_9 : Int) => (mulO number_9 number_9).bind fun v10 => (some ((v10 % (2147483587 : Int)))).bind fun (number_11 : Int) => (mulO number_11 (number_11 + (2 : Int))).bind fun v12 => some ((v12 % (2147483579 : Int)) / (7 : Int)))
theorem sim__law_mix (a0 : Int) (a1 : Int) (r : Int) (h : P__law_mix a0 a1 = some r) : F__law_mix [D.int a0, D.int a1] = .ok (D.int r) := by
  refine def_F (e := D.int) [some (D.int a0), some (D.int a1), none, none] rfl rfl (fun _ _ q => nomatch q) h (sm_last ?_)
  unfold f__law_mix P__law_mix
  refine sm_as ?_
  refine sm_ifs ((ev_B (ev_bin (ev_var rfl (enc_int.f _)) (ev_bin ev_C ev_C (gPow_ok (b := 12) (by decide) (by decide))) gGe_ok))) (fun hb => ?_) (fun hb => ?_)
  · refine sm_as ?_
    refine sm_nl (fun (cell_1 : Int) => [some (D.int cell_1), some (D.int a1), none, none]) (ev_asgF (ev_bin (ev_bin (ev_var rfl (enc_int.f _)) (ev_bin ev_C ev_C (gPow_ok (b := 12) (by decide) (by decide))) (gDiv_ok (by decide) (by decide))) ev_C gMinus_ok) (enc_int.f _)) fun cell_1 => ?_
    refine sm_as ?_
    refine sm_need fun r2 hr2 => ?_
    refine sm_forS (e := D.int) (fun (s6 : Int) A => ∃ j3 : Option D, A = [some (D.int s6), some (D.int a1), none, j3]) ((ev_rangeO (ev_bin (ev_var rfl (enc_int.f _)) ev_C (gMod_ok (by decide))) hr2)) ⟨_, rfl⟩ (fun x3 s6 _ hR => ?_) ?_
    · obtain ⟨j3, rfl⟩ := hR
      refine ⟨[some (D.int s6), some (D.int a1), none, some (D.int x3)], rfl, sm_last ?_⟩
      refine sm_nl (fun (cell_7 : Int) => [some (D.int cell_7), some (D.int a1), none, some (D.int x3)]) (ev_asgF (ev_bin (ev_var rfl (enc_int.f _)) ev_C (gDiv_ok (by decide) (by decide))) (enc_int.f _)) fun cell_7 => ?_
      exact sm_endC ⟨_, rfl⟩
    rintro s6 _ ⟨j3, rfl⟩
    exact sm_retF (ev_ret (ev_bin (ev_var rfl (enc_int.f _)) ev_C (gMod_ok (by decide))) (fun _ q => nomatch q))
  · refine sm_skip ?_
    refine sm_as ?_
    refine sm_need fun v8 hv8 => ?_
    refine sm_nl (fun (number_9 : Int) => [some (D.int a0), some (D.int a1), some (D.int number_9), none]) (ev_asgF (ev_bin (ev_bin (ev_bin (ev_bin (ev_bin (ev_var rfl (enc_int.f _)) ev_C (gMod_ok (by decide))) (ev_bin (ev_bin (ev_var rfl (enc_int.f _)) (ev_var rfl (enc_int.f _)) (gMul_o hv8)) ev_C (gMul_cr (by decide))) gAdd_ok) (ev_var rfl (enc_int.f _)) gAdd_ok) ev_C (gMul_cr (by decide))) ev_C (gMod_ok (by decide))) (enc_int.f _)) fun number_9 => ?_
    refine sm_as ?_
    refine sm_need fun v10 hv10 => ?_
    refine sm_nl (fun (number_11 : Int) => [some (D.int a0), some (D.int a1), some (D.int number_11), none]) (ev_asgF (ev_bin (ev_bin (ev_var rfl (enc_int.f _)) (ev_var rfl (enc_int.f _)) (gMul_o hv10)) ev_C (gMod_ok (by decide))) (enc_int.f _)) fun number_11 => ?_
    refine sm_need fun v12 hv12 => ?_
    exact sm_retF (ev_ret (ev_bin (ev_bin (ev_bin (ev_var rfl (enc_int.f _)) (ev_bin (ev_var rfl (enc_int.f _)) ev_C gAdd_ok) (gMul_o hv12)) ev_C (gMod_ok (by decide))) ev_C (gDiv_ok (by decide) (by decide))) (fun _ q => nomatch q))
def P__law_pairs (a0 : Int) : Option (List (Int × Int)) :=
  (rgO a0).bind fun r1 => (forS (fun (x2 : Int) (s15 : (List (Int × Int))) => ((rgO a0).bind fun r16 => (forS (fun (x17 : Int) (s20 : (List (Int × Int))) => (if (!decide (x2 = x17)) = true then ((appO s20 (x2, x17)).bind fun v21 => some v21) else (some s20))) r16 s15).bind fun s20 => some s20)) r1 ([] : List (Int × Int))).bind fun s15 => some s15
theorem sim__law_pairs (a0 : Int) (r : List (Int × Int)) (h : P__law_pairs a0 = some r) : F__law_pairs [D.int a0] = .ok (e_MP2II r) := by
  refine def_F (e := e_MP2II) [some (D.int a0), none, none, none] rfl rfl (fun _ _ q => nomatch q) h (sm_last ?_)
  unfold f__law_pairs P__law_pairs
  refine sm_as ?_
  refine sm_n (ev_asg (ev_lst ev_nil isFs_nil (short_ _ 0 rfl (by decide))) (fun _ q => nomatch q)) ?_
  refine sm_as ?_
  refine sm_need fun r1 hr1 => ?_
  refine sm_forS (e := D.int) (fun (s15 : (List (Int × Int))) A => ∃ j2 : Option D, ∃ j3 : Option D, A = [some (D.int a0), some (e_MP2II s15), j2, j3]) ((ev_rangeO (ev_var rfl (enc_int.f _)) hr1)) ⟨_, _, rfl⟩ (fun x2 s15 _ hR => ?_) ?_
  · obtain ⟨j2, j3, rfl⟩ := hR
    refine ⟨[some (D.int a0), some (e_MP2II s15), some (D.int x2), j3], rfl, sm_last ?_⟩
    refine sm_need fun r16 hr16 => ?_
    refine sm_forS (e := D.int) (fun (s20 : (List (Int × Int))) A => ∃ j3 : Option D, A = [some (D.int a0), some (e_MP2II s20), some (D.int x2), j3]) ((ev_rangeO (ev_var rfl (enc_int.f _)) hr16)) ⟨_, rfl⟩ (fun x17 s20 _ hR => ?_) ?_
    · obtain ⟨j3, rfl⟩ := hR
      refine ⟨[some (D.int a0), some (e_MP2II s20), some (D.int x2), some (D.int x17)], rfl, sm_last ?_⟩
      refine sm_ifs ((ev_B (ev_bin (ev_var rfl (enc_int.f _)) (ev_var rfl (enc_int.f _)) gNe_int))) (fun hb => ?_) (fun hb => ?_)
      · refine sm_need fun v21 hv21 => ?_
        refine sm_n (ev_drop (ev_appO (e := e_P2II) (xs := s20) (x := (x2, x17)) rfl (ev_tup (ev_cons (ev_var rfl (enc_int.f _)) (ev_cons (ev_var rfl (enc_int.f _)) ev_nil)) (isFs_cons (enc_int.f _) (isFs_cons (enc_int.f _) isFs_nil)) (short_ _ 2 rfl (by decide))) rfl (fun _ q => nomatch q) hv21)) ?_
        exact sm_endC ⟨_, rfl⟩
      · refine sm_skip ?_
        exact sm_endC ⟨_, rfl⟩
    rintro s20 _ ⟨j3, rfl⟩
    exact sm_endC ⟨_, _, rfl⟩
  rintro s15 _ ⟨j2, j3, rfl⟩
  exact sm_retF (ev_ret_alG (ev_al rfl isF_mu) rfl)
def P__law_weather (a0 : Int) (a1 : Int) : Option (List (Int × Int)) :=
  (P__law_pairs a1).bind fun v1 => (forS (fun (x2 : Int × Int) (s11 : Int × (List (Int × Int))) => ((if (decide ((s11.1 % (3 : Int)) = (0 : Int))) = true then ((appO s11.2 x2).bind fun v14 => some v14) else (some s11.2) : Option ((List (Int × Int)))).bind fun s13 => (some ((s11.1 / (3 : Int)))).bind fun (number_15 : Int) => some (number_15, s13))) v1 (a0, ([] : List (Int × Int)))).bind fun s11 => some s11.2
theorem sim__law_weather (a0 : Int) (a1 : Int) (r : List (Int × Int)) (h : P__law_weather a0 a1 = some r) : F__law_weather [D.int a0, D.int a1] = .ok (e_TP2II r) := by
  refine def_F (e := e_TP2II) [some (D.int a0), some (D.int a1), none, none] rfl rfl (fun _ _ q => nomatch q) h (sm_last ?_)
  unfold f__law_weather P__law_weather
  refine sm_as ?_
  refine sm_n (ev_asg (ev_lst ev_nil isFs_nil (short_ _ 0 rfl (by decide))) (fun _ q => nomatch q)) ?_
  refine sm_as ?_
  refine sm_need fun v1 hv1 => ?_
  refine sm_forS (e := e_P2II) (fun (s11 : Int × (List (Int × Int))) A => ∃ j3 : Option D, A = [some (D.int s11.1), some (D.int a1), some (e_MP2II s11.2), j3]) ((ev_itM (es := List.map e_P2II v1) (ev_fcallN (ev_cons (ev_var rfl (enc_int.f _)) ev_nil) (ar_F (enc_int.f a1) ar_nil) (sim__law_pairs a1 _ hv1)) (fun _ q => nomatch q) (z_MP2II v1) rfl)) ⟨_, rfl⟩ (fun x2 s11 _ hR => ?_) ?_
  · obtain ⟨j3, rfl⟩ := hR
    refine ⟨[some (D.int s11.1), some (D.int a1), some (e_MP2II s11.2), some (e_P2II x2)], rfl, sm_last ?_⟩
    refine sm_as ?_
    refine sm_seqS (Rg := (fun (s13 : (List (Int × Int))) A => A = [some (D.int s11.1), some (D.int a1), some (e_MP2II s13), some (e_P2II x2)])) (sm_if ((ev_B (ev_bin (ev_bin (ev_var rfl (enc_int.f _)) ev_C (gMod_ok (by decide))) ev_C gEq_int))) (fun hb => ?_) (fun hb => ?_)) ?_
    · refine sm_last ?_
      refine sm_need fun v14 hv14 => ?_
      refine sm_n (ev_drop (ev_appO (e := e_P2II) (xs := s11.2) (x := x2) rfl (ev_var rfl (k_P2II.f _)) rfl (fun _ q => nomatch q) hv14)) ?_
      exact sm_endS rfl
    · exact sm_endS rfl
    rintro s13 _ rfl
    refine sm_nl (fun (number_15 : Int) => [some (D.int number_15), some (D.int a1), some (e_MP2II s13), some (e_P2II x2)]) (ev_asgF (ev_bin (ev_var rfl (enc_int.f _)) ev_C (gDiv_ok (by decide) (by decide))) (enc_int.f _)) fun number_15 => ?_
    exact sm_endC ⟨_, rfl⟩
  rintro s11 _ ⟨j3, rfl⟩
  exact sm_retF (ev_ret (ev_cb (ev_cons (ev_al rfl isF_mu) ev_nil) (gTuple_sq (es := List.map e_P2II s11.2) rfl (k_P2II.fs _))) (fun _ q => nomatch q))
def P__law_road (a0 : List Int) (a1 : Int) (a2 : Int) : Option (List (List (Int × Int))) :=
  (some ([])).bind fun (road_1 : List (List (Int × Int))) => (P__law_cell_at a0 (1 : Int)).bind fun v2 => (if (decide ((v2 % (2 : Int)) = (1 : Int))) = true then ((appO road_1 ([] : List (Int × Int))).bind fun v5 => some v5) else (some road_1) : Option ((List (List (Int × Int))))).bind fun s4 => (rgO a2).bind fun r6 => (forS (fun (x7 : Int) (s22 : (List (List (Int × Int)))) => ((P__law_cell_at a0 ((2 : Int) + x7)).bind fun v23 => (P__law_mix v23 ((20 : Int) + x7)).bind fun v24 => (P__law_weather v24 a1).bind fun v25 => (if (decide (((v24 / (600000 : Int)) % (3 : Int)) = (1 : Int))) = true then ((some ((cutG v25 none (some (1 : Int))))).bind fun (weather_28 : List (Int × Int)) => some weather_28) else (some v25) : Option ((List (Int × Int)))).bind fun s27 => if ((!isIn s27 s22) && (decide ((s22.length : Int) < a2))) = true then ((appO s22 s27).bind fun v29 => some v29) else (some s22))) r6 s4).bind fun s22 => some s22
theorem sim__law_road (a0 : List Int) (a1 : Int) (a2 : Int) (r : List (List (Int × Int))) (h : P__law_road a0 a1 a2 = some r) : F__law_road [e_FI a0, D.int a1, D.int a2] = .ok (e_MTP2II r) := by
  refine def_F (e := e_MTP2II) [some (e_FI a0), some (D.int a1), some (D.int a2), none, none, none, none] rfl rfl (fun _ _ q => nomatch q) h (sm_last ?_)
  unfold f__law_road P__law_road
  refine sm_as ?_
  refine sm_nl (fun (road_1 : List (List (Int × Int))) => [some (e_FI a0), some (D.int a1), some (D.int a2), some (e_MTP2II road_1), none, none, none]) (ev_asg (ev_lst ev_nil isFs_nil (short_ _ 0 rfl (by decide))) (fun _ q => nomatch q)) fun road_1 => ?_
  refine sm_as ?_
  refine sm_need fun v2 hv2 => ?_
  refine sm_seqS (Rg := (fun (s4 : (List (List (Int × Int)))) A => A = [some (e_FI a0), some (D.int a1), some (D.int a2), some (e_MTP2II s4), none, none, none])) (sm_if ((ev_B (ev_bin (ev_bin (ev_fcallS (ev_cons (ev_var rfl (k_FI.f _)) (ev_cons ev_C ev_nil)) (ar_F (k_FI.f a0) (ar_F (enc_int.f (1 : Int)) ar_nil)) (sim__law_cell_at a0 (1 : Int) _ hv2) rfl) ev_C (gMod_ok (by decide))) ev_C gEq_int))) (fun hb => ?_) (fun hb => ?_)) ?_
  · refine sm_last ?_
    refine sm_need fun v5 hv5 => ?_
    refine sm_n (ev_drop (ev_appO (e := e_TP2II) (xs := road_1) (x := []) rfl (ev_tup ev_nil isFs_nil (short_ _ 0 rfl (by decide))) rfl (fun _ q => nomatch q) hv5)) ?_
    exact sm_endS rfl
  · exact sm_endS rfl
  rintro s4 _ rfl
  refine sm_as ?_
  refine sm_need fun r6 hr6 => ?_
  refine sm_forS (e := D.int) (fun (s22 : (List (List (Int × Int)))) A => ∃ j4 : Option D, ∃ j5 : Option D, ∃ j6 : Option D, A = [some (e_FI a0), some (D.int a1), some (D.int a2), some (e_MTP2II s22), j4, j5, j6]) ((ev_rangeO (ev_var rfl (enc_int.f _)) hr6)) ⟨_, _, _, rfl⟩ (fun x7 s22 _ hR => ?_) ?_
  · obtain ⟨j4, j5, j6, rfl⟩ := hR
    refine ⟨[some (e_FI a0), some (D.int a1), some (D.int a2), some (e_MTP2II s22), some (D.int x7), j5, j6], rfl, sm_last ?_⟩
    refine sm_as ?_
    refine sm_need fun v23 hv23 => ?_
    refine sm_need fun v24 hv24 => ?_
    refine sm_n (ev_asgF (ev_fcallS (ev_cons (ev_fcallS (ev_cons (ev_var rfl (k_FI.f _)) (ev_cons (ev_bin ev_C (ev_var rfl (enc_int.f _)) gAdd_ok) ev_nil)) (ar_F (k_FI.f a0) (ar_F (enc_int.f ((2 : Int) + x7)) ar_nil)) (sim__law_cell_at a0 ((2 : Int) + x7) _ hv23) rfl) (ev_cons (ev_bin ev_C (ev_var rfl (enc_int.f _)) gAdd_ok) ev_nil)) (ar_F (enc_int.f v23) (ar_F (enc_int.f ((20 : Int) + x7)) ar_nil)) (sim__law_mix v23 ((20 : Int) + x7) _ hv24) rfl) (enc_int.f _)) ?_
    refine sm_as ?_
    refine sm_need fun v25 hv25 => ?_
    refine sm_n (ev_asgF (ev_fcallN (ev_cons (ev_var rfl (enc_int.f _)) (ev_cons (ev_var rfl (enc_int.f _)) ev_nil)) (ar_F (enc_int.f v24) (ar_F (enc_int.f a1) ar_nil)) (sim__law_weather v24 a1 _ hv25)) (k_TP2II.f _)) ?_
    refine sm_as ?_
    refine sm_seqS (Rg := (fun (s27 : (List (Int × Int))) A => A = [some (e_FI a0), some (D.int a1), some (D.int a2), some (e_MTP2II s22), some (D.int x7), some (D.int v24), some (e_TP2II s27)])) (sm_if ((ev_B (ev_bin (ev_bin (ev_bin (ev_var rfl (enc_int.f _)) ev_C (gDiv_ok (by decide) (by decide))) ev_C (gMod_ok (by decide))) ev_C gEq_int))) (fun hb => ?_) (fun hb => ?_)) ?_
    · refine sm_last ?_
      refine sm_nl (fun (weather_28 : List (Int × Int)) => [some (e_FI a0), some (D.int a1), some (D.int a2), some (e_MTP2II s22), some (D.int x7), some (D.int v24), some (e_TP2II weather_28)]) (ev_asgF (ev_sl (ev_var rfl (k_TP2II.f _)) ev_noPart (ev_part ev_C) (gSl_tup (f := e_P2II) rfl (k_P2II.fs _))) (k_TP2II.f _)) fun weather_28 => ?_
      exact sm_endS rfl
    · exact sm_endS rfl
    rintro s27 _ rfl
    refine sm_ifs ((ev_and2 (ev_B (ev_bin (ev_var rfl (k_TP2II.f _)) (ev_al rfl isF_mu) (gNotInX_s (gNotIn_v k_TP2II (see_eq (k_TP2II.see _ s27)) (sq_v (e := e_TP2II) rfl dt_rfl)) rfl))) (fun _ => (ev_B (ev_bin (ev_cb (ev_cons (ev_al rfl isF_mu) ev_nil) (gLenX_s (e1 := e_TP2II) rfl)) (ev_var rfl (enc_int.f _)) gLt_ok))))) (fun hb => ?_) (fun hb => ?_)
    · refine sm_need fun v29 hv29 => ?_
      refine sm_n (ev_drop (ev_appO (e := e_TP2II) (xs := s22) (x := s27) rfl (ev_var rfl (k_TP2II.f _)) rfl (fun _ q => nomatch q) hv29)) ?_
      exact sm_endC ⟨_, _, _, rfl⟩
    · refine sm_skip ?_
      exact sm_endC ⟨_, _, _, rfl⟩
  rintro s22 _ ⟨j4, j5, j6, rfl⟩
  exact sm_retF (ev_ret_alG (ev_al rfl isF_mu) rfl)
def P__law_road_case (a0 : List Int) : Option (Int × (List (List (Int × Int))) × Int) :=
  (P__law_cell_at a0 (0 : Int)).bind fun v1 => (some (((2 : Int) + (v1 % (3 : Int))))).bind fun (hands_2 : Int) => (P__law_cell_at a0 (0 : Int)).bind fun v3 => (atI ([(5 : Int), (4 : Int), (3 : Int)] : List Int) (hands_2 - (2 : Int))).bind fun v4 => (modO (v3 / (3 : Int)) v4).bind fun v5 => (atI ([(3 : Int), (3 : Int), (2 : Int)] : List Int) (hands_2 - (2 : Int))).bind fun v6 => (P__law_road a0 hands_2 v6).bind fun v7 => some (hands_2, v7, v5)
theorem sim__law_road_case (a0 : List Int) (r : Int × (List (List (Int × Int))) × Int) (h : P__law_road_case a0 = some r) : F__law_road_case [e_FI a0] = .ok (e_P3ILTP2III r) := by
  refine def_F (e := e_P3ILTP2III) [some (e_FI a0), none, none, none] rfl rfl (fun _ _ q => nomatch q) h (sm_last ?_)
  unfold f__law_road_case P__law_road_case
  refine sm_as ?_
  refine sm_need fun v1 hv1 => ?_
  refine sm_nl (fun (hands_2 : Int) => [some (e_FI a0), some (D.int hands_2), none, none]) (ev_asgF (ev_bin ev_C (ev_bin (ev_fcallS (ev_cons (ev_var rfl (k_FI.f _)) (ev_cons ev_C ev_nil)) (ar_F (k_FI.f a0) (ar_F (enc_int.f (0 : Int)) ar_nil)) (sim__law_cell_at a0 (0 : Int) _ hv1) rfl) ev_C (gMod_ok (by decide))) gAdd_ok) (enc_int.f _)) fun hands_2 => ?_
  refine sm_as ?_
  refine sm_need fun v3 hv3 => ?_
  refine sm_need fun v4 hv4 => ?_
  refine sm_need fun v5 hv5 => ?_
  refine sm_n (ev_asgF (ev_bin (ev_bin (ev_fcallS (ev_cons (ev_var rfl (k_FI.f _)) (ev_cons ev_C ev_nil)) (ar_F (k_FI.f a0) (ar_F (enc_int.f (0 : Int)) ar_nil)) (sim__law_cell_at a0 (0 : Int) _ hv3) rfl) ev_C (gDiv_ok (by decide) (by decide))) (ev_bin (ev_lst (ev_cons ev_C (ev_cons ev_C (ev_cons ev_C ev_nil))) (isFs_cons (enc_int.f _) (isFs_cons (enc_int.f _) (isFs_cons (enc_int.f _) isFs_nil))) (short_ _ 3 rfl (by decide))) (ev_bin (ev_var rfl (enc_int.f _)) ev_C gMinus_ok) (gIxX_s (gIx_o (e := D.int) rfl hv4 (enc_int.f _)) rfl)) (gMod_o hv5)) (enc_int.f _)) ?_
  refine sm_as ?_
  refine sm_need fun v6 hv6 => ?_
  refine sm_need fun v7 hv7 => ?_
  refine sm_n (ev_asgF_G (ev_fcallN (ev_cons (ev_var rfl (k_FI.f _)) (ev_cons (ev_var rfl (enc_int.f _)) (ev_cons (ev_bin (ev_lst (ev_cons ev_C (ev_cons ev_C (ev_cons ev_C ev_nil))) (isFs_cons (enc_int.f _) (isFs_cons (enc_int.f _) (isFs_cons (enc_int.f _) isFs_nil))) (short_ _ 3 rfl (by decide))) (ev_bin (ev_var rfl (enc_int.f _)) ev_C gMinus_ok) (gIxX_s (gIx_o (e := D.int) rfl hv6 (enc_int.f _)) rfl)) ev_nil))) (ar_F (k_FI.f a0) (ar_F (enc_int.f hands_2) (ar_F (enc_int.f v6) ar_nil))) (sim__law_road a0 hands_2 v6 _ hv7)) (fun _ q => nomatch q) (z_MTP2II v7)) ?_
  exact sm_retF (ev_ret (ev_tup (ev_cons (ev_var rfl (enc_int.f _)) (ev_cons (ev_var rfl (k_LTP2II.f _)) (ev_cons (ev_var rfl (enc_int.f _)) ev_nil))) (isFs_cons (enc_int.f _) (isFs_cons (k_LTP2II.f _) (isFs_cons (enc_int.f _) isFs_nil))) (short_ _ 3 rfl (by decide))) (fun _ q => nomatch q))
def P__law_rows (a0 : List (List (Int × Int))) (a1 : Int) : Option (List (List (List (Int × Int)))) :=
  (some ([[]])).bind fun (rows_1 : List (List (List (Int × Int)))) => (rgO a1).bind fun r2 => (forS (fun (x3 : Int) (s56 : (List (List (List (Int × Int))))) => ((forS (fun (x57 : List (List (Int × Int))) (s74 : (List (List (List (Int × Int))))) => ((forS (fun (x75 : List (Int × Int)) (s80 : (List (List (List (Int × Int))))) => ((catO x57 ([x75] : List (List (Int × Int)))).bind fun v81 => (appO s80 v81).bind fun v82 => some v82)) a0 s74).bind fun s80 => some s80)) s56 ([] : List (List (List (Int × Int))))).bind fun s74 => some s74)) r2 rows_1).bind fun s56 => some s56
theorem sim__law_rows (a0 : List (List (Int × Int))) (a1 : Int) (r : List (List (List (Int × Int)))) (h : P__law_rows a0 a1 = some r) : F__law_rows [e_LTP2II a0, D.int a1] = .ok (e_MTTP2II r) := by
  refine def_F (e := e_MTTP2II) [some (e_LTP2II a0), some (D.int a1), none, none, none, none, none] rfl rfl (fun _ _ q => nomatch q) h (sm_last ?_)
  unfold f__law_rows P__law_rows
  refine sm_as ?_
  refine sm_nl (fun (rows_1 : List (List (List (Int × Int)))) => [some (e_LTP2II a0), some (D.int a1), some (e_MTTP2II rows_1), none, none, none, none]) (ev_asg (ev_lst (ev_cons (ev_tup ev_nil isFs_nil (short_ _ 0 rfl (by decide))) ev_nil) (isFs_cons (k_P0.f ()) isFs_nil) (short_ _ 1 rfl (by decide))) (fun _ q => nomatch q)) fun rows_1 => ?_
  refine sm_as ?_
  refine sm_need fun r2 hr2 => ?_
  refine sm_forS (e := D.int) (fun (s56 : (List (List (List (Int × Int))))) A => ∃ j3 : Option D, ∃ j5 : Option D, ∃ j6 : Option D, A = [some (e_LTP2II a0), some (D.int a1), some (e_MTTP2II s56), j3, none, j5, j6]) ((ev_rangeO (ev_var rfl (enc_int.f _)) hr2)) ⟨_, _, _, rfl⟩ (fun x3 s56 _ hR => ?_) ?_
  · obtain ⟨j3, j5, j6, rfl⟩ := hR
    refine ⟨[some (e_LTP2II a0), some (D.int a1), some (e_MTTP2II s56), some (D.int x3), none, j5, j6], rfl, sm_last ?_⟩
    refine sm_as ?_
    refine sm_n (ev_asg (ev_lst ev_nil isFs_nil (short_ _ 0 rfl (by decide))) (fun _ q => nomatch q)) ?_
    refine sm_as ?_
    refine sm_forS (e := e_TTP2II) (fun (s74 : (List (List (List (Int × Int))))) A => ∃ j5 : Option D, ∃ j6 : Option D, A = [some (e_LTP2II a0), some (D.int a1), some (e_LTTP2II s56), some (D.int x3), some (e_MTTP2II s74), j5, j6]) ((ev_itA (es := List.map e_TTP2II s56) (ev_al rfl isF_mu) rfl (z_MTTP2II s56) ((fz_F k_LTTP2II) s56) rfl)) ⟨_, _, rfl⟩ (fun x57 s74 _ hR => ?_) ?_
    · obtain ⟨j5, j6, rfl⟩ := hR
      refine ⟨[some (e_LTP2II a0), some (D.int a1), some (e_LTTP2II s56), some (D.int x3), some (e_MTTP2II s74), some (e_TTP2II x57), j6], rfl, sm_last ?_⟩
      refine sm_forS (e := e_TP2II) (fun (s80 : (List (List (List (Int × Int))))) A => ∃ j6 : Option D, A = [some (e_LTP2II a0), some (D.int a1), some (e_LTTP2II s56), some (D.int x3), some (e_MTTP2II s80), some (e_TTP2II x57), j6]) ((ev_itF (e := e_TP2II) (ev_var rfl (k_LTP2II.f _)) (k_LTP2II.f _) rfl)) ⟨_, rfl⟩ (fun x75 s80 _ hR => ?_) ?_
      · obtain ⟨j6, rfl⟩ := hR
        refine ⟨[some (e_LTP2II a0), some (D.int a1), some (e_LTTP2II s56), some (D.int x3), some (e_MTTP2II s80), some (e_TTP2II x57), some (e_TP2II x75)], rfl, sm_last ?_⟩
        refine sm_need fun v81 hv81 => ?_
        refine sm_need fun v82 hv82 => ?_
        refine sm_n (ev_drop (ev_appO (e := e_TTP2II) (xs := s80) (x := v81) rfl (ev_bin (ev_var rfl (k_TTP2II.f _)) (ev_tup (ev_cons (ev_var rfl (k_TP2II.f _)) ev_nil) (isFs_cons (k_TP2II.f _) isFs_nil) (short_ _ 1 rfl (by decide))) (gAdd_tupO (e := e_TP2II) rfl rfl hv81 k_TP2II.f)) rfl (fun _ q => nomatch q) hv82)) ?_
        exact sm_endC ⟨_, rfl⟩
      rintro s80 _ ⟨j6, rfl⟩
      exact sm_endC ⟨_, _, rfl⟩
    rintro s74 _ ⟨j5, j6, rfl⟩
    refine sm_n (ev_asgM_al (ev_al rfl isF_mu) rfl) ?_
    exact sm_endC ⟨_, _, _, rfl⟩
  rintro s56 _ ⟨j3, j5, j6, rfl⟩
  exact sm_retF (ev_ret_alG (ev_al rfl isF_mu) rfl)
def P__law_senders (a0 : Int) (a1 : List (Int × Int)) (a2 : Int) : Option (List Int) :=
  (rgO a0).bind fun r1 => (forS (fun (x2 : Int) (s5 : (List Int)) => (if ((!decide (x2 = a2)) && (!isIn (x2, a2) a1)) = true then ((appO s5 x2).bind fun v6 => some v6) else (some s5))) r1 ([] : List Int)).bind fun s5 => some s5
theorem sim__law_senders (a0 : Int) (a1 : List (Int × Int)) (a2 : Int) (r : List Int) (h : P__law_senders a0 a1 a2 = some r) : F__law_senders [D.int a0, e_TP2II a1, D.int a2] = .ok (e_TI r) := by
  refine def_F (e := e_TI) [some (D.int a0), some (e_TP2II a1), some (D.int a2), none, none] rfl rfl (fun _ _ q => nomatch q) h (sm_last ?_)
  unfold f__law_senders P__law_senders
  refine sm_as ?_
  refine sm_n (ev_asg (ev_lst ev_nil isFs_nil (short_ _ 0 rfl (by decide))) (fun _ q => nomatch q)) ?_
  refine sm_as ?_
  refine sm_need fun r1 hr1 => ?_
  refine sm_forS (e := D.int) (fun (s5 : (List Int)) A => ∃ j4 : Option D, A = [some (D.int a0), some (e_TP2II a1), some (D.int a2), some (e_MI s5), j4]) ((ev_rangeO (ev_var rfl (enc_int.f _)) hr1)) ⟨_, rfl⟩ (fun x2 s5 _ hR => ?_) ?_
  · obtain ⟨j4, rfl⟩ := hR
    refine ⟨[some (D.int a0), some (e_TP2II a1), some (D.int a2), some (e_MI s5), some (D.int x2)], rfl, sm_last ?_⟩
    refine sm_ifs ((ev_and2 (ev_B (ev_bin (ev_var rfl (enc_int.f _)) (ev_var rfl (enc_int.f _)) gNe_int)) (fun _ => (ev_B (ev_bin (ev_tup (ev_cons (ev_var rfl (enc_int.f _)) (ev_cons (ev_var rfl (enc_int.f _)) ev_nil)) (isFs_cons (enc_int.f _) (isFs_cons (enc_int.f _) isFs_nil)) (short_ _ 2 rfl (by decide))) (ev_var rfl (k_TP2II.f _)) (gNotInX_s (gNotIn_v k_P2II (see_eq (k_P2II.see _ (x2, a2))) (sq_v (e := e_P2II) rfl dt_rfl)) rfl)))))) (fun hb => ?_) (fun hb => ?_)
    · refine sm_need fun v6 hv6 => ?_
      refine sm_n (ev_drop (ev_appO (e := D.int) (xs := s5) (x := x2) rfl (ev_var rfl (enc_int.f _)) rfl (fun _ q => nomatch q) hv6)) ?_
      exact sm_endC ⟨_, rfl⟩
    · refine sm_skip ?_
      exact sm_endC ⟨_, rfl⟩
  rintro s5 _ ⟨j4, rfl⟩
  exact sm_retF (ev_ret (ev_cb (ev_cons (ev_al rfl isF_mu) ev_nil) (gTuple_sq (es := List.map D.int s5) rfl (enc_int.fs _))) (fun _ q => nomatch q))
def P__law_view (a0 : (List Int) × (List (List (Int × Int)))) (a1 : Int) : Option (Int × (List (Option Int)) × (List (List (Option (List Int))))) :=
  (some ((a0.1.length : Int))).bind fun (hands_1 : Int) => (rgO hands_1).bind fun r2 => (compO r2 (fun (x3 : Int) => true) (fun (x3 : Int) => ([((x3, (0 : Int)), true)] : List ((Int × Int) × Bool)))).bind fun v4 => (forS (fun (x5 : Int × (List (Int × Int))) (s90 : (List (List ((Int × Int) × Bool)))) => ((rgO hands_1).bind fun r91 => (forS (fun (x92 : Int) (s119 : (List (List ((Int × Int) × Bool)))) => ((atI s90 x92).bind fun v120 => (dCopyO true (nkP NestedKey.num NestedKey.num) v120).bind fun v121 => (P__law_senders hands_1 x5.2 x92).bind fun v122 => (forS (fun (x123 : Int) (s128 : (List ((Int × Int) × Bool))) => ((atI s90 x123).bind fun v129 => (dUpdO (nkP NestedKey.num NestedKey.num) s128 v129).bind fun v130 => some v130)) v122 v121).bind fun s128 => (dPutO s128 (x92, (x5.1 + (1 : Int))) true).bind fun v131 => (appO s119 v131).bind fun v132 => some v132)) r91 ([] : List (List ((Int × Int) × Bool)))).bind fun s119 => some s119)) (enumL a0.2) v4).bind fun s90 => (repO ([none] : List (Option Int)) hands_1).bind fun v133 => (rgO hands_1).bind fun r134 => (forS (fun (x135 : Int) (s142 : (List (Option Int))) => ((atI s90 a1).bind fun v143 => if (dHas v143 (x135, (0 : Int))) = true then ((atI a0.1 x135).bind fun v144 => (setO s142 x135 (some v144)).bind fun v145 => some v145) else (some s142))) r134 v133).bind fun s142 => (forS (fun (x146 : Int × (List (Int × Int))) (s175 : (List (List (Option (List Int))))) => ((repO ([none] : List (Option (List Int))) hands_1).bind fun v176 => (rgO hands_1).bind fun r177 => (forS (fun (x178 : Int) (s185 : (List (Option (List Int)))) => ((atI s90 a1).bind fun v186 => if (dHas v186 (x178, (x146.1 + (1 : Int)))) = true then ((P__law_senders hands_1 x146.2 x178).bind fun v187 => (setO s185 x178 (some v187)).bind fun v188 => some v188) else (some s185))) r177 v176).bind fun s185 => (appO s175 s185).bind fun v189 => some v189)) (enumL a0.2) ([] : List (List (Option (List Int))))).bind fun s175 => some (a1, s142, s175)
theorem sim__law_view (a0 : (List Int) × (List (List (Int × Int)))) (a1 : Int) (r : Int × (List (Option Int)) × (List (List (Option (List Int))))) (h : P__law_view a0 a1 = some r) : F__law_view [e_P2TITTP2II a0, D.int a1] = .ok (e_P3ITOITTOTI r) := by
  refine def_F (e := e_P3ITOITTOTI) [some (e_P2TITTP2II a0), some (D.int a1), none, none, none, none, none, none, none, none, none, none, none] rfl rfl (fun _ _ q => nomatch q) h (sm_last ?_)
  unfold f__law_view P__law_view
  refine sm_as ?_
  refine sm_nl (fun (hands_1 : Int) => [some (e_P2TITTP2II a0), some (D.int a1), some (D.int hands_1), none, none, none, none, none, none, none, none, none, none]) (ev_asgF (ev_cb (ev_cons (ev_bin (ev_var rfl (k_P2TITTP2II.f _)) ev_C (gIxX_s (gIx_at rfl rfl (k_TI.f _)) rfl)) ev_nil) (gLenX_s (e1 := D.int) rfl)) (enc_int.f _)) fun hands_1 => ?_
  refine sm_as ?_
  refine sm_need fun r2 hr2 => ?_
  refine sm_need fun v4 hv4 => ?_
  refine sm_n (ev_asgF_G (ev_compO (e := D.int) (e' := e_DMnP2IIB) (ev_rangeO (ev_var rfl (enc_int.f _)) hr2) hv4 (fun _ _ q => nomatch q) (fun x3 => ⟨[some (e_P2TITTP2II a0), some (D.int a1), some (D.int hands_1), none, none, none, some (D.int x3), none, none, none, none, none, none], rfl, rfl, fun _ => (ev_dic1 (e1 := D.bl) (k := (x3, (0 : Int))) (v := true) key_P2II (ev_tup (ev_cons (ev_var rfl (enc_int.f _)) (ev_cons ev_C ev_nil)) (isFs_cons (enc_int.f _) (isFs_cons (enc_int.f _) isFs_nil)) (short_ _ 2 rfl (by decide))) ev_C (fun _ q => nomatch q)), rfl⟩)) (fun _ q => nomatch q) (z_MDMnP2IIB v4)) ?_
  refine sm_as ?_
  refine sm_forS (e := e_P2ITP2II) (fun (s90 : (List (List ((Int × Int) × Bool)))) A => ∃ j6 : Option D, ∃ j7 : Option D, ∃ j8 : Option D, ∃ j9 : Option D, ∃ j11 : Option D, ∃ j12 : Option D, A = [some (e_P2TITTP2II a0), some (D.int a1), some (D.int hands_1), some (e_LDLnP2IIB s90), none, none, j6, j7, j8, j9, none, j11, j12]) ((ev_enumT (e := e_TP2II) (ev_bin (ev_var rfl (k_P2TITTP2II.f _)) ev_C (gIxX_s (gIx_at rfl rfl (k_TTP2II.f _)) rfl)) k_TP2II.f)) ⟨_, _, _, _, _, _, rfl⟩ (fun x5 s90 _ hR => ?_) ?_
  · obtain ⟨j6, j7, j8, j9, j11, j12, rfl⟩ := hR
    refine ⟨[some (e_P2TITTP2II a0), some (D.int a1), some (D.int hands_1), some (e_LDLnP2IIB s90), none, none, j6, some (D.int x5.1), some (e_TP2II x5.2), j9, none, j11, j12], (set_tu2 (enc_int.f _) (k_TP2II.f _)), sm_last ?_⟩
    refine sm_as ?_
    refine sm_n (ev_asg (ev_lst ev_nil isFs_nil (short_ _ 0 rfl (by decide))) (fun _ q => nomatch q)) ?_
    refine sm_as ?_
    refine sm_need fun r91 hr91 => ?_
    refine sm_forS (e := D.int) (fun (s119 : (List (List ((Int × Int) × Bool)))) A => ∃ j6 : Option D, ∃ j11 : Option D, ∃ j12 : Option D, A = [some (e_P2TITTP2II a0), some (D.int a1), some (D.int hands_1), some (e_LDLnP2IIB s90), none, none, j6, some (D.int x5.1), some (e_TP2II x5.2), some (e_MDLnP2IIB s119), none, j11, j12]) ((ev_rangeO (ev_var rfl (enc_int.f _)) hr91)) ⟨_, _, _, rfl⟩ (fun x92 s119 _ hR => ?_) ?_
    · obtain ⟨j6, j11, j12, rfl⟩ := hR
      refine ⟨[some (e_P2TITTP2II a0), some (D.int a1), some (D.int hands_1), some (e_LDLnP2IIB s90), none, none, some (D.int x92), some (D.int x5.1), some (e_TP2II x5.2), some (e_MDLnP2IIB s119), none, j11, j12], rfl, sm_last ?_⟩
      refine sm_as ?_
      refine sm_need fun v120 hv120 => ?_
      refine sm_need fun v121 hv121 => ?_
      refine sm_n (ev_asg (ev_cb (ev_cons (ev_bin (ev_var rfl (k_LDLnP2IIB.f _)) (ev_var rfl (enc_int.f _)) (gIxX_s (gIx_o (e := e_DLnP2IIB) rfl hv120 (k_DLnP2IIB.f _)) rfl)) ev_nil) (gDictOf_d (e1 := D.bl) (kv := v120) key_P2II rfl enc_bl.f hv121)) (fun _ q => nomatch q)) ?_
      refine sm_as ?_
      refine sm_need fun v122 hv122 => ?_
      refine sm_forS (e := D.int) (fun (s128 : (List ((Int × Int) × Bool))) A => ∃ j12 : Option D, A = [some (e_P2TITTP2II a0), some (D.int a1), some (D.int hands_1), some (e_LDLnP2IIB s90), none, none, some (D.int x92), some (D.int x5.1), some (e_TP2II x5.2), some (e_MDLnP2IIB s119), none, some (e_DMnP2IIB s128), j12]) ((ev_itF (e := D.int) (ev_fcallN (ev_cons (ev_var rfl (enc_int.f _)) (ev_cons (ev_var rfl (k_TP2II.f _)) (ev_cons (ev_var rfl (enc_int.f _)) ev_nil))) (ar_F (enc_int.f hands_1) (ar_F (k_TP2II.f x5.2) (ar_F (enc_int.f x92) ar_nil))) (sim__law_senders hands_1 x5.2 x92 _ hv122)) (k_TI.f _) (iter_T enc_int.f))) ⟨_, rfl⟩ (fun x123 s128 _ hR => ?_) ?_
      · obtain ⟨j12, rfl⟩ := hR
        refine ⟨[some (e_P2TITTP2II a0), some (D.int a1), some (D.int hands_1), some (e_LDLnP2IIB s90), none, none, some (D.int x92), some (D.int x5.1), some (e_TP2II x5.2), some (e_MDLnP2IIB s119), none, some (e_DMnP2IIB s128), some (D.int x123)], rfl, sm_last ?_⟩
        refine sm_need fun v129 hv129 => ?_
        refine sm_need fun v130 hv130 => ?_
        refine sm_n (ev_drop (ev_upd (e1 := D.bl) (kv := s128) (kv2 := v129) key_P2II rfl (ev_bin (ev_var rfl (k_LDLnP2IIB.f _)) (ev_var rfl (enc_int.f _)) (gIxX_s (gIx_o (e := e_DLnP2IIB) rfl hv129 (k_DLnP2IIB.f _)) rfl)) (fun _ q => nomatch q) ((fz_FO k_DLnP2IIB) v129) rfl enc_bl.f hv130)) ?_
        exact sm_endC ⟨_, rfl⟩
      rintro s128 _ ⟨j12, rfl⟩
      refine sm_as ?_
      refine sm_need fun v131 hv131 => ?_
      refine sm_n (ev_setD (e1 := D.bl) (kv := s128) (k := (x92, (x5.1 + (1 : Int)))) (v := true) key_P2II ev_C (fun _ q => nomatch q) rfl (ev_tup (ev_cons (ev_var rfl (enc_int.f _)) (ev_cons (ev_bin (ev_var rfl (enc_int.f _)) ev_C gAdd_ok) ev_nil)) (isFs_cons (enc_int.f _) (isFs_cons (enc_int.f _) isFs_nil)) (short_ _ 2 rfl (by decide))) hv131) ?_
      refine sm_need fun v132 hv132 => ?_
      refine sm_n (ev_drop (ev_app_al (e := e_DLnP2IIB) (xs := s119) (x := v131) rfl (ev_al rfl isF_mdi) rfl (z_DMnP2IIB v131) rfl hv132)) ?_
      exact sm_endC ⟨_, _, _, rfl⟩
    rintro s119 _ ⟨j6, j11, j12, rfl⟩
    refine sm_n (ev_asgF_alG (ev_al rfl isF_mu) rfl (z_MDLnP2IIB s119) ((fz_FO k_LDLnP2IIB) s119)) ?_
    exact sm_endC ⟨_, _, _, _, _, _, rfl⟩
  rintro s90 _ ⟨j6, j7, j8, j9, j11, j12, rfl⟩
  refine sm_as ?_
  refine sm_need fun v133 hv133 => ?_
  refine sm_n (ev_asg (ev_bin (ev_lst (ev_cons ev_C ev_nil) (isFs_cons (k_N.f ()) isFs_nil) (short_ _ 1 rfl (by decide))) (ev_var rfl (enc_int.f _)) (gMul_repO (e := e_OI) rfl hv133 k_OI.f (fun _ q => nomatch q))) (fun _ q => nomatch q)) ?_
  refine sm_as ?_
  refine sm_n (ev_asg (ev_lst ev_nil isFs_nil (short_ _ 0 rfl (by decide))) (fun _ q => nomatch q)) ?_
  refine sm_as ?_
  refine sm_need fun r134 hr134 => ?_
  refine sm_forS (e := D.int) (fun (s142 : (List (Option Int))) A => ∃ j6 : Option D, ∃ j7 : Option D, ∃ j8 : Option D, ∃ j9 : Option D, ∃ j11 : Option D, ∃ j12 : Option D, A = [some (e_P2TITTP2II a0), some (D.int a1), some (D.int hands_1), some (e_LDLnP2IIB s90), some (e_MOI s142), some (D.mu []), j6, j7, j8, j9, none, j11, j12]) ((ev_rangeO (ev_var rfl (enc_int.f _)) hr134)) ⟨_, _, _, _, _, _, rfl⟩ (fun x135 s142 _ hR => ?_) ?_
  · obtain ⟨j6, j7, j8, j9, j11, j12, rfl⟩ := hR
    refine ⟨[some (e_P2TITTP2II a0), some (D.int a1), some (D.int hands_1), some (e_LDLnP2IIB s90), some (e_MOI s142), some (D.mu []), some (D.int x135), j7, j8, j9, none, j11, j12], rfl, sm_last ?_⟩
    refine sm_need fun v143 hv143 => ?_
    refine sm_ifs ((ev_B (ev_bin (ev_tup (ev_cons (ev_var rfl (enc_int.f _)) (ev_cons ev_C ev_nil)) (isFs_cons (enc_int.f _) (isFs_cons (enc_int.f _) isFs_nil)) (short_ _ 2 rfl (by decide))) (ev_bin (ev_var rfl (k_LDLnP2IIB.f _)) (ev_var rfl (enc_int.f _)) (gIxX_s (gIx_o (e := e_DLnP2IIB) rfl hv143 (k_DLnP2IIB.f _)) rfl)) (gInX_d (e1 := D.bl) (kv := v143) key_P2II rfl (k_P2II.see _ (x135, (0 : Int))))))) (fun hb => ?_) (fun hb => ?_)
    · refine sm_need fun v144 hv144 => ?_
      refine sm_need fun v145 hv145 => ?_
      refine sm_n (ev_setO (e := e_OI) (x := (some v144)) (ev_bin (ev_bin (ev_var rfl (k_P2TITTP2II.f _)) ev_C (gIxX_s (gIx_at rfl rfl (k_TI.f _)) rfl)) (ev_var rfl (enc_int.f _)) (gIxX_s (gIx_o (e := D.int) rfl hv144 (enc_int.f _)) rfl)) (isF_al (k_OI.f _)) rfl (ev_var rfl (enc_int.f _)) hv145) ?_
      exact sm_endC ⟨_, _, _, _, _, _, rfl⟩
    · refine sm_skip ?_
      exact sm_endC ⟨_, _, _, _, _, _, rfl⟩
  rintro s142 _ ⟨j6, j7, j8, j9, j11, j12, rfl⟩
  refine sm_as ?_
  refine sm_forS (e := e_P2ITP2II) (fun (s175 : (List (List (Option (List Int))))) A => ∃ j6 : Option D, ∃ j7 : Option D, ∃ j8 : Option D, ∃ j9 : Option D, ∃ j10 : Option D, ∃ j11 : Option D, ∃ j12 : Option D, A = [some (e_P2TITTP2II a0), some (D.int a1), some (D.int hands_1), some (e_LDLnP2IIB s90), some (e_MOI s142), some (e_MTOTI s175), j6, j7, j8, j9, j10, j11, j12]) ((ev_enumT (e := e_TP2II) (ev_bin (ev_var rfl (k_P2TITTP2II.f _)) ev_C (gIxX_s (gIx_at rfl rfl (k_TTP2II.f _)) rfl)) k_TP2II.f)) ⟨_, _, _, _, _, _, _, rfl⟩ (fun x146 s175 _ hR => ?_) ?_
  · obtain ⟨j6, j7, j8, j9, j10, j11, j12, rfl⟩ := hR
    refine ⟨[some (e_P2TITTP2II a0), some (D.int a1), some (D.int hands_1), some (e_LDLnP2IIB s90), some (e_MOI s142), some (e_MTOTI s175), j6, some (D.int x146.1), some (e_TP2II x146.2), j9, j10, j11, j12], (set_tu2 (enc_int.f _) (k_TP2II.f _)), sm_last ?_⟩
    refine sm_as ?_
    refine sm_need fun v176 hv176 => ?_
    refine sm_n (ev_asg (ev_bin (ev_lst (ev_cons ev_C ev_nil) (isFs_cons (k_N.f ()) isFs_nil) (short_ _ 1 rfl (by decide))) (ev_var rfl (enc_int.f _)) (gMul_repO (e := e_OTI) rfl hv176 k_OTI.f (fun _ q => nomatch q))) (fun _ q => nomatch q)) ?_
    refine sm_as ?_
    refine sm_need fun r177 hr177 => ?_
    refine sm_forS (e := D.int) (fun (s185 : (List (Option (List Int)))) A => ∃ j6 : Option D, ∃ j9 : Option D, ∃ j11 : Option D, ∃ j12 : Option D, A = [some (e_P2TITTP2II a0), some (D.int a1), some (D.int hands_1), some (e_LDLnP2IIB s90), some (e_MOI s142), some (e_MTOTI s175), j6, some (D.int x146.1), some (e_TP2II x146.2), j9, some (e_MOTI s185), j11, j12]) ((ev_rangeO (ev_var rfl (enc_int.f _)) hr177)) ⟨_, _, _, _, rfl⟩ (fun x178 s185 _ hR => ?_) ?_
    · obtain ⟨j6, j9, j11, j12, rfl⟩ := hR
      refine ⟨[some (e_P2TITTP2II a0), some (D.int a1), some (D.int hands_1), some (e_LDLnP2IIB s90), some (e_MOI s142), some (e_MTOTI s175), some (D.int x178), some (D.int x146.1), some (e_TP2II x146.2), j9, some (e_MOTI s185), j11, j12], rfl, sm_last ?_⟩
      refine sm_need fun v186 hv186 => ?_
      refine sm_ifs ((ev_B (ev_bin (ev_tup (ev_cons (ev_var rfl (enc_int.f _)) (ev_cons (ev_bin (ev_var rfl (enc_int.f _)) ev_C gAdd_ok) ev_nil)) (isFs_cons (enc_int.f _) (isFs_cons (enc_int.f _) isFs_nil)) (short_ _ 2 rfl (by decide))) (ev_bin (ev_var rfl (k_LDLnP2IIB.f _)) (ev_var rfl (enc_int.f _)) (gIxX_s (gIx_o (e := e_DLnP2IIB) rfl hv186 (k_DLnP2IIB.f _)) rfl)) (gInX_d (e1 := D.bl) (kv := v186) key_P2II rfl (k_P2II.see _ (x178, (x146.1 + (1 : Int)))))))) (fun hb => ?_) (fun hb => ?_)
      · refine sm_need fun v187 hv187 => ?_
        refine sm_need fun v188 hv188 => ?_
        refine sm_n (ev_setO (e := e_OTI) (x := (some v187)) (ev_fcallN (ev_cons (ev_var rfl (enc_int.f _)) (ev_cons (ev_var rfl (k_TP2II.f _)) (ev_cons (ev_var rfl (enc_int.f _)) ev_nil))) (ar_F (enc_int.f hands_1) (ar_F (k_TP2II.f x146.2) (ar_F (enc_int.f x178) ar_nil))) (sim__law_senders hands_1 x146.2 x178 _ hv187)) (isF_al (k_OTI.f _)) rfl (ev_var rfl (enc_int.f _)) hv188) ?_
        exact sm_endC ⟨_, _, _, _, rfl⟩
      · refine sm_skip ?_
        exact sm_endC ⟨_, _, _, _, rfl⟩
    rintro s185 _ ⟨j6, j9, j11, j12, rfl⟩
    refine sm_need fun v189 hv189 => ?_
    refine sm_n (ev_drop (ev_appO (e := e_TOTI) (xs := s175) (x := s185) rfl (ev_cb (ev_cons (ev_al rfl isF_mu) ev_nil) (gTuple_sq (es := List.map e_OTI s185) rfl (k_OTI.fs _))) rfl (fun _ q => nomatch q) hv189)) ?_
    exact sm_endC ⟨_, _, _, _, _, _, _, rfl⟩
  rintro s175 _ ⟨j6, j7, j8, j9, j10, j11, j12, rfl⟩
  exact sm_retF (ev_ret (ev_tup (ev_cons (ev_var rfl (enc_int.f _)) (ev_cons (ev_cb (ev_cons (ev_al rfl isF_mu) ev_nil) (gTuple_sq (es := List.map e_OI s142) rfl (k_OI.fs _))) (ev_cons (ev_cb (ev_cons (ev_al rfl isF_mu) ev_nil) (gTuple_sq (es := List.map e_TOTI s175) rfl (k_TOTI.fs _))) ev_nil))) (isFs_cons (enc_int.f _) (isFs_cons (k_TOI.f _) (isFs_cons (k_TTOTI.f _) isFs_nil))) (short_ _ 3 rfl (by decide))) (fun _ q => nomatch q))
def P__law_parts (a0 : Int) (a1 : List ((Int × (List (List (Option (List Int))))) × (List Int))) : Option (List (List Int)) :=
  (rgLO a0).bind fun v1 => (whileS (fun (s78 : (List Int) × Bool) => some s78.2) (fun (s78 : (List Int) × Bool) => ((forS (fun (x79 : (Int × (List (List (Option (List Int))))) × (List Int)) (s104 : (List Int) × Bool) => ((compP x79.2 (fun (x105 : Int) => some true) (fun (x105 : Int) => (atI s104.1 x105).bind fun v106 => some v106)).bind fun v107 => (minI v107).bind fun v108 => (forS (fun (x109 : Int) (s114 : (List Int) × Bool) => ((atI s114.1 x109).bind fun v115 => if (decide (v108 < v115)) = true then ((setO s114.1 x109 v108).bind fun v116 => some (v116, true)) else (some (s114.1, s114.2)))) x79.2 (s104.1, s104.2)).bind fun s114 => some (s114.1, s114.2))) a1 (s78.1, false)).bind fun s104 => some (s104.1, s104.2))) 1000000 (v1, true)).bind fun s78 => (rgO a0).bind fun r117 => (forS (fun (x118 : Int) (s131 : (List (List Int))) => ((atI s78.1 x118).bind fun v132 => if (decide (v132 = x118)) = true then ((rgO a0).bind fun r133 => (compP r133 (fun (x134 : Int) => (atI s78.1 x134).bind fun v135 => some (decide (v135 = x118))) (fun (x134 : Int) => some x134)).bind fun v136 => (appO s131 v136).bind fun v137 => some v137) else (some s131))) r117 ([] : List (List Int))).bind fun s131 => some s131
theorem sim__law_parts (a0 : Int) (a1 : List ((Int × (List (List (Option (List Int))))) × (List Int))) (r : List (List Int)) (h : P__law_parts a0 a1 = some r) : F__law_parts [D.int a0, e_DLnP2ITTOTILI a1] = .ok (e_MMI r) := by
  refine def_F (e := e_MMI) [some (D.int a0), some (e_DLnP2ITTOTILI a1), none, none, none, none, none, none, none, none] rfl rfl (fun _ _ q => nomatch q) h (sm_last ?_)
  unfold f__law_parts P__law_parts
  refine sm_as ?_
  refine sm_need fun v1 hv1 => ?_
  refine sm_n (ev_asg (ev_listRange (ev_var rfl (enc_int.f _)) hv1) (fun _ q => nomatch q)) ?_
  refine sm_as ?_
  refine sm_n (ev_asgF ev_C (enc_bl.f _)) ?_
  refine sm_as ?_
  refine sm_whileS (fun (s78 : (List Int) × Bool) A => ∃ j6 : Option D, ∃ j7 : Option D, ∃ j8 : Option D, ∃ j9 : Option D, A = [some (D.int a0), some (e_DLnP2ITTOTILI a1), some (e_MI s78.1), some (D.bl s78.2), none, none, j6, j7, j8, j9]) ⟨_, _, _, _, rfl⟩ (fun s78 _ _ hR q => ?_) (fun s78 _ hR _ => ?_) ?_
  · obtain ⟨j6, j7, j8, j9, rfl⟩ := hR
    exact (by cases q; exact (ev_B (ev_var rfl (enc_bl.f _))))
  · obtain ⟨j6, j7, j8, j9, rfl⟩ := hR
    refine sm_last ?_
    refine sm_as ?_
    refine sm_n (ev_asgF ev_C (enc_bl.f _)) ?_
    refine sm_forS (e := e_P2P2ITTOTILI) (fun (s104 : (List Int) × Bool) A => ∃ j6 : Option D, ∃ j7 : Option D, ∃ j8 : Option D, ∃ j9 : Option D, A = [some (D.int a0), some (e_DLnP2ITTOTILI a1), some (e_MI s104.1), some (D.bl s104.2), none, none, j6, j7, j8, j9]) ((ev_items (kv := a1) (ev_var rfl (k_DLnP2ITTOTILI.f _)) (fun _ q => nomatch q) ((fz_FO k_DLnP2ITTOTILI) a1))) ⟨_, _, _, _, rfl⟩ (fun x79 s104 _ hR => ?_) ?_
    · obtain ⟨j6, j7, j8, j9, rfl⟩ := hR
      refine ⟨[some (D.int a0), some (e_DLnP2ITTOTILI a1), some (e_MI s104.1), some (D.bl s104.2), none, none, some (e_P2ITTOTI x79.1), some (e_LI x79.2), j8, j9], (set_tu2 (k_P2ITTOTI.f _) (k_LI.f _)), sm_last ?_⟩
      refine sm_as ?_
      refine sm_need fun v107 hv107 => ?_
      refine sm_need fun v108 hv108 => ?_
      refine sm_n (ev_asgF (ev_cb (ev_cons (ev_compP (e := D.int) (e' := D.int) (ev_itF (e := D.int) (ev_var rfl (k_LI.f _)) (k_LI.f _) rfl) hv107 (fun _ _ q => nomatch q) (fun x105 => ⟨[some (D.int a0), some (e_DLnP2ITTOTILI a1), some (e_MI s104.1), some (D.bl s104.2), none, none, some (e_P2ITTOTI x79.1), some (e_LI x79.2), j8, some (D.int x105)], rfl, fun _ q => (by cases q; exact rfl), fun _ _ q => (by obtain ⟨v106, hv106, q⟩ := of_bind q; cases q; exact (ev_bin (ev_al rfl isF_mu) (ev_var rfl (enc_int.f _)) (gIxX_s (gIx_o (e := D.int) rfl hv106 (enc_int.f _)) rfl))), rfl⟩)) ev_nil) (gMinL_o (xs := v107) rfl hv108)) (enc_int.f _)) ?_
      refine sm_forS (e := D.int) (fun (s114 : (List Int) × Bool) A => ∃ j9 : Option D, A = [some (D.int a0), some (e_DLnP2ITTOTILI a1), some (e_MI s114.1), some (D.bl s114.2), none, none, some (e_P2ITTOTI x79.1), some (e_LI x79.2), some (D.int v108), j9]) ((ev_itF (e := D.int) (ev_var rfl (k_LI.f _)) (k_LI.f _) rfl)) ⟨_, rfl⟩ (fun x109 s114 _ hR => ?_) ?_
      · obtain ⟨j9, rfl⟩ := hR
        refine ⟨[some (D.int a0), some (e_DLnP2ITTOTILI a1), some (e_MI s114.1), some (D.bl s114.2), none, none, some (e_P2ITTOTI x79.1), some (e_LI x79.2), some (D.int v108), some (D.int x109)], rfl, sm_last ?_⟩
        refine sm_need fun v115 hv115 => ?_
        refine sm_ifs ((ev_B (ev_bin (ev_bin (ev_al rfl isF_mu) (ev_var rfl (enc_int.f _)) (gIxX_s (gIx_o (e := D.int) rfl hv115 (enc_int.f _)) rfl)) (ev_var rfl (enc_int.f _)) gGt_ok))) (fun hb => ?_) (fun hb => ?_)
        · refine sm_as ?_
          refine sm_need fun v116 hv116 => ?_
          refine sm_n (ev_setO (e := D.int) (x := v108) (ev_var rfl (enc_int.f _)) (fun _ q => nomatch q) rfl (ev_var rfl (enc_int.f _)) hv116) ?_
          refine sm_n (ev_asgF ev_C (enc_bl.f _)) ?_
          exact sm_endC ⟨_, rfl⟩
        · refine sm_skip ?_
          exact sm_endC ⟨_, rfl⟩
      rintro s114 _ ⟨j9, rfl⟩
      exact sm_endC ⟨_, _, _, _, rfl⟩
    rintro s104 _ ⟨j6, j7, j8, j9, rfl⟩
    exact sm_endC ⟨_, _, _, _, rfl⟩
  rintro s78 _ ⟨j6, j7, j8, j9, rfl⟩
  refine sm_as ?_
  refine sm_n (ev_asg (ev_lst ev_nil isFs_nil (short_ _ 0 rfl (by decide))) (fun _ q => nomatch q)) ?_
  refine sm_as ?_
  refine sm_need fun r117 hr117 => ?_
  refine sm_forS (e := D.int) (fun (s131 : (List (List Int))) A => ∃ j5 : Option D, ∃ j6 : Option D, ∃ j7 : Option D, ∃ j8 : Option D, ∃ j9 : Option D, A = [some (D.int a0), some (e_DLnP2ITTOTILI a1), some (e_MI s78.1), some (D.bl s78.2), some (e_MMI s131), j5, j6, j7, j8, j9]) ((ev_rangeO (ev_var rfl (enc_int.f _)) hr117)) ⟨_, _, _, _, _, rfl⟩ (fun x118 s131 _ hR => ?_) ?_
  · obtain ⟨j5, j6, j7, j8, j9, rfl⟩ := hR
    refine ⟨[some (D.int a0), some (e_DLnP2ITTOTILI a1), some (e_MI s78.1), some (D.bl s78.2), some (e_MMI s131), some (D.int x118), j6, j7, j8, j9], rfl, sm_last ?_⟩
    refine sm_need fun v132 hv132 => ?_
    refine sm_ifs ((ev_B (ev_bin (ev_bin (ev_al rfl isF_mu) (ev_var rfl (enc_int.f _)) (gIxX_s (gIx_o (e := D.int) rfl hv132 (enc_int.f _)) rfl)) (ev_var rfl (enc_int.f _)) gEq_int))) (fun hb => ?_) (fun hb => ?_)
    · refine sm_need fun r133 hr133 => ?_
      refine sm_need fun v136 hv136 => ?_
      refine sm_need fun v137 hv137 => ?_
      refine sm_n (ev_drop (ev_appO (e := e_MI) (xs := s131) (x := v136) rfl (ev_compP (e := D.int) (e' := D.int) (ev_rangeO (ev_var rfl (enc_int.f _)) hr133) hv136 (fun _ _ q => nomatch q) (fun x134 => ⟨[some (D.int a0), some (e_DLnP2ITTOTILI a1), some (e_MI s78.1), some (D.bl s78.2), some (e_MMI s131), some (D.int x118), j6, j7, j8, some (D.int x134)], rfl, fun _ q => (by obtain ⟨v135, hv135, q⟩ := of_bind q; cases q; exact (ev_B (ev_bin (ev_bin (ev_al rfl isF_mu) (ev_var rfl (enc_int.f _)) (gIxX_s (gIx_o (e := D.int) rfl hv135 (enc_int.f _)) rfl)) (ev_var rfl (enc_int.f _)) gEq_int))), fun _ _ q => (by cases q; exact (ev_var rfl (enc_int.f _))), rfl⟩)) rfl (fun _ q => nomatch q) hv137)) ?_
      exact sm_endC ⟨_, _, _, _, _, rfl⟩
    · refine sm_skip ?_
      exact sm_endC ⟨_, _, _, _, _, rfl⟩
  rintro s131 _ ⟨j5, j6, j7, j8, j9, rfl⟩
  exact sm_retF (ev_ret_alG (ev_al rfl isF_mu) rfl)
def P__law_came_parts (a0 : Int) (a1 : List (List (List (Int × Int)))) : Option (List (List Int)) :=
  (forS (fun (x1 : Int × (List (List (Int × Int)))) (s26 : (List ((Int × (List (List (Option (List Int))))) × (List Int)))) => ((rgO a0).bind fun r27 => (forS (fun (x28 : Int) (s35 : (List ((Int × (List (List (Option (List Int))))) × (List Int)))) => ((repT ([(0 : Int)] : List Int) a0).bind fun v36 => (P__law_view (v36, x1.2) x28).bind fun v37 => (dSda s35 (x28, v37.2.2) x1.1).bind fun v38 => some v38)) r27 s26).bind fun s35 => some s35)) (enumL a1) ([] : List ((Int × (List (List (Option (List Int))))) × (List Int)))).bind fun s26 => (P__law_parts (a1.length : Int) s26).bind fun v39 => some v39
theorem sim__law_came_parts (a0 : Int) (a1 : List (List (List (Int × Int)))) (r : List (List Int)) (h : P__law_came_parts a0 a1 = some r) : F__law_came_parts [D.int a0, e_LTTP2II a1] = .ok (e_MMI r) := by
  refine def_F (e := e_MMI) [some (D.int a0), some (e_LTTP2II a1), none, none, none, none] rfl rfl (fun _ _ q => nomatch q) h (sm_last ?_)
  unfold f__law_came_parts P__law_came_parts
  refine sm_as ?_
  refine sm_n (ev_asg (ev_dic0 (κ := Int) (ν := Int) (e := D.int) (e1 := D.int)) (fun _ q => nomatch q)) ?_
  refine sm_as ?_
  refine sm_forS (e := e_P2ITTP2II) (fun (s26 : (List ((Int × (List (List (Option (List Int))))) × (List Int)))) A => ∃ j3 : Option D, ∃ j4 : Option D, ∃ j5 : Option D, A = [some (D.int a0), some (e_LTTP2II a1), some (e_DMnP2ITTOTIMI s26), j3, j4, j5]) ((ev_enumL (e := e_TTP2II) (ev_var rfl (k_LTTP2II.f _)) k_TTP2II.f)) ⟨_, _, _, rfl⟩ (fun x1 s26 _ hR => ?_) ?_
  · obtain ⟨j3, j4, j5, rfl⟩ := hR
    refine ⟨[some (D.int a0), some (e_LTTP2II a1), some (e_DMnP2ITTOTIMI s26), some (D.int x1.1), some (e_TTP2II x1.2), j5], (set_tu2 (enc_int.f _) (k_TTP2II.f _)), sm_last ?_⟩
    refine sm_need fun r27 hr27 => ?_
    refine sm_forS (e := D.int) (fun (s35 : (List ((Int × (List (List (Option (List Int))))) × (List Int)))) A => ∃ j5 : Option D, A = [some (D.int a0), some (e_LTTP2II a1), some (e_DMnP2ITTOTIMI s35), some (D.int x1.1), some (e_TTP2II x1.2), j5]) ((ev_rangeO (ev_var rfl (enc_int.f _)) hr27)) ⟨_, rfl⟩ (fun x28 s35 _ hR => ?_) ?_
    · obtain ⟨j5, rfl⟩ := hR
      refine ⟨[some (D.int a0), some (e_LTTP2II a1), some (e_DMnP2ITTOTIMI s35), some (D.int x1.1), some (e_TTP2II x1.2), some (D.int x28)], rfl, sm_last ?_⟩
      refine sm_need fun v36 hv36 => ?_
      refine sm_need fun v37 hv37 => ?_
      refine sm_need fun v38 hv38 => ?_
      refine sm_n (ev_drop (ev_sda (ea := D.int) (kd := s35) (x := x1.1) key_P2ITTOTI rfl (ev_tup (ev_cons (ev_var rfl (enc_int.f _)) (ev_cons (ev_bin (ev_fcallN (ev_cons (ev_tup (ev_cons (ev_bin (ev_tup (ev_cons ev_C ev_nil) (isFs_cons (enc_int.f _) isFs_nil) (short_ _ 1 rfl (by decide))) (ev_var rfl (enc_int.f _)) (gMulT_o (e := D.int) rfl hv36 enc_int.f)) (ev_cons (ev_var rfl (k_TTP2II.f _)) ev_nil)) (isFs_cons (k_TI.f _) (isFs_cons (k_TTP2II.f _) isFs_nil)) (short_ _ 2 rfl (by decide))) (ev_cons (ev_var rfl (enc_int.f _)) ev_nil)) (ar_F (k_P2TITTP2II.f (v36, x1.2)) (ar_F (enc_int.f x28) ar_nil)) (sim__law_view (v36, x1.2) x28 _ hv37)) ev_C (gIxX_s (gIx_at rfl rfl (k_TTOTI.f _)) rfl)) ev_nil)) (isFs_cons (enc_int.f _) (isFs_cons (k_TTOTI.f _) isFs_nil)) (short_ _ 2 rfl (by decide))) rfl rfl enc_int.f hv38)) ?_
      exact sm_endC ⟨_, rfl⟩
    rintro s35 _ ⟨j5, rfl⟩
    exact sm_endC ⟨_, _, _, rfl⟩
  rintro s26 _ ⟨j3, j4, j5, rfl⟩
  refine sm_need fun v39 hv39 => ?_
  exact sm_retF (ev_ret (ev_fcall (ev_cons (ev_cb (ev_cons (ev_var rfl (k_LTTP2II.f _)) ev_nil) (gLenX_s (e1 := e_TTP2II) rfl)) (ev_cons (ev_al rfl isF_mdi) ev_nil)) (ar_F (enc_int.f (a1.length : Int)) (ar_al rfl (z_DMnP2ITTOTIMI s26) ((fz_FO k_DLnP2ITTOTILI) s26) ar_nil)) (sim__law_parts (a1.length : Int) s26 _ hv39) rfl) (fun _ q => nomatch q))
def P__law_heard_by_all (a0 : Int) (a1 : List (List (Int × Int))) : Option (List Int) :=
  (rgLO a0).bind fun v1 => (rgO a0).bind fun r2 => (forS (fun (x3 : Int) (s14 : (List Int)) => ((rgLO a0).bind fun v15 => (P__law_view (v15, a1) x3).bind fun v16 => (compP s14 (fun (x17 : Int) => (atI v16.2.1 x17).bind fun v18 => some (v18.isSome)) (fun (x17 : Int) => some x17)).bind fun v19 => some v19)) r2 v1).bind fun s14 => some s14
theorem sim__law_heard_by_all (a0 : Int) (a1 : List (List (Int × Int))) (r : List Int) (h : P__law_heard_by_all a0 a1 = some r) : F__law_heard_by_all [D.int a0, e_TTP2II a1] = .ok (e_MI r) := by
  refine def_F (e := e_MI) [some (D.int a0), some (e_TTP2II a1), none, none, none, none] rfl rfl (fun _ _ q => nomatch q) h (sm_last ?_)
  unfold f__law_heard_by_all P__law_heard_by_all
  refine sm_as ?_
  refine sm_need fun v1 hv1 => ?_
  refine sm_n (ev_asg (ev_listRange (ev_var rfl (enc_int.f _)) hv1) (fun _ q => nomatch q)) ?_
  refine sm_as ?_
  refine sm_need fun r2 hr2 => ?_
  refine sm_forS (e := D.int) (fun (s14 : (List Int)) A => ∃ j3 : Option D, ∃ j4 : Option D, A = [some (D.int a0), some (e_TTP2II a1), some (e_MI s14), j3, j4, none]) ((ev_rangeO (ev_var rfl (enc_int.f _)) hr2)) ⟨_, _, rfl⟩ (fun x3 s14 _ hR => ?_) ?_
  · obtain ⟨j3, j4, rfl⟩ := hR
    refine ⟨[some (D.int a0), some (e_TTP2II a1), some (e_MI s14), some (D.int x3), j4, none], rfl, sm_last ?_⟩
    refine sm_as ?_
    refine sm_need fun v15 hv15 => ?_
    refine sm_need fun v16 hv16 => ?_
    refine sm_n (ev_asgF (ev_bin (ev_fcallN (ev_cons (ev_tup (ev_cons (ev_tupRange (ev_var rfl (enc_int.f _)) hv15) (ev_cons (ev_var rfl (k_TTP2II.f _)) ev_nil)) (isFs_cons (k_TI.f _) (isFs_cons (k_TTP2II.f _) isFs_nil)) (short_ _ 2 rfl (by decide))) (ev_cons (ev_var rfl (enc_int.f _)) ev_nil)) (ar_F (k_P2TITTP2II.f (v15, a1)) (ar_F (enc_int.f x3) ar_nil)) (sim__law_view (v15, a1) x3 _ hv16)) ev_C (gIxX_s (gIx_at rfl rfl (k_TOI.f _)) rfl)) (k_TOI.f _)) ?_
    refine sm_need fun v19 hv19 => ?_
    refine sm_n (ev_asg (ev_compP (e := D.int) (e' := D.int) (ev_itA (es := List.map D.int s14) (ev_al rfl isF_mu) rfl (z_MI s14) ((fz_F k_LI) s14) rfl) hv19 (fun _ _ q => nomatch q) (fun x17 => ⟨[some (D.int a0), some (e_TTP2II a1), some (e_LI s14), some (D.int x3), some (e_TOI v16.2.1), some (D.int x17)], rfl, fun _ q => (by obtain ⟨v18, hv18, q⟩ := of_bind q; cases q; exact (ev_B (ev_bin (ev_bin (ev_var rfl (k_TOI.f _)) (ev_var rfl (enc_int.f _)) (gIxX_s (gIx_o (e := e_OI) rfl hv18 (k_OI.f _)) rfl)) ev_C (gNotN_O (fun x => (nnon_I x)))))), fun _ _ q => (by cases q; exact (ev_var rfl (enc_int.f _))), rfl⟩)) (fun _ q => nomatch q)) ?_
    exact sm_endC ⟨_, _, rfl⟩
  rintro s14 _ ⟨j3, j4, rfl⟩
  exact sm_retF (ev_ret_alG (ev_al rfl isF_mu) rfl)
def P_many_rows (a0 : List (List (Int × Int))) (a1 : Int) : Option Int :=
  (rgO a1).bind fun r1 => (forS (fun (x2 : Int) (s5 : Int) => ((mulO s5 (a0.length : Int)).bind fun v6 => some v6)) r1 (1 : Int)).bind fun s5 => some s5
theorem sim_many_rows (a0 : List (List (Int × Int))) (a1 : Int) (r : Int) (h : P_many_rows a0 a1 = some r) : F_many_rows [e_LTP2II a0, D.int a1] = .ok (D.int r) := by
  refine def_F (e := D.int) [some (e_LTP2II a0), some (D.int a1), none, none] rfl rfl (fun _ _ q => nomatch q) h (sm_last ?_)
  unfold f_many_rows P_many_rows
  refine sm_as ?_
  refine sm_n (ev_asg ev_C (fun _ q => nomatch q)) ?_
  refine sm_as ?_
  refine sm_need fun r1 hr1 => ?_
  refine sm_forS (e := D.int) (fun (s5 : Int) A => ∃ j3 : Option D, A = [some (e_LTP2II a0), some (D.int a1), some (D.int s5), j3]) ((ev_rangeO (ev_var rfl (enc_int.f _)) hr1)) ⟨_, rfl⟩ (fun x2 s5 _ hR => ?_) ?_
  · obtain ⟨j3, rfl⟩ := hR
    refine ⟨[some (e_LTP2II a0), some (D.int a1), some (D.int s5), some (D.int x2)], rfl, sm_last ?_⟩
    refine sm_need fun v6 hv6 => ?_
    refine sm_n (ev_asg (ev_bin (ev_var rfl (enc_int.f _)) (ev_cb (ev_cons (ev_var rfl (k_LTP2II.f _)) ev_nil) (gLenX_s (e1 := e_TP2II) rfl)) (gMul_o hv6)) (fun _ q => nomatch q)) ?_
    exact sm_endC ⟨_, rfl⟩
  rintro s5 _ ⟨j3, rfl⟩
  exact sm_retF (ev_ret (ev_var rfl (enc_int.f _)) (fun _ q => nomatch q))
def P_many_runs (a0 : List (List (Int × Int))) (a1 : Int) (a2 : List (List Int)) : Option Int :=
  (P_many_rows a0 a1).bind fun v1 => (mulO (a2.length : Int) v1).bind fun v2 => some v2
theorem sim_many_runs (a0 : List (List (Int × Int))) (a1 : Int) (a2 : List (List Int)) (r : Int) (h : P_many_runs a0 a1 a2 = some r) : F_many_runs [e_LTP2II a0, D.int a1, e_LTI a2] = .ok (D.int r) := by
  refine def_F (e := D.int) [some (e_LTP2II a0), some (D.int a1), some (e_LTI a2)] rfl rfl (fun _ _ q => nomatch q) h (sm_last ?_)
  unfold f_many_runs P_many_runs
  refine sm_need fun v1 hv1 => ?_
  refine sm_need fun v2 hv2 => ?_
  exact sm_retF (ev_ret (ev_bin (ev_cb (ev_cons (ev_var rfl (k_LTI.f _)) ev_nil) (gLenX_s (e1 := e_TI) rfl)) (ev_fcallS (ev_cons (ev_var rfl (k_LTP2II.f _)) (ev_cons (ev_var rfl (enc_int.f _)) ev_nil)) (ar_F (k_LTP2II.f a0) (ar_F (enc_int.f a1) ar_nil)) (sim_many_rows a0 a1 _ hv1) rfl) (gMul_o hv2)) (fun _ q => nomatch q))
def P_row_at (a0 : List (List (Int × Int))) (a1 : Int) (a2 : Int) : Option (List (List (Int × Int))) :=
  (rgO a1).bind fun r1 => (forS (fun (x2 : Int) (s11 : Int × (List (List (Int × Int)))) => ((modO s11.1 (a0.length : Int)).bind fun v12 => (atI a0 v12).bind fun v13 => (appO s11.2 v13).bind fun v14 => (divO s11.1 (a0.length : Int)).bind fun v15 => some (v15, v14))) r1 (a2, ([] : List (List (Int × Int))))).bind fun s11 => some s11.2.reverse
theorem sim_row_at (a0 : List (List (Int × Int))) (a1 : Int) (a2 : Int) (r : List (List (Int × Int))) (h : P_row_at a0 a1 a2 = some r) : F_row_at [e_LTP2II a0, D.int a1, D.int a2] = .ok (e_TTP2II r) := by
  refine def_F (e := e_TTP2II) [some (e_LTP2II a0), some (D.int a1), some (D.int a2), none, none] rfl rfl (fun _ _ q => nomatch q) h (sm_last ?_)
  unfold f_row_at P_row_at
  refine sm_as ?_
  refine sm_n (ev_asg (ev_lst ev_nil isFs_nil (short_ _ 0 rfl (by decide))) (fun _ q => nomatch q)) ?_
  refine sm_as ?_
  refine sm_need fun r1 hr1 => ?_
  refine sm_forS (e := D.int) (fun (s11 : Int × (List (List (Int × Int)))) A => ∃ j4 : Option D, A = [some (e_LTP2II a0), some (D.int a1), some (D.int s11.1), some (e_MTP2II s11.2), j4]) ((ev_rangeO (ev_var rfl (enc_int.f _)) hr1)) ⟨_, rfl⟩ (fun x2 s11 _ hR => ?_) ?_
  · obtain ⟨j4, rfl⟩ := hR
    refine ⟨[some (e_LTP2II a0), some (D.int a1), some (D.int s11.1), some (e_MTP2II s11.2), some (D.int x2)], rfl, sm_last ?_⟩
    refine sm_as ?_
    refine sm_need fun v12 hv12 => ?_
    refine sm_need fun v13 hv13 => ?_
    refine sm_need fun v14 hv14 => ?_
    refine sm_n (ev_drop (ev_appO (e := e_TP2II) (xs := s11.2) (x := v13) rfl (ev_bin (ev_var rfl (k_LTP2II.f _)) (ev_bin (ev_var rfl (enc_int.f _)) (ev_cb (ev_cons (ev_var rfl (k_LTP2II.f _)) ev_nil) (gLenX_s (e1 := e_TP2II) rfl)) (gMod_o hv12)) (gIxX_s (gIx_o (e := e_TP2II) rfl hv13 (k_TP2II.f _)) rfl)) rfl (fun _ q => nomatch q) hv14)) ?_
    refine sm_need fun v15 hv15 => ?_
    refine sm_n (ev_asgF (ev_bin (ev_var rfl (enc_int.f _)) (ev_cb (ev_cons (ev_var rfl (k_LTP2II.f _)) ev_nil) (gLenX_s (e1 := e_TP2II) rfl)) (gDiv_o hv15)) (enc_int.f _)) ?_
    exact sm_endC ⟨_, rfl⟩
  rintro s11 _ ⟨j4, rfl⟩
  exact sm_retF (ev_ret (ev_cb (ev_cons (ev_slS (ev_al rfl isF_mu) ev_noPart ev_noPart (ev_part (ev_un ev_C rfl)) (gSlS_lrev (f := e_TP2II) rfl (k_TP2II.fs _))) ev_nil) (gTuple_sq (es := List.map e_TP2II s11.2.reverse) rfl (k_TP2II.fs _))) (fun _ q => nomatch q))
def P_run_at (a0 : List (List (Int × Int))) (a1 : Int) (a2 : List (List Int)) (a3 : Int) : Option ((List Int) × (List (List (Int × Int)))) :=
  (P_many_rows a0 a1).bind fun v1 => (divO a3 v1).bind fun v2 => (atI a2 v2).bind fun v3 => (modO a3 v1).bind fun v4 => (P_row_at a0 a1 v4).bind fun v5 => some (v3, v5)
theorem sim_run_at (a0 : List (List (Int × Int))) (a1 : Int) (a2 : List (List Int)) (a3 : Int) (r : (List Int) × (List (List (Int × Int)))) (h : P_run_at a0 a1 a2 a3 = some r) : F_run_at [e_LTP2II a0, D.int a1, e_LTI a2, D.int a3] = .ok (e_P2TITTP2II r) := by
  refine def_F (e := e_P2TITTP2II) [some (e_LTP2II a0), some (D.int a1), some (e_LTI a2), some (D.int a3), none] rfl rfl (fun _ _ q => nomatch q) h (sm_last ?_)
  unfold f_run_at P_run_at
  refine sm_as ?_
  refine sm_need fun v1 hv1 => ?_
  refine sm_n (ev_asgF (ev_fcallS (ev_cons (ev_var rfl (k_LTP2II.f _)) (ev_cons (ev_var rfl (enc_int.f _)) ev_nil)) (ar_F (k_LTP2II.f a0) (ar_F (enc_int.f a1) ar_nil)) (sim_many_rows a0 a1 _ hv1) rfl) (enc_int.f _)) ?_
  refine sm_need fun v2 hv2 => ?_
  refine sm_need fun v3 hv3 => ?_
  refine sm_need fun v4 hv4 => ?_
  refine sm_need fun v5 hv5 => ?_
  exact sm_retF (ev_ret (ev_tup (ev_cons (ev_bin (ev_var rfl (k_LTI.f _)) (ev_bin (ev_var rfl (enc_int.f _)) (ev_var rfl (enc_int.f _)) (gDiv_o hv2)) (gIxX_s (gIx_o (e := e_TI) rfl hv3 (k_TI.f _)) rfl)) (ev_cons (ev_fcallN (ev_cons (ev_var rfl (k_LTP2II.f _)) (ev_cons (ev_var rfl (enc_int.f _)) (ev_cons (ev_bin (ev_var rfl (enc_int.f _)) (ev_var rfl (enc_int.f _)) (gMod_o hv4)) ev_nil))) (ar_F (k_LTP2II.f a0) (ar_F (enc_int.f a1) (ar_F (enc_int.f v4) ar_nil))) (sim_row_at a0 a1 v4 _ hv5)) ev_nil)) (isFs_cons (k_TI.f _) (isFs_cons (k_TTP2II.f _) isFs_nil)) (short_ _ 2 rfl (by decide))) (fun _ q => nomatch q))
def P_all_runs (a0 : List (List (Int × Int))) (a1 : Int) (a2 : List (List Int)) : Option (List ((List Int) × (List (List (Int × Int))))) :=
  (P_many_runs a0 a1 a2).bind fun v1 => if (decide ((3000 : Int) < v1)) = true then (none) else ((rgO v1).bind fun r2 => (compP r2 (fun (x3 : Int) => some true) (fun (x3 : Int) => (P_run_at a0 a1 a2 x3).bind fun v4 => some v4)).bind fun v5 => some v5)
theorem sim_all_runs (a0 : List (List (Int × Int))) (a1 : Int) (a2 : List (List Int)) (r : List ((List Int) × (List (List (Int × Int))))) (h : P_all_runs a0 a1 a2 = some r) : F_all_runs [e_LTP2II a0, D.int a1, e_LTI a2] = .ok (e_MP2TITTP2II r) := by
  refine def_F (e := e_MP2TITTP2II) [some (e_LTP2II a0), some (D.int a1), some (e_LTI a2), none, none] rfl rfl (fun _ _ q => nomatch q) h (sm_last ?_)
  unfold f_all_runs P_all_runs
  refine sm_as ?_
  refine sm_need fun v1 hv1 => ?_
  refine sm_n (ev_asgF (ev_fcallS (ev_cons (ev_var rfl (k_LTP2II.f _)) (ev_cons (ev_var rfl (enc_int.f _)) (ev_cons (ev_var rfl (k_LTI.f _)) ev_nil))) (ar_F (k_LTP2II.f a0) (ar_F (enc_int.f a1) (ar_F (k_LTI.f a2) ar_nil))) (sim_many_runs a0 a1 a2 _ hv1) rfl) (enc_int.f _)) ?_
  refine sm_as ?_
  refine sm_ifs ((ev_B (ev_bin (ev_var rfl (enc_int.f _)) ev_C gGt_ok))) (fun hb => ?_) (fun hb => ?_)
  · exact sm_raise
  · refine sm_skip ?_
    refine sm_need fun r2 hr2 => ?_
    refine sm_need fun v5 hv5 => ?_
    exact sm_retF (ev_ret (ev_compP (e := D.int) (e' := e_P2TITTP2II) (ev_rangeO (ev_var rfl (enc_int.f _)) hr2) hv5 (fun _ _ q => nomatch q) (fun x3 => ⟨[some (e_LTP2II a0), some (D.int a1), some (e_LTI a2), some (D.int v1), some (D.int x3)], rfl, fun _ q => (by cases q; exact rfl), fun _ _ q => (by obtain ⟨v4, hv4, q⟩ := of_bind q; cases q; exact (ev_fcallN (ev_cons (ev_var rfl (k_LTP2II.f _)) (ev_cons (ev_var rfl (enc_int.f _)) (ev_cons (ev_var rfl (k_LTI.f _)) (ev_cons (ev_var rfl (enc_int.f _)) ev_nil)))) (ar_F (k_LTP2II.f a0) (ar_F (enc_int.f a1) (ar_F (k_LTI.f a2) (ar_F (enc_int.f x3) ar_nil)))) (sim_run_at a0 a1 a2 x3 _ hv4))), rfl⟩)) (fun _ q => nomatch q))
def P_rows_of (a0 : Int) (a1 : List (List (Int × Int))) (a2 : Int) : Option (List ((List Int) × (List (List (Int × Int))))) :=
  (rgO a0).bind fun r1 => (compO r1 (fun (x2 : Int) => true) (fun (x2 : Int) => (0 : Int))).bind fun v3 => (P_all_runs a1 a2 ([v3] : List (List Int))).bind fun v4 => some v4
theorem sim_rows_of (a0 : Int) (a1 : List (List (Int × Int))) (a2 : Int) (r : List ((List Int) × (List (List (Int × Int))))) (h : P_rows_of a0 a1 a2 = some r) : F_rows_of [D.int a0, e_LTP2II a1, D.int a2] = .ok (e_MP2TITTP2II r) := by
  refine def_F (e := e_MP2TITTP2II) [some (D.int a0), some (e_LTP2II a1), some (D.int a2), none] rfl rfl (fun _ _ q => nomatch q) h (sm_last ?_)
  unfold f_rows_of P_rows_of
  refine sm_need fun r1 hr1 => ?_
  refine sm_need fun v3 hv3 => ?_
  refine sm_need fun v4 hv4 => ?_
  exact sm_retF (ev_ret (ev_fcallN (ev_cons (ev_var rfl (k_LTP2II.f _)) (ev_cons (ev_var rfl (enc_int.f _)) (ev_cons (ev_lst (ev_cons (ev_cb (ev_cons (ev_compO (e := D.int) (e' := D.int) (ev_rangeO (ev_var rfl (enc_int.f _)) hr1) hv3 (fun _ _ q => nomatch q) (fun x2 => ⟨[some (D.int a0), some (e_LTP2II a1), some (D.int a2), some (D.int x2)], rfl, rfl, fun _ => ev_C, rfl⟩)) ev_nil) (gTuple_sq (es := List.map D.int v3) rfl (enc_int.fs _))) ev_nil) (isFs_cons (k_TI.f _) isFs_nil) (short_ _ 1 rfl (by decide))) ev_nil))) (ar_F (k_LTP2II.f a1) (ar_F (enc_int.f a2) (ar_M (fun _ q => nomatch q) (z_MTI ([v3] : List (List Int))) ar_nil))) (sim_all_runs a1 a2 ([v3] : List (List Int)) _ hv4)) (fun _ q => nomatch q))
def P_came_to (a0 : Int) (a1 : List (Int × Int)) (a2 : Int) : Option (List Int) :=
  (rgO a0).bind fun r1 => (compO r1 (fun (x2 : Int) => ((!decide (x2 = a2)) && (!isIn (x2, a2) a1))) (fun (x2 : Int) => x2)).bind fun v3 => some v3
theorem sim_came_to (a0 : Int) (a1 : List (Int × Int)) (a2 : Int) (r : List Int) (h : P_came_to a0 a1 a2 = some r) : F_came_to [D.int a0, e_TP2II a1, D.int a2] = .ok (e_TI r) := by
  refine def_F (e := e_TI) [some (D.int a0), some (e_TP2II a1), some (D.int a2), none] rfl rfl (fun _ _ q => nomatch q) h (sm_last ?_)
  unfold f_came_to P_came_to
  refine sm_need fun r1 hr1 => ?_
  refine sm_need fun v3 hv3 => ?_
  exact sm_retF (ev_ret (ev_cb (ev_cons (ev_compO (e := D.int) (e' := D.int) (ev_rangeO (ev_var rfl (enc_int.f _)) hr1) hv3 (fun _ _ q => nomatch q) (fun x2 => ⟨[some (D.int a0), some (e_TP2II a1), some (D.int a2), some (D.int x2)], rfl, (ev_and2 (ev_B (ev_bin (ev_var rfl (enc_int.f _)) (ev_var rfl (enc_int.f _)) gNe_int)) (fun _ => (ev_B (ev_bin (ev_tup (ev_cons (ev_var rfl (enc_int.f _)) (ev_cons (ev_var rfl (enc_int.f _)) ev_nil)) (isFs_cons (enc_int.f _) (isFs_cons (enc_int.f _) isFs_nil)) (short_ _ 2 rfl (by decide))) (ev_var rfl (k_TP2II.f _)) (gNotInX_s (gNotIn_v k_P2II (see_eq (k_P2II.see _ (x2, a2))) (sq_v (e := e_P2II) rfl dt_rfl)) rfl))))), fun _ => (ev_var rfl (enc_int.f _)), rfl⟩)) ev_nil) (gTuple_sq (es := List.map D.int v3) rfl (enc_int.fs _))) (fun _ q => nomatch q))
def P_heard_spots (a0 : (List Int) × (List (List (Int × Int)))) (a1 : Int) : Option (List (List Int)) :=
  (some ([a1])).bind fun (heard_1 : List Int) => (some ([heard_1])).bind fun (rows_2 : List (List Int)) => (forS (fun (x3 : List (Int × Int)) (s46 : (List Int) × (List (List Int))) => ((forS (fun (x47 : Int) (s60 : (List Int)) => ((P_came_to (a0.1.length : Int) x3 x47).bind fun v61 => (forS (fun (x62 : Int) (s65 : (List Int)) => (if (!isIn x62 s65) = true then ((appO s65 x62).bind fun v66 => some v66) else (some s65))) v61 s60).bind fun s65 => some s65)) s46.1 s46.1).bind fun s60 => (appO s46.2 s60).bind fun v67 => some (s60, v67))) a0.2.reverse (heard_1, rows_2)).bind fun s46 => some s46.2.reverse
theorem sim_heard_spots (a0 : (List Int) × (List (List (Int × Int)))) (a1 : Int) (r : List (List Int)) (h : P_heard_spots a0 a1 = some r) : F_heard_spots [e_P2TITTP2II a0, D.int a1] = .ok (e_MLI r) := by
  refine def_F (e := e_MLI) [some (e_P2TITTP2II a0), some (D.int a1), none, none, none, none, none, none] rfl rfl (fun _ _ q => nomatch q) h (sm_last ?_)
  unfold f_heard_spots P_heard_spots
  refine sm_as ?_
  refine sm_nl (fun (heard_1 : List Int) => [some (e_P2TITTP2II a0), some (D.int a1), some (e_LI heard_1), none, none, none, none, none]) (ev_asgF_G (ev_lst (ev_cons (ev_var rfl (enc_int.f _)) ev_nil) (isFs_cons (enc_int.f _) isFs_nil) (short_ _ 1 rfl (by decide))) (fun _ q => nomatch q) (z_MI ([a1] : List Int))) fun heard_1 => ?_
  refine sm_as ?_
  refine sm_nl (fun (rows_2 : List (List Int)) => [some (e_P2TITTP2II a0), some (D.int a1), some (e_LI heard_1), some (e_MLI rows_2), none, none, none, none]) (ev_asg (ev_lst (ev_cons (ev_var rfl (k_LI.f _)) ev_nil) (isFs_cons (k_LI.f _) isFs_nil) (short_ _ 1 rfl (by decide))) (fun _ q => nomatch q)) fun rows_2 => ?_
  refine sm_as ?_
  refine sm_forS (e := e_TP2II) (fun (s46 : (List Int) × (List (List Int))) A => ∃ j4 : Option D, ∃ j5 : Option D, ∃ j6 : Option D, ∃ j7 : Option D, A = [some (e_P2TITTP2II a0), some (D.int a1), some (e_LI s46.1), some (e_MLI s46.2), j4, j5, j6, j7]) ((ev_itF (e := e_TP2II) (ev_slS (ev_bin (ev_var rfl (k_P2TITTP2II.f _)) ev_C (gIxX_s (gIx_at rfl rfl (k_TTP2II.f _)) rfl)) ev_noPart ev_noPart (ev_part (ev_un ev_C rfl)) (gSlS_rev (f := e_TP2II) rfl (k_TP2II.fs _))) (k_TTP2II.f _) (iter_T k_TP2II.f))) ⟨_, _, _, _, rfl⟩ (fun x3 s46 _ hR => ?_) ?_
  · obtain ⟨j4, j5, j6, j7, rfl⟩ := hR
    refine ⟨[some (e_P2TITTP2II a0), some (D.int a1), some (e_LI s46.1), some (e_MLI s46.2), some (e_TP2II x3), j5, j6, j7], rfl, sm_last ?_⟩
    refine sm_as ?_
    refine sm_n (ev_asg (ev_cb (ev_cons (ev_var rfl (k_LI.f _)) ev_nil) (gList_sq (es := List.map D.int s46.1) rfl (enc_int.fs _))) (fun _ q => nomatch q)) ?_
    refine sm_as ?_
    refine sm_forS (e := D.int) (fun (s60 : (List Int)) A => ∃ j6 : Option D, ∃ j7 : Option D, A = [some (e_P2TITTP2II a0), some (D.int a1), some (e_LI s46.1), some (e_MLI s46.2), some (e_TP2II x3), some (e_MI s60), j6, j7]) ((ev_itF (e := D.int) (ev_var rfl (k_LI.f _)) (k_LI.f _) rfl)) ⟨_, _, rfl⟩ (fun x47 s60 _ hR => ?_) ?_
    · obtain ⟨j6, j7, rfl⟩ := hR
      refine ⟨[some (e_P2TITTP2II a0), some (D.int a1), some (e_LI s46.1), some (e_MLI s46.2), some (e_TP2II x3), some (e_MI s60), some (D.int x47), j7], rfl, sm_last ?_⟩
      refine sm_need fun v61 hv61 => ?_
      refine sm_forS (e := D.int) (fun (s65 : (List Int)) A => ∃ j7 : Option D, A = [some (e_P2TITTP2II a0), some (D.int a1), some (e_LI s46.1), some (e_MLI s46.2), some (e_TP2II x3), some (e_MI s65), some (D.int x47), j7]) ((ev_itF (e := D.int) (ev_fcallN (ev_cons (ev_cb (ev_cons (ev_bin (ev_var rfl (k_P2TITTP2II.f _)) ev_C (gIxX_s (gIx_at rfl rfl (k_TI.f _)) rfl)) ev_nil) (gLenX_s (e1 := D.int) rfl)) (ev_cons (ev_var rfl (k_TP2II.f _)) (ev_cons (ev_var rfl (enc_int.f _)) ev_nil))) (ar_F (enc_int.f (a0.1.length : Int)) (ar_F (k_TP2II.f x3) (ar_F (enc_int.f x47) ar_nil))) (sim_came_to (a0.1.length : Int) x3 x47 _ hv61)) (k_TI.f _) (iter_T enc_int.f))) ⟨_, rfl⟩ (fun x62 s65 _ hR => ?_) ?_
      · obtain ⟨j7, rfl⟩ := hR
        refine ⟨[some (e_P2TITTP2II a0), some (D.int a1), some (e_LI s46.1), some (e_MLI s46.2), some (e_TP2II x3), some (e_MI s65), some (D.int x47), some (D.int x62)], rfl, sm_last ?_⟩
        refine sm_ifs ((ev_B (ev_bin (ev_var rfl (enc_int.f _)) (ev_al rfl isF_mu) (gNotInX_s (gNotIn_v enc_int (see_eq (enc_int.see _ x62)) (sq_v (e := D.int) rfl dt_rfl)) rfl)))) (fun hb => ?_) (fun hb => ?_)
        · refine sm_need fun v66 hv66 => ?_
          refine sm_n (ev_drop (ev_appO (e := D.int) (xs := s65) (x := x62) rfl (ev_var rfl (enc_int.f _)) rfl (fun _ q => nomatch q) hv66)) ?_
          exact sm_endC ⟨_, rfl⟩
        · refine sm_skip ?_
          exact sm_endC ⟨_, rfl⟩
      rintro s65 _ ⟨j7, rfl⟩
      exact sm_endC ⟨_, _, rfl⟩
    rintro s60 _ ⟨j6, j7, rfl⟩
    refine sm_as ?_
    refine sm_n (ev_asgF_alG (ev_al rfl isF_mu) rfl (z_MI s60) ((fz_F k_LI) s60)) ?_
    refine sm_need fun v67 hv67 => ?_
    refine sm_n (ev_drop (ev_appO (e := e_LI) (xs := s46.2) (x := s60) rfl (ev_var rfl (k_LI.f _)) rfl (fun _ q => nomatch q) hv67)) ?_
    exact sm_endC ⟨_, _, _, _, rfl⟩
  rintro s46 _ ⟨j4, j5, j6, j7, rfl⟩
  exact sm_retF (ev_ret (ev_slS (ev_al rfl isF_mu) ev_noPart ev_noPart (ev_part (ev_un ev_C rfl)) (gSlS_lrev (f := e_LI) rfl (k_LI.fs _))) (fun _ q => nomatch q))
def P_view (a0 : (List Int) × (List (List (Int × Int)))) (a1 : Int) : Option (Int × (List (Option Int)) × (List (List (Option (List Int))))) :=
  (P_heard_spots a0 a1).bind fun v1 => (some ((a0.1.length : Int))).bind fun (hands_2 : Int) => (rgO hands_2).bind fun r3 => (forS (fun (x4 : Int) (s13 : (List (Option Int))) => ((atI v1 (0 : Int)).bind fun v14 => if (isIn x4 v14) = true then ((atI a0.1 x4).bind fun v15 => (appO s13 (some v15)).bind fun v16 => some v16) else ((appO s13 none).bind fun v17 => some v17))) r3 ([] : List (Option Int))).bind fun s13 => (forS (fun (x18 : (List Int) × (List (Int × Int))) (s45 : (List (List (Option (List Int))))) => ((rgO hands_2).bind fun r46 => (forS (fun (x47 : Int) (s54 : (List (Option (List Int)))) => (if (isIn x47 x18.1) = true then ((P_came_to hands_2 x18.2 x47).bind fun v55 => (appO s54 (some v55)).bind fun v56 => some v56) else ((appO s54 none).bind fun v57 => some v57))) r46 ([] : List (Option (List Int)))).bind fun s54 => (appO s45 s54).bind fun v58 => some v58)) (List.zip (cutG v1 (some (1 : Int)) none) a0.2) ([] : List (List (Option (List Int))))).bind fun s45 => some (a1, s13, s45)
theorem sim_view (a0 : (List Int) × (List (List (Int × Int)))) (a1 : Int) (r : Int × (List (Option Int)) × (List (List (Option (List Int))))) (h : P_view a0 a1 = some r) : F_view [e_P2TITTP2II a0, D.int a1] = .ok (e_P3ITOITTOTI r) := by
  refine def_F (e := e_P3ITOITTOTI) [some (e_P2TITTP2II a0), some (D.int a1), none, none, none, none, none, none, none, none] rfl rfl (fun _ _ q => nomatch q) h (sm_last ?_)
  unfold f_view P_view
  refine sm_as ?_
  refine sm_need fun v1 hv1 => ?_
  refine sm_n (ev_asgF_G (ev_fcallN (ev_cons (ev_var rfl (k_P2TITTP2II.f _)) (ev_cons (ev_var rfl (enc_int.f _)) ev_nil)) (ar_F (k_P2TITTP2II.f a0) (ar_F (enc_int.f a1) ar_nil)) (sim_heard_spots a0 a1 _ hv1)) (fun _ q => nomatch q) (z_MLI v1)) ?_
  refine sm_as ?_
  refine sm_nl (fun (hands_2 : Int) => [some (e_P2TITTP2II a0), some (D.int a1), some (e_LLI v1), some (D.int hands_2), none, none, none, none, none, none]) (ev_asgF (ev_cb (ev_cons (ev_bin (ev_var rfl (k_P2TITTP2II.f _)) ev_C (gIxX_s (gIx_at rfl rfl (k_TI.f _)) rfl)) ev_nil) (gLenX_s (e1 := D.int) rfl)) (enc_int.f _)) fun hands_2 => ?_
  refine sm_as ?_
  refine sm_n (ev_asg (ev_lst ev_nil isFs_nil (short_ _ 0 rfl (by decide))) (fun _ q => nomatch q)) ?_
  refine sm_as ?_
  refine sm_need fun r3 hr3 => ?_
  refine sm_forS (e := D.int) (fun (s13 : (List (Option Int))) A => ∃ j5 : Option D, A = [some (e_P2TITTP2II a0), some (D.int a1), some (e_LLI v1), some (D.int hands_2), some (e_MOI s13), j5, none, none, none, none]) ((ev_rangeO (ev_var rfl (enc_int.f _)) hr3)) ⟨_, rfl⟩ (fun x4 s13 _ hR => ?_) ?_
  · obtain ⟨j5, rfl⟩ := hR
    refine ⟨[some (e_P2TITTP2II a0), some (D.int a1), some (e_LLI v1), some (D.int hands_2), some (e_MOI s13), some (D.int x4), none, none, none, none], rfl, sm_last ?_⟩
    refine sm_need fun v14 hv14 => ?_
    refine sm_ifs ((ev_B (ev_bin (ev_var rfl (enc_int.f _)) (ev_bin (ev_var rfl (k_LLI.f _)) ev_C (gIxX_s (gIx_o (e := e_LI) rfl hv14 (k_LI.f _)) rfl)) (gInX_s (gIn_v enc_int (see_eq (enc_int.see _ x4)) (sq_v (e := D.int) rfl dt_rfl)) rfl)))) (fun hb => ?_) (fun hb => ?_)
    · refine sm_need fun v15 hv15 => ?_
      refine sm_need fun v16 hv16 => ?_
      refine sm_n (ev_drop (ev_appO (e := e_OI) (xs := s13) (x := (some v15)) rfl (ev_bin (ev_bin (ev_var rfl (k_P2TITTP2II.f _)) ev_C (gIxX_s (gIx_at rfl rfl (k_TI.f _)) rfl)) (ev_var rfl (enc_int.f _)) (gIxX_s (gIx_o (e := D.int) rfl hv15 (enc_int.f _)) rfl)) rfl (isF_al (k_OI.f _)) hv16)) ?_
      exact sm_endC ⟨_, rfl⟩
    · refine sm_need fun v17 hv17 => ?_
      refine sm_n (ev_drop (ev_appO (e := e_OI) (xs := s13) (x := none) rfl ev_C rfl (isF_al (k_OI.f _)) hv17)) ?_
      exact sm_endC ⟨_, rfl⟩
  rintro s13 _ ⟨j5, rfl⟩
  refine sm_as ?_
  refine sm_n (ev_asg (ev_lst ev_nil isFs_nil (short_ _ 0 rfl (by decide))) (fun _ q => nomatch q)) ?_
  refine sm_as ?_
  refine sm_forS (e := e_P2LITP2II) (fun (s45 : (List (List (Option (List Int))))) A => ∃ j5 : Option D, ∃ j7 : Option D, ∃ j8 : Option D, ∃ j9 : Option D, A = [some (e_P2TITTP2II a0), some (D.int a1), some (e_LLI v1), some (D.int hands_2), some (e_MOI s13), j5, some (e_MTOTI s45), j7, j8, j9]) ((ev_zipT (e := e_LI) (e' := e_TP2II) (ev_sl (ev_var rfl (k_LLI.f _)) (ev_part ev_C) ev_noPart (gSl_lst (f := e_LI) rfl (k_LI.fs _))) (ev_bin (ev_var rfl (k_P2TITTP2II.f _)) ev_C (gIxX_s (gIx_at rfl rfl (k_TTP2II.f _)) rfl)) k_LI.f k_TP2II.f)) ⟨_, _, _, _, rfl⟩ (fun x18 s45 _ hR => ?_) ?_
  · obtain ⟨j5, j7, j8, j9, rfl⟩ := hR
    refine ⟨[some (e_P2TITTP2II a0), some (D.int a1), some (e_LLI v1), some (D.int hands_2), some (e_MOI s13), j5, some (e_MTOTI s45), some (e_LI x18.1), some (e_TP2II x18.2), j9], (set_tu2 (k_LI.f _) (k_TP2II.f _)), sm_last ?_⟩
    refine sm_as ?_
    refine sm_n (ev_asg (ev_lst ev_nil isFs_nil (short_ _ 0 rfl (by decide))) (fun _ q => nomatch q)) ?_
    refine sm_as ?_
    refine sm_need fun r46 hr46 => ?_
    refine sm_forS (e := D.int) (fun (s54 : (List (Option (List Int)))) A => ∃ j5 : Option D, A = [some (e_P2TITTP2II a0), some (D.int a1), some (e_LLI v1), some (D.int hands_2), some (e_MOI s13), j5, some (e_MTOTI s45), some (e_LI x18.1), some (e_TP2II x18.2), some (e_MOTI s54)]) ((ev_rangeO (ev_var rfl (enc_int.f _)) hr46)) ⟨_, rfl⟩ (fun x47 s54 _ hR => ?_) ?_
    · obtain ⟨j5, rfl⟩ := hR
      refine ⟨[some (e_P2TITTP2II a0), some (D.int a1), some (e_LLI v1), some (D.int hands_2), some (e_MOI s13), some (D.int x47), some (e_MTOTI s45), some (e_LI x18.1), some (e_TP2II x18.2), some (e_MOTI s54)], rfl, sm_last ?_⟩
      refine sm_ifs ((ev_B (ev_bin (ev_var rfl (enc_int.f _)) (ev_var rfl (k_LI.f _)) (gInX_s (gIn_v enc_int (see_eq (enc_int.see _ x47)) (sq_v (e := D.int) rfl dt_rfl)) rfl)))) (fun hb => ?_) (fun hb => ?_)
      · refine sm_need fun v55 hv55 => ?_
        refine sm_need fun v56 hv56 => ?_
        refine sm_n (ev_drop (ev_appO (e := e_OTI) (xs := s54) (x := (some v55)) rfl (ev_fcallN (ev_cons (ev_var rfl (enc_int.f _)) (ev_cons (ev_var rfl (k_TP2II.f _)) (ev_cons (ev_var rfl (enc_int.f _)) ev_nil))) (ar_F (enc_int.f hands_2) (ar_F (k_TP2II.f x18.2) (ar_F (enc_int.f x47) ar_nil))) (sim_came_to hands_2 x18.2 x47 _ hv55)) rfl (isF_al (k_OTI.f _)) hv56)) ?_
        exact sm_endC ⟨_, rfl⟩
      · refine sm_need fun v57 hv57 => ?_
        refine sm_n (ev_drop (ev_appO (e := e_OTI) (xs := s54) (x := none) rfl ev_C rfl (isF_al (k_OTI.f _)) hv57)) ?_
        exact sm_endC ⟨_, rfl⟩
    rintro s54 _ ⟨j5, rfl⟩
    refine sm_need fun v58 hv58 => ?_
    refine sm_n (ev_drop (ev_appO (e := e_TOTI) (xs := s45) (x := s54) rfl (ev_cb (ev_cons (ev_al rfl isF_mu) ev_nil) (gTuple_sq (es := List.map e_OTI s54) rfl (k_OTI.fs _))) rfl (fun _ q => nomatch q) hv58)) ?_
    exact sm_endC ⟨_, _, _, _, rfl⟩
  rintro s45 _ ⟨j5, j7, j8, j9, rfl⟩
  exact sm_retF (ev_ret (ev_tup (ev_cons (ev_var rfl (enc_int.f _)) (ev_cons (ev_cb (ev_cons (ev_al rfl isF_mu) ev_nil) (gTuple_sq (es := List.map e_OI s13) rfl (k_OI.fs _))) (ev_cons (ev_cb (ev_cons (ev_al rfl isF_mu) ev_nil) (gTuple_sq (es := List.map e_TOTI s45) rfl (k_TOTI.fs _))) ev_nil))) (isFs_cons (enc_int.f _) (isFs_cons (k_TOI.f _) (isFs_cons (k_TTOTI.f _) isFs_nil))) (short_ _ 3 rfl (by decide))) (fun _ q => nomatch q))
def P_parts_of (a0 : Int) (a1 : List (List Int)) : Option (List (List Int)) :=
  (rgO a0).bind fun r1 => (compO r1 (fun (x2 : Int) => true) (fun (x2 : Int) => ([] : List Int))).bind fun v3 => (forS (fun (x4 : List Int) (s21 : (List (List Int))) => ((forS (fun (x22 : Int × Int) (s27 : (List (List Int))) => ((nAppO s27 x22.1 x22.2).bind fun v28 => (nAppO v28 x22.2 x22.1).bind fun v29 => some v29)) (List.zip x4 (cutG x4 (some (1 : Int)) none)) s21).bind fun s27 => some s27)) a1 v3).bind fun s21 => (rgO a0).bind fun r30 => (forS (fun (x31 : Int) (s106 : (List (List Int)) × (List (Int × Bool))) => (if (dHas s106.2 x31) = true then (some (s106.1, s106.2)) else ((dPutO s106.2 x31 true).bind fun v107 => (some ([x31])).bind fun (part_108 : List Int) => (whileS (fun (s131 : (List (Int × Bool)) × (List Int) × Int) => some (decide (s131.2.2 < (s131.2.1.length : Int)))) (fun (s131 : (List (Int × Bool)) × (List Int) × Int) => ((atI s131.2.1 s131.2.2).bind fun v132 => (atI s21 v132).bind fun v133 => (forS (fun (x134 : Int) (s139 : (List (Int × Bool)) × (List Int)) => (if (!dHas s139.1 x134) = true then ((dPutO s139.1 x134 true).bind fun v140 => (appO s139.2 x134).bind fun v141 => some (v140, v141)) else (some (s139.1, s139.2)))) v133 (s131.1, s131.2.1)).bind fun s139 => (some ((s131.2.2 + (1 : Int)))).bind fun (at_142 : Int) => some (s139.1, s139.2, at_142))) 1000000 (v107, part_108, (0 : Int))).bind fun s131 => (appO s106.1 (sortI s131.2.1)).bind fun v143 => some (v143, s131.1)))) r30 (([] : List (List Int)), ([] : List (Int × Bool)))).bind fun s106 => some s106.1
theorem sim_parts_of (a0 : Int) (a1 : List (List Int)) (r : List (List Int)) (h : P_parts_of a0 a1 = some r) : F_parts_of [D.int a0, e_LLI a1] = .ok (e_MMI r) := by
  refine def_F (e := e_MMI) [some (D.int a0), some (e_LLI a1), none, none, none, none, none, none, none, none, none, none] rfl rfl (fun _ _ q => nomatch q) h (sm_last ?_)
  unfold f_parts_of P_parts_of
  refine sm_as ?_
  refine sm_need fun r1 hr1 => ?_
  refine sm_need fun v3 hv3 => ?_
  refine sm_n (ev_asg (ev_compO (e := D.int) (e' := e_Mbot) (ev_rangeO (ev_var rfl (enc_int.f _)) hr1) hv3 (fun _ _ q => nomatch q) (fun x2 => ⟨[some (D.int a0), some (e_LLI a1), none, none, none, none, none, none, none, none, none, some (D.int x2)], rfl, rfl, fun _ => (ev_lst ev_nil isFs_nil (short_ _ 0 rfl (by decide))), rfl⟩)) (fun _ q => nomatch q)) ?_
  refine sm_as ?_
  refine sm_forS (e := e_LI) (fun (s21 : (List (List Int))) A => ∃ j3 : Option D, ∃ j9 : Option D, ∃ j10 : Option D, A = [some (D.int a0), some (e_LLI a1), some (e_MMI s21), j3, none, none, none, none, none, j9, j10, none]) ((ev_itF (e := e_LI) (ev_var rfl (k_LLI.f _)) (k_LLI.f _) rfl)) ⟨_, _, _, rfl⟩ (fun x4 s21 _ hR => ?_) ?_
  · obtain ⟨j3, j9, j10, rfl⟩ := hR
    refine ⟨[some (D.int a0), some (e_LLI a1), some (e_MMI s21), some (e_LI x4), none, none, none, none, none, j9, j10, none], rfl, sm_last ?_⟩
    refine sm_forS (e := e_P2II) (fun (s27 : (List (List Int))) A => ∃ j9 : Option D, ∃ j10 : Option D, A = [some (D.int a0), some (e_LLI a1), some (e_MMI s27), some (e_LI x4), none, none, none, none, none, j9, j10, none]) ((ev_zipL (e := D.int) (e' := D.int) (ev_cons (ev_var rfl (k_LI.f _)) (ev_cons (ev_sl (ev_var rfl (k_LI.f _)) (ev_part ev_C) ev_noPart (gSl_lst (f := D.int) rfl (enc_int.fs _))) ev_nil)) (ar_F (k_LI.f _) (ar_M (fun _ q => nomatch q) (z_MI (cutG x4 (some (1 : Int)) none)) ar_nil)) rfl rfl enc_int.f enc_int.f)) ⟨_, _, rfl⟩ (fun x22 s27 _ hR => ?_) ?_
    · obtain ⟨j9, j10, rfl⟩ := hR
      refine ⟨[some (D.int a0), some (e_LLI a1), some (e_MMI s27), some (e_LI x4), none, none, none, none, none, some (D.int x22.1), some (D.int x22.2), none], (set_tu2 (enc_int.f _) (enc_int.f _)), sm_last ?_⟩
      refine sm_as ?_
      refine sm_need fun v28 hv28 => ?_
      refine sm_n (ev_drop (ev_napp (e := D.int) (xs := s27) (x := x22.2) rfl (ev_var rfl (enc_int.f _)) rfl rfl enc_int.f hv28)) ?_
      refine sm_need fun v29 hv29 => ?_
      refine sm_n (ev_drop (ev_napp (e := D.int) (xs := v28) (x := x22.1) rfl (ev_var rfl (enc_int.f _)) rfl rfl enc_int.f hv29)) ?_
      exact sm_endC ⟨_, _, rfl⟩
    rintro s27 _ ⟨j9, j10, rfl⟩
    exact sm_endC ⟨_, _, _, rfl⟩
  rintro s21 _ ⟨j3, j9, j10, rfl⟩
  refine sm_fz rfl (z_MMI s21) ?_
  refine sm_as ?_
  refine sm_n (ev_asg (ev_lst ev_nil isFs_nil (short_ _ 0 rfl (by decide))) (fun _ q => nomatch q)) ?_
  refine sm_as ?_
  refine sm_n (ev_asg (ev_dic0 (κ := Int) (ν := Int) (e := D.int) (e1 := D.int)) (fun _ q => nomatch q)) ?_
  refine sm_as ?_
  refine sm_need fun r30 hr30 => ?_
  refine sm_forS (e := D.int) (fun (s106 : (List (List Int)) × (List (Int × Bool))) A => ∃ j3 : Option D, ∃ j6 : Option D, ∃ j7 : Option D, ∃ j8 : Option D, ∃ j9 : Option D, ∃ j10 : Option D, A = [some (D.int a0), some (e_LLI a1), some (e_LLI s21), j3, some (e_MMI s106.1), some (e_DMiIB s106.2), j6, j7, j8, j9, j10, none]) ((ev_rangeO (ev_var rfl (enc_int.f _)) hr30)) ⟨_, _, _, _, _, _, rfl⟩ (fun x31 s106 _ hR => ?_) ?_
  · obtain ⟨j3, j6, j7, j8, j9, j10, rfl⟩ := hR
    refine ⟨[some (D.int a0), some (e_LLI a1), some (e_LLI s21), j3, some (e_MMI s106.1), some (e_DMiIB s106.2), some (D.int x31), j7, j8, j9, j10, none], rfl, sm_last ?_⟩
    refine sm_as ?_
    refine sm_ifs ((ev_B (ev_bin (ev_var rfl (enc_int.f _)) (ev_al rfl isF_mdi) (gInX_d (e1 := D.bl) (kv := s106.2) key_int rfl rfl)))) (fun hb => ?_) (fun hb => ?_)
    · exact sm_contC ⟨_, _, _, _, _, _, rfl⟩
    · refine sm_skip ?_
      refine sm_as ?_
      refine sm_need fun v107 hv107 => ?_
      refine sm_n (ev_setD (e1 := D.bl) (kv := s106.2) (k := x31) (v := true) key_int ev_C (fun _ q => nomatch q) rfl (ev_var rfl (enc_int.f _)) hv107) ?_
      refine sm_as ?_
      refine sm_nl (fun (part_108 : List Int) => [some (D.int a0), some (e_LLI a1), some (e_LLI s21), j3, some (e_MMI s106.1), some (e_DMiIB v107), some (D.int x31), some (e_MI part_108), j8, j9, j10, none]) (ev_asg (ev_lst (ev_cons (ev_var rfl (enc_int.f _)) ev_nil) (isFs_cons (enc_int.f _) isFs_nil) (short_ _ 1 rfl (by decide))) (fun _ q => nomatch q)) fun part_108 => ?_
      refine sm_as ?_
      refine sm_n (ev_asgF ev_C (enc_int.f _)) ?_
      refine sm_as ?_
      refine sm_whileS (fun (s131 : (List (Int × Bool)) × (List Int) × Int) A => ∃ j3 : Option D, ∃ j9 : Option D, ∃ j10 : Option D, A = [some (D.int a0), some (e_LLI a1), some (e_LLI s21), j3, some (e_MMI s106.1), some (e_DMiIB s131.1), some (D.int x31), some (e_MI s131.2.1), some (D.int s131.2.2), j9, j10, none]) ⟨_, _, _, rfl⟩ (fun s131 _ _ hR q => ?_) (fun s131 _ hR _ => ?_) ?_
      · obtain ⟨j3, j9, j10, rfl⟩ := hR
        exact (by cases q; exact (ev_B (ev_bin (ev_var rfl (enc_int.f _)) (ev_cb (ev_cons (ev_al rfl isF_mu) ev_nil) (gLenX_s (e1 := D.int) rfl)) gLt_ok)))
      · obtain ⟨j3, j9, j10, rfl⟩ := hR
        refine sm_last ?_
        refine sm_as ?_
        refine sm_need fun v132 hv132 => ?_
        refine sm_need fun v133 hv133 => ?_
        refine sm_forS (e := D.int) (fun (s139 : (List (Int × Bool)) × (List Int)) A => ∃ j3 : Option D, ∃ j9 : Option D, ∃ j10 : Option D, A = [some (D.int a0), some (e_LLI a1), some (e_LLI s21), j3, some (e_MMI s106.1), some (e_DMiIB s139.1), some (D.int x31), some (e_MI s139.2), some (D.int s131.2.2), j9, j10, none]) ((ev_itF (e := D.int) (ev_bin (ev_var rfl (k_LLI.f _)) (ev_bin (ev_al rfl isF_mu) (ev_var rfl (enc_int.f _)) (gIxX_s (gIx_o (e := D.int) rfl hv132 (enc_int.f _)) rfl)) (gIxX_s (gIx_o (e := e_LI) rfl hv133 (k_LI.f _)) rfl)) (k_LI.f _) rfl)) ⟨_, _, _, rfl⟩ (fun x134 s139 _ hR => ?_) ?_
        · obtain ⟨j3, j9, j10, rfl⟩ := hR
          refine ⟨[some (D.int a0), some (e_LLI a1), some (e_LLI s21), j3, some (e_MMI s106.1), some (e_DMiIB s139.1), some (D.int x31), some (e_MI s139.2), some (D.int s131.2.2), j9, some (D.int x134), none], rfl, sm_last ?_⟩
          refine sm_ifs ((ev_B (ev_bin (ev_var rfl (enc_int.f _)) (ev_al rfl isF_mdi) (gNotInX_d (e1 := D.bl) (kv := s139.1) key_int rfl rfl)))) (fun hb => ?_) (fun hb => ?_)
          · refine sm_as ?_
            refine sm_need fun v140 hv140 => ?_
            refine sm_n (ev_setD (e1 := D.bl) (kv := s139.1) (k := x134) (v := true) key_int ev_C (fun _ q => nomatch q) rfl (ev_var rfl (enc_int.f _)) hv140) ?_
            refine sm_need fun v141 hv141 => ?_
            refine sm_n (ev_drop (ev_appO (e := D.int) (xs := s139.2) (x := x134) rfl (ev_var rfl (enc_int.f _)) rfl (fun _ q => nomatch q) hv141)) ?_
            exact sm_endC ⟨_, _, _, rfl⟩
          · refine sm_skip ?_
            exact sm_endC ⟨_, _, _, rfl⟩
        rintro s139 _ ⟨j3, j9, j10, rfl⟩
        refine sm_nl (fun (at_142 : Int) => [some (D.int a0), some (e_LLI a1), some (e_LLI s21), j3, some (e_MMI s106.1), some (e_DMiIB s139.1), some (D.int x31), some (e_MI s139.2), some (D.int at_142), j9, j10, none]) (ev_aug rfl ev_C) fun at_142 => ?_
        exact sm_endC ⟨_, _, _, rfl⟩
      rintro s131 _ ⟨j3, j9, j10, rfl⟩
      refine sm_need fun v143 hv143 => ?_
      refine sm_n (ev_drop (ev_appO (e := e_MI) (xs := s106.1) (x := (sortI s131.2.1)) rfl (ev_cb (ev_cons (ev_al rfl isF_mu) ev_nil) (gSortedX_o rfl)) rfl (fun _ q => nomatch q) hv143)) ?_
      exact sm_endC ⟨_, _, _, _, _, _, rfl⟩
  rintro s106 _ ⟨j3, j6, j7, j8, j9, j10, rfl⟩
  exact sm_retF (ev_ret_alG (ev_al rfl isF_mu) rfl)
def P_weather_parts (a0 : Int) (a1 : List (List (Int × Int))) (a2 : Int) : Option (List (List Int)) :=
  (P_rows_of a0 a1 a2).bind fun v1 => (forS (fun (x2 : Int × ((List Int) × (List (List (Int × Int))))) (s21 : (List ((Int × (List (List (Option (List Int))))) × (List Int)))) => ((rgO a0).bind fun r22 => (forS (fun (x23 : Int) (s28 : (List ((Int × (List (List (Option (List Int))))) × (List Int)))) => ((P_view x2.2 x23).bind fun v29 => (dSda s28 (x23, v29.2.2) x2.1).bind fun v30 => some v30)) r22 s21).bind fun s28 => some s28)) (enumL v1) ([] : List ((Int × (List (List (Option (List Int))))) × (List Int)))).bind fun s21 => (P_parts_of (v1.length : Int) (s21.map fun p => p.2)).bind fun v31 => some v31
theorem sim_weather_parts (a0 : Int) (a1 : List (List (Int × Int))) (a2 : Int) (r : List (List Int)) (h : P_weather_parts a0 a1 a2 = some r) : F_weather_parts [D.int a0, e_LTP2II a1, D.int a2] = .ok (e_MMI r) := by
  refine def_F (e := e_MMI) [some (D.int a0), some (e_LTP2II a1), some (D.int a2), none, none, none, none, none] rfl rfl (fun _ _ q => nomatch q) h (sm_last ?_)
  unfold f_weather_parts P_weather_parts
  refine sm_as ?_
  refine sm_need fun v1 hv1 => ?_
  refine sm_n (ev_asgF_G (ev_fcallN (ev_cons (ev_var rfl (enc_int.f _)) (ev_cons (ev_var rfl (k_LTP2II.f _)) (ev_cons (ev_var rfl (enc_int.f _)) ev_nil))) (ar_F (enc_int.f a0) (ar_F (k_LTP2II.f a1) (ar_F (enc_int.f a2) ar_nil))) (sim_rows_of a0 a1 a2 _ hv1)) (fun _ q => nomatch q) (z_MP2TITTP2II v1)) ?_
  refine sm_as ?_
  refine sm_n (ev_asg (ev_dic0 (κ := Int) (ν := Int) (e := D.int) (e1 := D.int)) (fun _ q => nomatch q)) ?_
  refine sm_as ?_
  refine sm_forS (e := e_P2IP2TITTP2II) (fun (s21 : (List ((Int × (List (List (Option (List Int))))) × (List Int)))) A => ∃ j5 : Option D, ∃ j6 : Option D, ∃ j7 : Option D, A = [some (D.int a0), some (e_LTP2II a1), some (D.int a2), some (e_LP2TITTP2II v1), some (e_DMnP2ITTOTIMI s21), j5, j6, j7]) ((ev_enumL (e := e_P2TITTP2II) (ev_var rfl (k_LP2TITTP2II.f _)) k_P2TITTP2II.f)) ⟨_, _, _, rfl⟩ (fun x2 s21 _ hR => ?_) ?_
  · obtain ⟨j5, j6, j7, rfl⟩ := hR
    refine ⟨[some (D.int a0), some (e_LTP2II a1), some (D.int a2), some (e_LP2TITTP2II v1), some (e_DMnP2ITTOTIMI s21), some (D.int x2.1), some (e_P2TITTP2II x2.2), j7], (set_tu2 (enc_int.f _) (k_P2TITTP2II.f _)), sm_last ?_⟩
    refine sm_need fun r22 hr22 => ?_
    refine sm_forS (e := D.int) (fun (s28 : (List ((Int × (List (List (Option (List Int))))) × (List Int)))) A => ∃ j7 : Option D, A = [some (D.int a0), some (e_LTP2II a1), some (D.int a2), some (e_LP2TITTP2II v1), some (e_DMnP2ITTOTIMI s28), some (D.int x2.1), some (e_P2TITTP2II x2.2), j7]) ((ev_rangeO (ev_var rfl (enc_int.f _)) hr22)) ⟨_, rfl⟩ (fun x23 s28 _ hR => ?_) ?_
    · obtain ⟨j7, rfl⟩ := hR
      refine ⟨[some (D.int a0), some (e_LTP2II a1), some (D.int a2), some (e_LP2TITTP2II v1), some (e_DMnP2ITTOTIMI s28), some (D.int x2.1), some (e_P2TITTP2II x2.2), some (D.int x23)], rfl, sm_last ?_⟩
      refine sm_need fun v29 hv29 => ?_
      refine sm_need fun v30 hv30 => ?_
      refine sm_n (ev_drop (ev_sda (ea := D.int) (kd := s28) (x := x2.1) key_P2ITTOTI rfl (ev_tup (ev_cons (ev_var rfl (enc_int.f _)) (ev_cons (ev_bin (ev_fcallN (ev_cons (ev_var rfl (k_P2TITTP2II.f _)) (ev_cons (ev_var rfl (enc_int.f _)) ev_nil)) (ar_F (k_P2TITTP2II.f x2.2) (ar_F (enc_int.f x23) ar_nil)) (sim_view x2.2 x23 _ hv29)) ev_C (gIxX_s (gIx_at rfl rfl (k_TTOTI.f _)) rfl)) ev_nil)) (isFs_cons (enc_int.f _) (isFs_cons (k_TTOTI.f _) isFs_nil)) (short_ _ 2 rfl (by decide))) rfl rfl enc_int.f hv30)) ?_
      exact sm_endC ⟨_, rfl⟩
    rintro s28 _ ⟨j7, rfl⟩
    exact sm_endC ⟨_, _, _, rfl⟩
  rintro s21 _ ⟨j5, j6, j7, rfl⟩
  refine sm_need fun v31 hv31 => ?_
  exact sm_retF (ev_ret (ev_fcallN (ev_cons (ev_cb (ev_cons (ev_var rfl (k_LP2TITTP2II.f _)) ev_nil) (gLenX_s (e1 := e_P2TITTP2II) rfl)) (ev_cons (ev_valsA (kv := s21) (ev_al rfl isF_mdi) rfl (z_DMnP2ITTOTIMI s21)) ev_nil)) (ar_F (enc_int.f (v1.length : Int)) (ar_M (fun _ q => nomatch q) (z_MLI (s21.map fun p => p.2)) ar_nil)) (sim_parts_of (v1.length : Int) (s21.map fun p => p.2) _ hv31)) (fun _ q => nomatch q))
def P_heard_by_all (a0 : Int) (a1 : (List Int) × (List (List (Int × Int)))) : Option (List Int) :=
  (rgLO a0).bind fun v1 => (rgO a0).bind fun r2 => (forS (fun (x3 : Int) (s12 : (List Int)) => ((P_heard_spots a1 x3).bind fun v13 => (atI v13 (0 : Int)).bind fun v14 => (compO s12 (fun (x15 : Int) => (isIn x15 v14)) (fun (x15 : Int) => x15)).bind fun v16 => some v16)) r2 v1).bind fun s12 => some s12
theorem sim_heard_by_all (a0 : Int) (a1 : (List Int) × (List (List (Int × Int)))) (r : List Int) (h : P_heard_by_all a0 a1 = some r) : F_heard_by_all [D.int a0, e_P2TITTP2II a1] = .ok (e_MI r) := by
  refine def_F (e := e_MI) [some (D.int a0), some (e_P2TITTP2II a1), none, none, none, none] rfl rfl (fun _ _ q => nomatch q) h (sm_last ?_)
  unfold f_heard_by_all P_heard_by_all
  refine sm_as ?_
  refine sm_need fun v1 hv1 => ?_
  refine sm_n (ev_asg (ev_listRange (ev_var rfl (enc_int.f _)) hv1) (fun _ q => nomatch q)) ?_
  refine sm_as ?_
  refine sm_need fun r2 hr2 => ?_
  refine sm_forS (e := D.int) (fun (s12 : (List Int)) A => ∃ j3 : Option D, ∃ j4 : Option D, A = [some (D.int a0), some (e_P2TITTP2II a1), some (e_MI s12), j3, j4, none]) ((ev_rangeO (ev_var rfl (enc_int.f _)) hr2)) ⟨_, _, rfl⟩ (fun x3 s12 _ hR => ?_) ?_
  · obtain ⟨j3, j4, rfl⟩ := hR
    refine ⟨[some (D.int a0), some (e_P2TITTP2II a1), some (e_MI s12), some (D.int x3), j4, none], rfl, sm_last ?_⟩
    refine sm_as ?_
    refine sm_need fun v13 hv13 => ?_
    refine sm_need fun v14 hv14 => ?_
    refine sm_n (ev_asgF (ev_bin (ev_fcallN (ev_cons (ev_var rfl (k_P2TITTP2II.f _)) (ev_cons (ev_var rfl (enc_int.f _)) ev_nil)) (ar_F (k_P2TITTP2II.f a1) (ar_F (enc_int.f x3) ar_nil)) (sim_heard_spots a1 x3 _ hv13)) ev_C (gIxX_s (gIx_o (e := e_LI) rfl hv14 (k_LI.f _)) rfl)) (k_LI.f _)) ?_
    refine sm_need fun v16 hv16 => ?_
    refine sm_n (ev_asg (ev_compO (e := D.int) (e' := D.int) (ev_itA (es := List.map D.int s12) (ev_al rfl isF_mu) rfl (z_MI s12) ((fz_F k_LI) s12) rfl) hv16 (fun _ _ q => nomatch q) (fun x15 => ⟨[some (D.int a0), some (e_P2TITTP2II a1), some (e_LI s12), some (D.int x3), some (e_LI v14), some (D.int x15)], rfl, (ev_B (ev_bin (ev_var rfl (enc_int.f _)) (ev_var rfl (k_LI.f _)) (gInX_s (gIn_v enc_int (see_eq (enc_int.see _ x15)) (sq_v (e := D.int) rfl dt_rfl)) rfl))), fun _ => (ev_var rfl (enc_int.f _)), rfl⟩)) (fun _ q => nomatch q)) ?_
    exact sm_endC ⟨_, _, rfl⟩
  rintro s12 _ ⟨j3, j4, rfl⟩
  exact sm_retF (ev_ret_alG (ev_al rfl isF_mu) rfl)
def P_callers (a0 : Int) (a1 : List (List (Int × Int))) (a2 : Int) : Option (List (List Int)) :=
  (P_rows_of a0 a1 a2).bind fun v1 => (P_weather_parts a0 a1 a2).bind fun v2 => (forS (fun (x3 : List Int) (s36 : (List (List Int))) => ((rgLO a0).bind fun v37 => (forS (fun (x38 : Int) (s47 : (List Int)) => ((atI v1 x38).bind fun v48 => (P_heard_by_all a0 v48).bind fun v49 => (compO s47 (fun (x50 : Int) => (isIn x50 v49)) (fun (x50 : Int) => x50)).bind fun v51 => some v51)) x3 v37).bind fun s47 => (appO s36 s47).bind fun v52 => some v52)) v2 ([] : List (List Int))).bind fun s36 => some s36
theorem sim_callers (a0 : Int) (a1 : List (List (Int × Int))) (a2 : Int) (r : List (List Int)) (h : P_callers a0 a1 a2 = some r) : F_callers [D.int a0, e_LTP2II a1, D.int a2] = .ok (e_MMI r) := by
  refine def_F (e := e_MMI) [some (D.int a0), some (e_LTP2II a1), some (D.int a2), none, none, none, none, none, none, none] rfl rfl (fun _ _ q => nomatch q) h (sm_last ?_)
  unfold f_callers P_callers
  refine sm_as ?_
  refine sm_need fun v1 hv1 => ?_
  refine sm_n (ev_asgF_G (ev_fcallN (ev_cons (ev_var rfl (enc_int.f _)) (ev_cons (ev_var rfl (k_LTP2II.f _)) (ev_cons (ev_var rfl (enc_int.f _)) ev_nil))) (ar_F (enc_int.f a0) (ar_F (k_LTP2II.f a1) (ar_F (enc_int.f a2) ar_nil))) (sim_rows_of a0 a1 a2 _ hv1)) (fun _ q => nomatch q) (z_MP2TITTP2II v1)) ?_
  refine sm_as ?_
  refine sm_n (ev_asg (ev_lst ev_nil isFs_nil (short_ _ 0 rfl (by decide))) (fun _ q => nomatch q)) ?_
  refine sm_as ?_
  refine sm_need fun v2 hv2 => ?_
  refine sm_forS (e := e_LI) (fun (s36 : (List (List Int))) A => ∃ j5 : Option D, ∃ j7 : Option D, ∃ j8 : Option D, A = [some (D.int a0), some (e_LTP2II a1), some (D.int a2), some (e_LP2TITTP2II v1), some (e_MMI s36), j5, none, j7, j8, none]) ((ev_itM (es := List.map e_LI v2) (ev_fcallN (ev_cons (ev_var rfl (enc_int.f _)) (ev_cons (ev_var rfl (k_LTP2II.f _)) (ev_cons (ev_var rfl (enc_int.f _)) ev_nil))) (ar_F (enc_int.f a0) (ar_F (k_LTP2II.f a1) (ar_F (enc_int.f a2) ar_nil))) (sim_weather_parts a0 a1 a2 _ hv2)) (fun _ q => nomatch q) (z_MMI v2) rfl)) ⟨_, _, _, rfl⟩ (fun x3 s36 _ hR => ?_) ?_
  · obtain ⟨j5, j7, j8, rfl⟩ := hR
    refine ⟨[some (D.int a0), some (e_LTP2II a1), some (D.int a2), some (e_LP2TITTP2II v1), some (e_MMI s36), some (e_LI x3), none, j7, j8, none], rfl, sm_last ?_⟩
    refine sm_as ?_
    refine sm_need fun v37 hv37 => ?_
    refine sm_n (ev_asg (ev_listRange (ev_var rfl (enc_int.f _)) hv37) (fun _ q => nomatch q)) ?_
    refine sm_as ?_
    refine sm_forS (e := D.int) (fun (s47 : (List Int)) A => ∃ j7 : Option D, ∃ j8 : Option D, A = [some (D.int a0), some (e_LTP2II a1), some (D.int a2), some (e_LP2TITTP2II v1), some (e_MMI s36), some (e_LI x3), some (e_MI s47), j7, j8, none]) ((ev_itF (e := D.int) (ev_var rfl (k_LI.f _)) (k_LI.f _) rfl)) ⟨_, _, rfl⟩ (fun x38 s47 _ hR => ?_) ?_
    · obtain ⟨j7, j8, rfl⟩ := hR
      refine ⟨[some (D.int a0), some (e_LTP2II a1), some (D.int a2), some (e_LP2TITTP2II v1), some (e_MMI s36), some (e_LI x3), some (e_MI s47), some (D.int x38), j8, none], rfl, sm_last ?_⟩
      refine sm_as ?_
      refine sm_need fun v48 hv48 => ?_
      refine sm_need fun v49 hv49 => ?_
      refine sm_n (ev_asgF_G (ev_fcallN (ev_cons (ev_var rfl (enc_int.f _)) (ev_cons (ev_bin (ev_var rfl (k_LP2TITTP2II.f _)) (ev_var rfl (enc_int.f _)) (gIxX_s (gIx_o (e := e_P2TITTP2II) rfl hv48 (k_P2TITTP2II.f _)) rfl)) ev_nil)) (ar_F (enc_int.f a0) (ar_F (k_P2TITTP2II.f v48) ar_nil)) (sim_heard_by_all a0 v48 _ hv49)) (fun _ q => nomatch q) (z_MI v49)) ?_
      refine sm_need fun v51 hv51 => ?_
      refine sm_n (ev_asg (ev_compO (e := D.int) (e' := D.int) (ev_itA (es := List.map D.int s47) (ev_al rfl isF_mu) rfl (z_MI s47) ((fz_F k_LI) s47) rfl) hv51 (fun _ _ q => nomatch q) (fun x50 => ⟨[some (D.int a0), some (e_LTP2II a1), some (D.int a2), some (e_LP2TITTP2II v1), some (e_MMI s36), some (e_LI x3), some (e_LI s47), some (D.int x38), some (e_LI v49), some (D.int x50)], rfl, (ev_B (ev_bin (ev_var rfl (enc_int.f _)) (ev_var rfl (k_LI.f _)) (gInX_s (gIn_v enc_int (see_eq (enc_int.see _ x50)) (sq_v (e := D.int) rfl dt_rfl)) rfl))), fun _ => (ev_var rfl (enc_int.f _)), rfl⟩)) (fun _ q => nomatch q)) ?_
      exact sm_endC ⟨_, _, rfl⟩
    rintro s47 _ ⟨j7, j8, rfl⟩
    refine sm_need fun v52 hv52 => ?_
    refine sm_n (ev_drop (ev_appM_al (e := e_MI) (xs := s36) (x := s47) rfl (ev_al rfl isF_mu) rfl rfl hv52)) ?_
    exact sm_endC ⟨_, _, _, rfl⟩
  rintro s36 _ ⟨j5, j7, j8, rfl⟩
  exact sm_retF (ev_ret_alG (ev_al rfl isF_mu) rfl)
def P__law_whole (a0 : Int) : Option Bool :=
  some (true && (!false))
theorem sim__law_whole (a0 : Int) (r : Bool) (h : P__law_whole a0 = some r) : F__law_whole [D.int a0] = .ok (D.bl r) := by
  refine def_F (e := D.bl) [some (D.int a0)] rfl rfl (fun _ _ q => nomatch q) h (sm_last ?_)
  unfold f__law_whole P__law_whole
  exact sm_retF (ev_ret (ev_andV (ev_cb (ev_cons (ev_var rfl (enc_int.f _)) (ev_cons ev_C ev_nil)) (isi_m (m := "int") rfl (by decide +kernel))) (fun _ => (ev_notV (ev_cb (ev_cons (ev_var rfl (enc_int.f _)) (ev_cons ev_C ev_nil)) (isi_m (m := "int") rfl (by decide +kernel)))))) (fun _ q => nomatch q))
def P_law (a0 : List Int) : Option Bool :=
  (P__law_road_case a0).bind fun v1 => (P__law_rows v1.2.1 v1.2.2).bind fun v2 => (P__law_came_parts v1.1 v2).bind fun v3 => (forS (fun (x4 : List Int) (s37 : (List (List Int))) => ((rgLO v1.1).bind fun v38 => (forS (fun (x39 : Int) (s48 : (List Int)) => ((atI v2 x39).bind fun v49 => (P__law_heard_by_all v1.1 v49).bind fun v50 => (compO s48 (fun (x51 : Int) => (isIn x51 v50)) (fun (x51 : Int) => x51)).bind fun v52 => some v52)) x4 v38).bind fun s48 => (appO s37 s48).bind fun v53 => some v53)) v3 ([] : List (List Int))).bind fun s37 => (P_callers v1.1 v1.2.1 v1.2.2).bind fun v54 => if ((!true) || ((!decide (v54 = s37)) || (!decide (v1.2.1 = v1.2.1)))) = true then (some false) else ((nAppO v54 (0 : Int) (9 : Int)).bind fun v58 => (appO v58 ([] : List Int)).bind fun v59 => (P_callers v1.1 v1.2.1 v1.2.2).bind fun v60 => some (decide (v60 = s37)))
theorem sim_law (a0 : List Int) (r : Bool) (h : P_law a0 = some r) : F_law [e_FI a0] = .ok (D.bl r) := by
  refine def_F (e := D.bl) [some (e_FI a0), none, none, none, none, none, none, none, none, none, none, none, none] rfl rfl (fun _ _ q => nomatch q) h (sm_last ?_)
  unfold f_law P_law
  refine sm_as ?_
  refine sm_need fun v1 hv1 => ?_
  refine sm_n (ev_asgT_G (ev_fcallN (ev_cons (ev_var rfl (k_FI.f _)) ev_nil) (ar_F (k_FI.f a0) ar_nil) (sim__law_road_case a0 _ hv1)) (fun _ q => nomatch q) ((fz_F k_P3ILTP2III) v1) (set_tu3 (enc_int.f _) (k_LTP2II.f _) (enc_int.f _))) ?_
  refine sm_as ?_
  refine sm_need fun v2 hv2 => ?_
  refine sm_n (ev_asgF_G (ev_fcallN (ev_cons (ev_var rfl (k_LTP2II.f _)) (ev_cons (ev_var rfl (enc_int.f _)) ev_nil)) (ar_F (k_LTP2II.f v1.2.1) (ar_F (enc_int.f v1.2.2) ar_nil)) (sim__law_rows v1.2.1 v1.2.2 _ hv2)) (fun _ q => nomatch q) (z_MTTP2II v2)) ?_
  refine sm_as ?_
  refine sm_n (ev_asg (ev_lst ev_nil isFs_nil (short_ _ 0 rfl (by decide))) (fun _ q => nomatch q)) ?_
  refine sm_as ?_
  refine sm_need fun v3 hv3 => ?_
  refine sm_forS (e := e_LI) (fun (s37 : (List (List Int))) A => ∃ j3 : Option D, ∃ j9 : Option D, ∃ j10 : Option D, ∃ j12 : Option D, A = [some (e_FI a0), some (e_LTTP2II v2), some (e_MLI s37), j3, none, none, some (D.int v1.1), some (e_LTP2II v1.2.1), some (D.int v1.2.2), j9, j10, none, j12]) ((ev_itM (es := List.map e_LI v3) (ev_fcallN (ev_cons (ev_var rfl (enc_int.f _)) (ev_cons (ev_var rfl (k_LTTP2II.f _)) ev_nil)) (ar_F (enc_int.f v1.1) (ar_F (k_LTTP2II.f v2) ar_nil)) (sim__law_came_parts v1.1 v2 _ hv3)) (fun _ q => nomatch q) (z_MMI v3) rfl)) ⟨_, _, _, _, rfl⟩ (fun x4 s37 _ hR => ?_) ?_
  · obtain ⟨j3, j9, j10, j12, rfl⟩ := hR
    refine ⟨[some (e_FI a0), some (e_LTTP2II v2), some (e_MLI s37), some (e_LI x4), none, none, some (D.int v1.1), some (e_LTP2II v1.2.1), some (D.int v1.2.2), j9, j10, none, j12], rfl, sm_last ?_⟩
    refine sm_as ?_
    refine sm_need fun v38 hv38 => ?_
    refine sm_n (ev_asgF_G (ev_listRange (ev_var rfl (enc_int.f _)) hv38) (fun _ q => nomatch q) (z_MI v38)) ?_
    refine sm_as ?_
    refine sm_forS (e := D.int) (fun (s48 : (List Int)) A => ∃ j10 : Option D, ∃ j12 : Option D, A = [some (e_FI a0), some (e_LTTP2II v2), some (e_MLI s37), some (e_LI x4), none, none, some (D.int v1.1), some (e_LTP2II v1.2.1), some (D.int v1.2.2), some (e_LI s48), j10, none, j12]) ((ev_itF (e := D.int) (ev_var rfl (k_LI.f _)) (k_LI.f _) rfl)) ⟨_, _, rfl⟩ (fun x39 s48 _ hR => ?_) ?_
    · obtain ⟨j10, j12, rfl⟩ := hR
      refine ⟨[some (e_FI a0), some (e_LTTP2II v2), some (e_MLI s37), some (e_LI x4), none, none, some (D.int v1.1), some (e_LTP2II v1.2.1), some (D.int v1.2.2), some (e_LI s48), some (D.int x39), none, j12], rfl, sm_last ?_⟩
      refine sm_as ?_
      refine sm_need fun v49 hv49 => ?_
      refine sm_need fun v50 hv50 => ?_
      refine sm_n (ev_asgF_G (ev_fcallN (ev_cons (ev_var rfl (enc_int.f _)) (ev_cons (ev_bin (ev_var rfl (k_LTTP2II.f _)) (ev_var rfl (enc_int.f _)) (gIxX_s (gIx_o (e := e_TTP2II) rfl hv49 (k_TTP2II.f _)) rfl)) ev_nil)) (ar_F (enc_int.f v1.1) (ar_F (k_TTP2II.f v49) ar_nil)) (sim__law_heard_by_all v1.1 v49 _ hv50)) (fun _ q => nomatch q) (z_MI v50)) ?_
      refine sm_need fun v52 hv52 => ?_
      refine sm_n (ev_asgF_G (ev_compO (e := D.int) (e' := D.int) (ev_itF (e := D.int) (ev_var rfl (k_LI.f _)) (k_LI.f _) rfl) hv52 (fun _ _ q => nomatch q) (fun x51 => ⟨[some (e_FI a0), some (e_LTTP2II v2), some (e_MLI s37), some (e_LI x4), none, none, some (D.int v1.1), some (e_LTP2II v1.2.1), some (D.int v1.2.2), some (e_LI s48), some (D.int x39), some (D.int x51), some (e_LI v50)], rfl, (ev_B (ev_bin (ev_var rfl (enc_int.f _)) (ev_var rfl (k_LI.f _)) (gInX_s (gIn_v enc_int (see_eq (enc_int.see _ x51)) (sq_v (e := D.int) rfl dt_rfl)) rfl))), fun _ => (ev_var rfl (enc_int.f _)), rfl⟩)) (fun _ q => nomatch q) (z_MI v52)) ?_
      exact sm_endC ⟨_, _, rfl⟩
    rintro s48 _ ⟨j10, j12, rfl⟩
    refine sm_need fun v53 hv53 => ?_
    refine sm_n (ev_drop (ev_appO (e := e_LI) (xs := s37) (x := s48) rfl (ev_var rfl (k_LI.f _)) rfl (fun _ q => nomatch q) hv53)) ?_
    exact sm_endC ⟨_, _, _, _, rfl⟩
  rintro s37 _ ⟨j3, j9, j10, j12, rfl⟩
  refine sm_as ?_
  refine sm_n (ev_asgF_G (ev_cb (ev_cons (ev_var rfl (k_LTP2II.f _)) ev_nil) (gList_sq (es := List.map e_TP2II v1.2.1) rfl (k_TP2II.fs _))) (fun _ q => nomatch q) (z_MTP2II v1.2.1)) ?_
  refine sm_as ?_
  refine sm_need fun v54 hv54 => ?_
  refine sm_n (ev_asg (ev_fcallN (ev_cons (ev_var rfl (enc_int.f _)) (ev_cons (ev_var rfl (k_LTP2II.f _)) (ev_cons (ev_var rfl (enc_int.f _)) ev_nil))) (ar_F (enc_int.f v1.1) (ar_F (k_LTP2II.f v1.2.1) (ar_F (enc_int.f v1.2.2) ar_nil))) (sim_callers v1.1 v1.2.1 v1.2.2 _ hv54)) (fun _ q => nomatch q)) ?_
  refine sm_as ?_
  refine sm_ifs ((ev_or2 (ev_not (ev_B (ev_cb (ev_cons (ev_al rfl isF_mu) (ev_cons ev_C ev_nil)) (isi_m (m := "list") rfl (by decide +kernel))))) (fun _ => (ev_or2 (ev_B (ev_bin (ev_al rfl isF_mu) (ev_al rfl isF_mu) (gNe_v k_LLI (see_dat (e := e_MMI) rfl t_MMI) (see_dat (e := e_MLI) rfl t_MLI)))) (fun _ => (ev_B (ev_bin (ev_var rfl (k_LTP2II.f _)) (ev_var rfl (k_LTP2II.f _)) (gNe_v k_LTP2II (see_eq (k_LTP2II.see _ v1.2.1)) (see_eq (k_LTP2II.see _ v1.2.1)))))))))) (fun hb => ?_) (fun hb => ?_)
  · exact sm_retF (ev_ret ev_C (fun _ q => nomatch q))
  · refine sm_skip ?_
    refine sm_as ?_
    refine sm_n (ev_look (xs := v54) rfl (by simp) (by simp) (fun (x55 : List Int) => isFls_of (b := (!true)) (ev_not (ev_B (ev_cb (ev_cons (ev_var rfl (k_LI.f _)) (ev_cons ev_C ev_nil)) (isi_m (m := "list") rfl (by decide +kernel))))) (by rfl)) (fun (x56 : Int) => (fun (v57 : Bool) (hv57 : (P__law_whole x56) = some v57) (ev57 : v57 = true) => isFls_of (b := (!v57)) (ev_not (ev_B (ev_fcallS (ev_cons (ev_var rfl (enc_int.f _)) ev_nil) (ar_F (enc_int.f x56) ar_nil) (sim__law_whole x56 _ hv57) rfl))) (by rw [ev57]; rfl)) true rfl rfl)) ?_
    refine sm_as ?_
    refine sm_need fun v58 hv58 => ?_
    refine sm_n (ev_drop (ev_nappI (xs := v54) rfl ev_C hv58)) ?_
    refine sm_as ?_
    refine sm_need fun v59 hv59 => ?_
    refine sm_n (ev_drop (ev_appO (e := e_MI) (xs := v58) (x := []) rfl (ev_lst ev_nil isFs_nil (short_ _ 0 rfl (by decide))) rfl (fun _ q => nomatch q) hv59)) ?_
    refine sm_need fun v60 hv60 => ?_
    exact sm_retF (ev_ret (ev_bin (ev_fcallN (ev_cons (ev_var rfl (enc_int.f _)) (ev_cons (ev_var rfl (k_LTP2II.f _)) (ev_cons (ev_var rfl (enc_int.f _)) ev_nil))) (ar_F (enc_int.f v1.1) (ar_F (k_LTP2II.f v1.2.1) (ar_F (enc_int.f v1.2.2) ar_nil))) (sim_callers v1.1 v1.2.1 v1.2.2 _ hv60)) (ev_al rfl isF_mu) (gEq_v k_LLI (see_dat (e := e_MMI) rfl t_MMI) (see_dat (e := e_MLI) rfl t_MLI))) (fun _ q => nomatch q))
end Lw
end
section
namespace Lw
open PySem L2 Ab
/-! ### the script's numbers -/
abbrev Wt := List (Int × Int)
abbrev Rn := List Int × List Wt
def cell (ns : List Int) (k : Int) : Int := if k < ns.length then ns.getD k.toNat 0 else 0
theorem cell_eq (ns : List Int) (k : Int) (h0 : 0 ≤ k) : P__law_cell_at ns k = some (cell ns k) := by
  unfold P__law_cell_at cell
  by_cases h : k < ns.length
  · rw [if_pos (by simpa using h), if_pos h, atI_ok (d := 0) h0 h]; rfl
  · rw [if_neg (by simpa using h), if_neg h]
theorem mix_ok (c k : Int) (h0 : 0 ≤ k) (h1 : k ≤ 1000) : Ok (P__law_mix c k) fun v => 0 ≤ v := by
  unfold P__law_mix
  refine ok_if (fun _ => ?_) fun _ => ?_
  · refine ok_let ?_
    refine ok_b (rgO_int (by omega) (by omega)) ?_
    refine ok_bind (ok_forS (fun _ _ => True) True.intro fun i x s _ _ => ok_let (ok_some True.intro)) fun s _ => ?_
    exact ok_some (by omega)
  · refine ok_b (mulO_l (by omega)) (ok_let ?_)
    refine ok_b (mulO_l (by omega)) (ok_let ?_)
    refine ok_b (mulO_l (by omega)) ?_
    exact ok_some (by omega)
def mixV (c k : Int) : Int := (P__law_mix c k).getD 0
theorem mix_eq (c k : Int) (h0 : 0 ≤ k) (h1 : k ≤ 1000) : P__law_mix c k = some (mixV c k) := by
  obtain ⟨v, e, _⟩ := mix_ok c k h0 h1
  unfold mixV; rw [e]; rfl
theorem mix_nn (c k : Int) (h0 : 0 ≤ k) (h1 : k ≤ 1000) : 0 ≤ mixV c k := by
  obtain ⟨v, e, h⟩ := mix_ok c k h0 h1
  unfold mixV; rw [e]; exact h
/-! ### letters -/
def pairsL (h : Nat) : Wt := (rg h).flatMap fun a => ((rg h).filter fun b => !decide (a = b)).map fun b => (a, b)
theorem pairs_eq (h : Nat) (h2 : 2 ≤ h ∧ h ≤ 4) : P__law_pairs h = some (pairsL h) := by
  have e : ∀ h : Fin 3, P__law_pairs ((h.1 : Nat) + 2 : Nat) = some (pairsL (h.1 + 2)) := by decide +kernel
  have := e ⟨h - 2, by omega⟩
  rwa [show (h - 2) + 2 = h by omega] at this
theorem pairs_len (h : Nat) (h2 : 2 ≤ h ∧ h ≤ 4) : 0 < (pairsL h).length ∧ (pairsL h).length ≤ 12 := by
  rcases (by omega : h = 2 ∨ h = 3 ∨ h = 4) with rfl | rfl | rfl <;> decide
theorem weather_ok (n : Int) (h : Nat) (h2 : 2 ≤ h ∧ h ≤ 4) : Ok (P__law_weather n h) fun w => w.Sublist (pairsL h) := by
  have hz := sizeLine_eq
  have hp := pairs_len h h2
  unfold P__law_weather
  refine ok_b (pairs_eq h h2) ?_
  refine ok_bind (ok_forS (fun i s => s.2.Sublist ((pairsL h).take i)) (by simp) fun i x s hx hs => ?_) fun s hs => ?_
  · have hi := (List.getElem?_eq_some_iff.mp hx).1
    have ht : (pairsL h).take (i + 1) = (pairsL h).take i ++ [x] := by rw [List.take_add_one, hx]; rfl
    refine ok_bind (P := fun v => v.Sublist ((pairsL h).take (i + 1))) (ok_if (fun _ => ?_) fun _ => ok_some ?_) fun v hv => ok_let (ok_some hv)
    · have := hs.length_le
      rw [List.length_take] at this
      exact ok_b (appO_ok (by omega)) (ok_some (by rw [ht]; exact hs.append (List.Sublist.refl _)))
    · rw [ht]; exact hs.trans (List.sublist_append_left _ _)
  · rw [List.take_length] at hs
    exact ok_some hs
/-! ### letters that come; what is heard -/
def came (h : Nat) (w : Wt) (j : Int) : List Int := (rg h).filter fun o => !decide (o = j) && !isIn (o, j) w
theorem mem_came {h : Nat} {w : Wt} {j o : Int} : o ∈ came h w j ↔ (0 ≤ o ∧ o < h) ∧ o ≠ j ∧ (o, j) ∉ w := by
  unfold came
  rw [List.mem_filter, mem_rg]
  simp [isIn_f]
theorem came_len (h : Nat) (w : Wt) (j : Int) : (came h w j).length ≤ h := by
  unfold came
  exact Nat.le_trans (List.length_filter_le _ _) (by rw [rg_len]; exact Nat.le_refl _)
theorem came_to_eq (h : Nat) (hh : h ≤ 4) (w : Wt) (j : Int) : P_came_to h w j = some (came h w j) := by
  have hz := sizeLine_eq
  unfold P_came_to
  rw [rgO_ok (by omega)]
  show (compO _ _ _).bind _ = _
  rw [compO_ok (by rw [rg_len]; omega)]
  simp [came]
/-- the spot of o ahead of ws is heard by a behind ws -/
def heard (h : Nat) : List Wt → Int → Int → Prop
  | [], o, a => o = a
  | w :: ws, o, a => heard h ws o a ∨ ∃ j, o ∈ came h w j ∧ heard h ws j a
def heardB (h : Nat) : List Wt → Int → Int → Bool
  | [], o, a => decide (o = a)
  | w :: ws, o, a => heardB h ws o a || (rg h).any fun j => isIn o (came h w j) && heardB h ws j a
theorem heard_rg (h : Nat) : ∀ (ws : List Wt) (o a : Int), 0 ≤ a ∧ a < h → heard h ws o a → 0 ≤ o ∧ o < h
  | [], o, a, ha, e => by rw [show o = a from e]; exact ha
  | w :: ws, o, a, ha, e => by
    rcases e with e | ⟨j, e1, _⟩
    · exact heard_rg h ws o a ha e
    · exact (mem_came.mp e1).1
theorem heardB_iff (h : Nat) (a : Int) (ha : 0 ≤ a ∧ a < h) : ∀ (ws : List Wt) (o : Int), heardB h ws o a = true ↔ heard h ws o a
  | [], o => by simp [heardB, heard]
  | w :: ws, o => by
    unfold heardB heard
    rw [Bool.or_eq_true, heardB_iff h a ha ws o, List.any_eq_true]
    constructor
    · rintro (e | ⟨j, _, e⟩)
      · exact .inl e
      · rw [Bool.and_eq_true, heardB_iff h a ha ws j, isIn_iff] at e
        exact .inr ⟨j, e⟩
    · rintro (e | ⟨j, e1, e2⟩)
      · exact .inl e
      · refine .inr ⟨j, mem_rg.mpr (heard_rg h ws j a ha e2), ?_⟩
        rw [Bool.and_eq_true, heardB_iff h a ha ws j, isIn_iff]
        exact ⟨e1, e2⟩
theorem heard_self (h : Nat) (a : Int) : ∀ ws : List Wt, heard h ws a a
  | [] => rfl
  | _ :: ws => .inl (heard_self h a ws)
/-- the last round ahead of the others -/
theorem heard_snoc (h : Nat) (w : Wt) (a : Int) : ∀ (ws : List Wt) (o : Int), heard h (ws ++ [w]) o a ↔ heard h ws o a ∨ ∃ j, heard h ws o j ∧ j ∈ came h w a
  | [], o => by
    show (o = a ∨ ∃ j, o ∈ came h w j ∧ j = a) ↔ (o = a ∨ ∃ j, o = j ∧ j ∈ came h w a)
    constructor
    · rintro (e | ⟨j, e, rfl⟩)
      · exact .inl e
      · exact .inr ⟨o, rfl, e⟩
    · rintro (e | ⟨j, rfl, e⟩)
      · exact .inl e
      · exact .inr ⟨a, e, rfl⟩
  | v :: ws, o => by
    show (heard h (ws ++ [w]) o a ∨ ∃ j, o ∈ came h v j ∧ heard h (ws ++ [w]) j a) ↔ _
    rw [heard_snoc h w a ws o]
    constructor
    · rintro ((e | ⟨j, e1, e2⟩) | ⟨j, e1, e2⟩)
      · exact .inl (.inl e)
      · exact .inr ⟨j, .inl e1, e2⟩
      · rcases (heard_snoc h w a ws j).mp e2 with e | ⟨i, e3, e4⟩
        · exact .inl (.inr ⟨j, e1, e⟩)
        · exact .inr ⟨i, .inr ⟨j, e1, e3⟩, e4⟩
    · rintro ((e | ⟨j, e1, e2⟩) | ⟨j, (e1 | ⟨i, e1, e3⟩), e2⟩)
      · exact .inl (.inl e)
      · exact .inr ⟨j, e1, (heard_snoc h w a ws j).mpr (.inl e2)⟩
      · exact .inl (.inr ⟨j, e1, e2⟩)
      · exact .inr ⟨i, e1, (heard_snoc h w a ws i).mpr (.inr ⟨j, e3, e2⟩)⟩
abbrev Vw := Int × List (Option Int) × List (List (Option (List Int)))
/-- a view -/
def viewS (h : Nat) (r : Rn) (a : Int) : Vw := (a, (rg h).map fun o => if heardB h r.2 o a = true then some (r.1.getD o.toNat 0) else none, (enumL r.2).map fun p => (rg h).map fun o => if heardB h (r.2.drop (p.1.toNat + 1)) o a = true then some (came h p.2 o) else none)
/-- a list of hands, each once -/
def Gl (h : Nat) (l : List Int) : Prop := l.Nodup ∧ ∀ x ∈ l, 0 ≤ x ∧ x < (h : Int)
theorem Gl.len : ∀ {h : Nat} {l : List Int}, Gl h l → l.length ≤ h
  | 0, [], _ => Nat.le_refl _
  | 0, x :: _, k => by have := k.2 x List.mem_cons_self; omega
  | h + 1, l, k => by
    have k2 : Gl h (l.erase (h : Int)) := by
      refine ⟨k.1.erase _, fun x m => ?_⟩
      have a := k.2 x (List.mem_of_mem_erase m)
      have b : x ≠ (h : Int) := fun e => (k.1.not_mem_erase (a := (h : Int))) (by rw [← e]; exact (by rw [← e] at m; exact m))
      omega
    have := Gl.len k2
    by_cases m : (h : Int) ∈ l
    · rw [List.length_erase_of_mem m] at this; omega
    · rw [List.erase_of_not_mem m] at this; omega
theorem Gl.app {h : Nat} {l : List Int} (k : Gl h l) {x : Int} (hx : 0 ≤ x ∧ x < (h : Int)) (nm : x ∉ l) : Gl h (l ++ [x]) := by
  refine ⟨?_, fun y m => ?_⟩
  · rw [List.nodup_append]
    exact ⟨k.1, by simp, fun a ha b hb e => nm (by simp at hb; rw [← hb, ← e]; exact ha)⟩
  · rcases List.mem_append.mp m with m | m
    · exact k.2 y m
    · rw [List.mem_singleton.mp m]; exact hx
theorem mem_take_succ {α : Type} {xs : List α} {i : Nat} {x y : α} (h : xs[i]? = some x) : y ∈ xs.take (i + 1) ↔ y ∈ xs.take i ∨ y = x := by
  rw [List.take_add_one, h, List.mem_append]
  simp
theorem heard_ok (r : Rn) (h : Nat) (hl : r.1.length = h) (hh : h ≤ 4) (hw : r.2.length ≤ 5) (a : Int) (ha : 0 ≤ a ∧ a < (h : Int)) : Ok (P_heard_spots r a) fun rows => rows.length = r.2.length + 1 ∧ ∀ t, t ≤ r.2.length → ∃ l, rows[t]? = some l ∧ Gl h l ∧ ∀ o, o ∈ l ↔ heard h (r.2.drop t) o a := by
  have hz := sizeLine_eq
  unfold P_heard_spots
  refine ok_let (ok_let ?_)
  refine ok_bind (ok_forS (fun i s => s.2.length = i + 1 ∧ (Gl h s.1 ∧ ∀ o, o ∈ s.1 ↔ heard h (r.2.drop (r.2.length - i)) o a) ∧ ∀ k, k ≤ i → ∃ l, s.2[k]? = some l ∧ Gl h l ∧ ∀ o, o ∈ l ↔ heard h (r.2.drop (r.2.length - k)) o a) ?_ fun i w s hx hs => ?_) fun s hs => ?_
  · have g : Gl h [a] ∧ ∀ o, o ∈ [a] ↔ heard h (r.2.drop (r.2.length - 0)) o a := ⟨⟨by simp, by simpa using ha⟩, fun o => by simp [heard]⟩
    refine ⟨rfl, g, fun k hk => ?_⟩
    obtain rfl : k = 0 := by omega
    exact ⟨[a], rfl, g⟩
  · obtain ⟨hlen, ⟨gl, mem⟩, rows⟩ := hs
    have hi : i < r.2.length := by have := (List.getElem?_eq_some_iff.mp hx).1; simpa using this
    have hw2 : r.2[r.2.length - 1 - i]? = some w := by rw [List.getElem?_reverse hi] at hx; exact hx
    have hdrop : r.2.drop (r.2.length - (i + 1)) = w :: r.2.drop (r.2.length - i) := by
      have e : r.2.length - (i + 1) = r.2.length - 1 - i := by omega
      have h2 : r.2.length - 1 - i < r.2.length := by omega
      rw [e, List.drop_eq_getElem_cons h2]
      rw [List.getElem?_eq_getElem h2] at hw2
      rw [Option.some.inj hw2, show r.2.length - 1 - i + 1 = r.2.length - i by omega]
    refine ok_bind (ok_forS (fun k m => Gl h m ∧ ∀ x, x ∈ m ↔ x ∈ s.1 ∨ ∃ o ∈ s.1.take k, x ∈ came h w o) ⟨gl, fun x => by simp⟩ fun k o m ho hm => ?_) fun m hm => ?_
    · rw [hl]
      refine ok_b (came_to_eq h hh w o) ?_
      refine ok_bind (ok_forS (fun j q => Gl h q ∧ ∀ x, x ∈ q ↔ x ∈ m ∨ x ∈ (came h w o).take j) ⟨hm.1, fun x => by simp⟩ fun j y q hy hq => ?_) fun q hq => ok_some ⟨hq.1, fun x => ?_⟩
      · have yc := mem_came.mp (mem_getElem hy)
        refine ok_if (fun hb => ?_) fun hb => ok_some ⟨hq.1, fun x => ?_⟩
        · have nm : y ∉ q := isIn_f.mp (by simpa using hb)
          have := hq.1.len
          refine ok_b (appO_ok (by omega)) (ok_some ⟨hq.1.app yc.1 nm, fun x => ?_⟩)
          rw [List.mem_append, hq.2 x, mem_take_succ hy, List.mem_singleton, or_assoc]
        · have nm : y ∈ q := isIn_iff.mp (by simpa using hb)
          rw [hq.2 x, mem_take_succ hy]
          constructor
          · rintro (e | e)
            · exact .inl e
            · exact .inr (.inl e)
          · rintro (e | e | e)
            · exact .inl e
            · exact .inr e
            · rw [e]; exact (hq.2 y).mp nm
      · rw [hq.2 x, hm.2 x, List.take_length]
        constructor
        · rintro ((e | ⟨o', m1, e⟩) | e)
          · exact .inl e
          · exact .inr ⟨o', (mem_take_succ ho).mpr (.inl m1), e⟩
          · exact .inr ⟨o, (mem_take_succ ho).mpr (.inr rfl), e⟩
        · rintro (e | ⟨o', m1, e⟩)
          · exact .inl (.inl e)
          · rcases (mem_take_succ ho).mp m1 with m1 | rfl
            · exact .inl (.inr ⟨o', m1, e⟩)
            · exact .inr e
    · rw [List.take_length] at hm
      have key : ∀ o, o ∈ m ↔ heard h (r.2.drop (r.2.length - (i + 1))) o a := fun o => by
        rw [hm.2 o, hdrop]
        show _ ↔ heard h _ o a ∨ ∃ j, o ∈ came h w j ∧ heard h _ j a
        rw [mem o]
        constructor
        · rintro (e | ⟨j, e1, e2⟩)
          · exact .inl e
          · exact .inr ⟨j, e2, (mem j).mp e1⟩
        · rintro (e | ⟨j, e1, e2⟩)
          · exact .inl e
          · exact .inr ⟨j, (mem j).mpr e2, e1⟩
      refine ok_b (appO_ok (by omega)) (ok_some ⟨by simp [hlen], ⟨hm.1, key⟩, fun k hk => ?_⟩)
      by_cases e : k = i + 1
      · refine ⟨m, ?_, hm.1, by rw [e]; exact key⟩
        show (s.2 ++ [m])[k]? = _
        rw [e, List.getElem?_append_right (by omega), hlen]; simp
      · obtain ⟨l, h1, h2⟩ := rows k (by omega)
        refine ⟨l, ?_, h2⟩
        show (s.2 ++ [m])[k]? = _
        rw [List.getElem?_append_left (by omega)]; exact h1
  · rw [List.length_reverse] at hs
    obtain ⟨hlen, _, rows⟩ := hs
    refine ok_some ⟨by simp [hlen], fun t ht => ?_⟩
    obtain ⟨l, h1, h2, h3⟩ := rows (r.2.length - t) (by omega)
    refine ⟨l, ?_, h2, fun o => ?_⟩
    · rw [List.getElem?_reverse (by omega), hlen, show r.2.length + 1 - 1 - t = r.2.length - t by omega]; exact h1
    · rw [h3 o, show r.2.length - (r.2.length - t) = t by omega]
theorem cut_drop {α : Type} (s : List α) (h : 1 ≤ s.length) : cutG s (some 1) none = s.drop 1 := by
  have e1 : HT.sIx s.length 0 (some 1) = 1 := by unfold HT.sIx; simp; omega
  have e2 : HT.sIx s.length s.length none = s.length := rfl
  unfold cutG
  rw [e1, e2, List.take_of_length_le]
  rw [List.length_drop]
  exact Nat.le_refl _
theorem if_heard (h : Nat) (ws : List Wt) (o a : Int) (ha : 0 ≤ a ∧ a < (h : Int)) {l : List Int} (hm : o ∈ l ↔ heard h ws o a) : isIn o l = heardB h ws o a := by
  have e := heardB_iff h a ha ws o
  by_cases q : o ∈ l
  · rw [isIn_iff.mpr q, e.mpr (hm.mp q)]
  · rw [isIn_f.mpr q]
    cases hb : heardB h ws o a with
    | false => rfl
    | true => exact absurd (hm.mpr (e.mp hb)) q
theorem view_eq (r : Rn) (h : Nat) (hl : r.1.length = h) (hh : h ≤ 4) (hw : r.2.length ≤ 5) (a : Int) (ha : 0 ≤ a ∧ a < (h : Int)) : P_view r a = some (viewS h r a) := by
  have hz := sizeLine_eq
  obtain ⟨rows, e, hlen, hrows⟩ := heard_ok r h hl hh hw a ha
  refine ok_is ?_
  unfold P_view
  refine ok_b e (ok_let ?_)
  rw [hl]
  refine ok_b (rgO_ok (by omega)) ?_
  obtain ⟨l0, g0, gl0, mem0⟩ := hrows 0 (Nat.zero_le _)
  refine ok_b (forS_maps (fun o => if heardB h r.2 o a = true then some (r.1.getD o.toNat 0) else none) _ _ (by simp [rg_len]; omega) fun o ho s hs => ?_) ?_
  · have ho := mem_rg.mp ho
    rw [atI_get0 (by decide) (show rows[(0 : Int).toNat]? = some l0 from g0)]
    show (if isIn o l0 = true then _ else _) = _
    rw [if_heard h r.2 o a ha (by simpa using mem0 o)]
    by_cases q : heardB h r.2 o a = true
    · rw [if_pos q, if_pos q, atI_ok (d := 0) ho.1 (by omega)]
      show (appO _ _).bind _ = _
      rw [appO_ok hs]; rfl
    · rw [if_neg q, if_neg q, appO_ok hs]; rfl
  rw [List.nil_append, cut_drop rows (by omega)]
  refine ok_b (forS_maps (fun p => (rg h).map fun o => if isIn o p.1 = true then some (came h p.2 o) else none) _ _ (by simp [List.length_zip]; omega) fun p hp s hs => ?_) ?_
  · refine ok_is ?_
    refine ok_b (rgO_ok (by omega)) ?_
    refine ok_b (forS_maps (fun o => if isIn o p.1 = true then some (came h p.2 o) else none) _ _ (by simp [rg_len]; omega) fun o ho q hq => ?_) ?_
    · by_cases c : isIn o p.1 = true
      · rw [if_pos c, if_pos c, came_to_eq h hh]
        show (appO _ _).bind _ = _
        rw [appO_ok hq]; rfl
      · rw [if_neg c, if_neg c, appO_ok hq]; rfl
    · rw [List.nil_append]
      exact ok_b (appO_ok hs) (ok_some rfl)
  · refine ok_some ?_
    unfold viewS
    rw [List.nil_append]
    congr 2
    apply List.ext_getElem?
    intro t
    rw [List.getElem?_map, List.getElem?_map]
    by_cases ht : t < r.2.length
    · obtain ⟨l, h1, h2, h3⟩ := hrows (t + 1) (by omega)
      have z1 : ((rows.drop 1).zip r.2)[t]? = some (l, r.2[t]) := by
        rw [List.getElem?_zip_eq_some, List.getElem?_drop, Nat.add_comm 1 t]
        exact ⟨h1, List.getElem?_eq_getElem ht⟩
      have z2 : (enumL r.2)[t]? = some ((t : Int), r.2[t]) := by
        unfold enumL
        rw [List.getElem?_zip_eq_some]
        exact ⟨rg_at (h := r.2.length) ht, List.getElem?_eq_getElem ht⟩
      rw [z1, z2]
      show some _ = some _
      congr 1
      refine List.map_congr_left fun o _ => ?_
      show (if isIn o l = true then _ else _) = if heardB h (r.2.drop ((t : Int).toNat + 1)) o a = true then _ else _
      rw [if_heard h (r.2.drop (t + 1)) o a ha (h3 o)]
      rfl
    · rw [List.getElem?_eq_none (by simp; omega), List.getElem?_eq_none (by rw [enumL_len]; omega)]
      rfl
/-! ### views gathered forwards -/
theorem senders_eq (h : Nat) (hh : h ≤ 4) (w : Wt) (j : Int) : P__law_senders h w j = some (came h w j) := by
  have hz := sizeLine_eq
  unfold P__law_senders
  rw [rgO_ok (by omega)]
  show (forS _ _ _).bind _ = _
  rw [forS_filt (fun o => !decide (o = j) && !isIn (o, j) w) (fun o => o) _ _ (by simp [rg_len]; omega) fun x hx s hs => ?_]
  · simp [came]
  · by_cases q : (!decide (x = j) && !isIn (x, j) w) = true
    · rw [if_pos q, if_pos q, appO_ok hs]; rfl
    · rw [if_neg q, if_neg q]
abbrev Spots := List ((Int × Int) × Bool)
abbrev nk2 : Int × Int → NestedKey := nkP NestedKey.num NestedKey.num
def allK : List (Int × Int) := (rg 4).flatMap fun o => (rg 6).map fun u => (o, u)
theorem mem_allK {k : Int × Int} : k ∈ allK ↔ (0 ≤ k.1 ∧ k.1 < 4) ∧ 0 ≤ k.2 ∧ k.2 < 6 := by
  unfold allK
  rw [List.mem_flatMap]
  constructor
  · rintro ⟨o, ho, hk⟩
    obtain ⟨u, hu, rfl⟩ := List.mem_map.mp hk
    exact ⟨mem_rg.mp ho, mem_rg.mp hu⟩
  · rintro ⟨h1, h2⟩
    exact ⟨k.1, mem_rg.mpr h1, List.mem_map.mpr ⟨k.2, mem_rg.mpr h2, rfl⟩⟩
def hv (k : Int × Int) : Int := (nkH (nk2 k)).getD 0
theorem hv_all : (allK.all fun k => (nkH (nk2 k)).isSome) = true ∧ (allK.map hv).Nodup := by
  constructor
  · decide +kernel
  · decide +kernel
theorem hv_inj {a b : Int × Int} (ha : a ∈ allK) (hb : b ∈ allK) (e : hv a = hv b) : a = b := by
  obtain ⟨i, hi⟩ := List.mem_iff_getElem?.mp ha
  obtain ⟨j, hj⟩ := List.mem_iff_getElem?.mp hb
  have n := hv_all.2
  have li := (List.getElem?_eq_some_iff.mp hi).1
  have : i = j := (List.getElem?_inj (by rw [List.length_map]; exact li) n).mp (by rw [List.getElem?_map, List.getElem?_map, hi, hj]; show some _ = some _; rw [e])
  subst this
  rw [hi] at hj
  exact Option.some.inj hj
structure Gd2 (d : Spots) : Prop where
  nd : (d.map (·.1)).Nodup
  inK : ∀ k ∈ d.map (·.1), k ∈ allK
  tr : ∀ p ∈ d, p.2 = true
theorem dHas_mem {κ ν : Type} [DecidableEq κ] (d : List (κ × ν)) (k : κ) : dHas d k = true ↔ k ∈ d.map (·.1) := by
  unfold dHas
  induction d with
  | nil => simp [dGet]
  | cons p r ih =>
    unfold dGet
    by_cases q : p.1 = k
    · simp [q]
    · rw [if_neg q, ih, List.map_cons, List.mem_cons]
      constructor
      · exact .inr
      · rintro (e | e)
        · exact absurd e.symm q
        · exact e
theorem dHas_put {κ ν : Type} [DecidableEq κ] (d : List (κ × ν)) (k k' : κ) (v : ν) : dHas (dPut d k v) k' = true ↔ k' = k ∨ dHas d k' = true := by
  unfold dHas
  rw [dGet_put]
  by_cases q : k' = k <;> simp [q]
theorem dHas_mrg {κ ν : Type} [DecidableEq κ] : ∀ (e d : List (κ × ν)) (k : κ), dHas (dMrg d e) k = true ↔ dHas d k = true ∨ dHas e k = true
  | [], d, k => by
    show dHas d k = true ↔ _
    simp [dHas, dGet]
  | p :: e, d, k => by
    show dHas (dMrg (dPut d p.1 p.2) e) k = true ↔ _
    rw [dHas_mrg e, dHas_put, dHas_mem (p :: e), List.map_cons, List.mem_cons, dHas_mem e]
    constructor
    · rintro ((a | a) | a) <;> simp [a]
    · rintro (a | a | a) <;> simp [a]
theorem dPut_nodup {κ ν : Type} [DecidableEq κ] (d : List (κ × ν)) (k : κ) (v : ν) (h : (d.map (·.1)).Nodup) : ((dPut d k v).map (·.1)).Nodup := by
  induction d with
  | nil => simp [dPut]
  | cons p r ih =>
    rw [List.map_cons, List.nodup_cons] at h
    unfold dPut
    by_cases q : p.1 = k
    · rw [if_pos q, List.map_cons, List.nodup_cons]; exact h
    · rw [if_neg q, List.map_cons, List.nodup_cons]
      refine ⟨fun m => ?_, ih h.2⟩
      rcases (dHas_put r k p.1 v).mp ((dHas_mem _ _).mpr m) with e | e
      · exact q e
      · exact h.1 ((dHas_mem _ _).mp e)
theorem dPut_mem {κ ν : Type} [DecidableEq κ] (d : List (κ × ν)) (k : κ) (v : ν) {p : κ × ν} (m : p ∈ dPut d k v) : p ∈ d ∨ p.2 = v := by
  induction d with
  | nil => rw [List.mem_singleton.mp m]; exact .inr rfl
  | cons q r ih =>
    unfold dPut at m
    by_cases e : q.1 = k
    · rw [if_pos e] at m
      rcases List.mem_cons.mp m with m | m
      · rw [m]; exact .inr rfl
      · exact .inl (List.mem_cons_of_mem _ m)
    · rw [if_neg e] at m
      rcases List.mem_cons.mp m with m | m
      · rw [m]; exact .inl List.mem_cons_self
      · exact (ih m).imp (List.mem_cons_of_mem _) id
theorem Gd2.put {d : Spots} (g : Gd2 d) {k : Int × Int} (hk : k ∈ allK) : Gd2 (dPut d k true) where
  nd := dPut_nodup d k true g.nd
  inK := fun k' m => by
    rcases (dHas_put d k k' true).mp ((dHas_mem _ _).mpr m) with e | e
    · rw [e]; exact hk
    · exact g.inK k' ((dHas_mem _ _).mp e)
  tr := fun p m => (dPut_mem d k true m).elim (g.tr p) id
theorem Gd2.mrg {e : Spots} (ge : ∀ k ∈ e.map (·.1), k ∈ allK) : ∀ {d : Spots}, Gd2 d → (∀ p ∈ e, p.2 = true) → Gd2 (dMrg d e) := by
  induction e with
  | nil => exact fun g _ => g
  | cons p e ih =>
    intro d g hp
    have : p.2 = true := hp p List.mem_cons_self
    show Gd2 (dMrg (dPut d p.1 p.2) e)
    rw [this]
    exact ih (fun k m => ge k (by rw [List.map_cons]; exact List.mem_cons_of_mem _ m)) (g.put (ge p.1 (by simp))) fun q m => hp q (List.mem_cons_of_mem _ m)
theorem Gd2.len {d : Spots} (g : Gd2 d) : d.length ≤ 24 := by
  have gl : Gl 24 ((d.map (·.1)).map fun k => k.1 * 6 + k.2) := by
    refine ⟨nodup_map_on g.nd fun a ha b hb e => ?_, fun x hx => ?_⟩
    · have h1 := mem_allK.mp (g.inK a ha)
      have h2 := mem_allK.mp (g.inK b hb)
      exact Prod.ext (by omega) (by omega)
    · obtain ⟨k, hk, rfl⟩ := List.mem_map.mp hx
      have := mem_allK.mp (g.inK k hk)
      omega
  have := gl.len
  simpa using this
theorem hashP_eq : ∀ {d : Spots}, (∀ k ∈ d.map (·.1), k ∈ allK) → hashP nk2 d = some ((d.map (·.1)).map hv)
  | [], _ => rfl
  | p :: d, h => by
    have h1 : (nkH (nk2 p.1)).isSome = true := List.all_eq_true.mp hv_all.1 p.1 (h p.1 (by simp))
    have h2 := hashP_eq (d := d) fun k m => h k (by rw [List.map_cons]; exact List.mem_cons_of_mem _ m)
    unfold hashP at h2 ⊢
    rw [List.mapM_cons, h2]
    obtain ⟨a, ha⟩ := Option.isSome_iff_exists.mp h1
    rw [ha]
    show some _ = some _
    simp [hv, ha]
theorem Gd2.hash {d : Spots} (g : Gd2 d) : hashN nk2 d = true := by
  unfold hashN
  rw [hashP_eq g.inK]
  exact decide_eq_true (nodup_map_on g.nd fun a ha b hb e => hv_inj (g.inK a ha) (g.inK b hb) e)
theorem lawview_eq (r : Rn) (h : Nat) (hl : r.1.length = h) (h2 : 2 ≤ h ∧ h ≤ 4) (hw : r.2.length ≤ 5) (a : Int) (ha : 0 ≤ a ∧ a < (h : Int)) : P__law_view r a = some (viewS h r a) := by
  have hz := sizeLine_eq
  refine ok_is ?_
  unfold P__law_view
  refine ok_let ?_
  rw [hl]
  refine ok_b (rgO_ok (by omega)) ?_
  refine ok_b (compO_all (by rw [rg_len]; omega)) ?_
  refine ok_bind (ok_forS (fun t (known : List Spots) => known.length = h ∧ ∀ j : Int, 0 ≤ j → j < h → ∃ d, known[j.toNat]? = some d ∧ Gd2 d ∧ ∀ o u : Int, dHas d (o, u) = true ↔ (0 ≤ u ∧ u ≤ t) ∧ heard h ((r.2.take t).drop u.toNat) o j) ?_ fun t p known hp hk => ?_) fun known hk => ?_
  · refine ⟨by simp [rg_len], fun j j0 j1 => ⟨[((j, 0), true)], ?_, ⟨by simp, fun k hk => ?_, by simp⟩, fun o u => ?_⟩⟩
    · rw [List.getElem?_map, rg_at (by omega)]
      simp; omega
    · simp only [List.map_cons, List.map_nil, List.mem_singleton] at hk
      rw [hk, mem_allK]; omega
    · rw [dHas_mem]
      simp only [List.map_cons, List.map_nil, List.mem_singleton, Prod.mk.injEq, List.take_zero, List.drop_nil]
      show _ ↔ _ ∧ o = j
      constructor
      · rintro ⟨rfl, rfl⟩; exact ⟨by omega, rfl⟩
      · rintro ⟨e, rfl⟩; exact ⟨rfl, by omega⟩
  · obtain ⟨ep, hpw⟩ := enumL_get hp
    obtain ⟨klen, kd⟩ := hk
    have ht : t < r.2.length := (List.getElem?_eq_some_iff.mp hpw).1
    have etake : r.2.take (t + 1) = r.2.take t ++ [p.2] := by rw [List.take_add_one, hpw]; rfl
    refine ok_b (rgO_ok (by omega)) ?_
    refine ok_bind (ok_forS (fun i (after : List Spots) => after.length = i ∧ ∀ j : Int, 0 ≤ j → j < i → ∃ d, after[j.toNat]? = some d ∧ Gd2 d ∧ ∀ o u : Int, dHas d (o, u) = true ↔ (0 ≤ u ∧ u ≤ t + 1) ∧ heard h ((r.2.take (t + 1)).drop u.toNat) o j) ⟨rfl, fun j h0 h1 => by omega⟩ fun i x after hx hA => ?_) fun after hA => ok_some (by rw [rg_len] at hA; exact hA)
    obtain ⟨rfl, hi⟩ := rg_get hx
    obtain ⟨d0, g0, gd0, m0⟩ := kd i (by omega) (by omega)
    refine ok_b (atI_get0 (by omega) g0) ?_
    refine ok_b (v := d0) (by unfold dCopyO; rw [if_pos (.inr gd0.hash)]) ?_
    refine ok_b (senders_eq h h2.2 p.2 i) ?_
    refine ok_bind (ok_forS (fun k (s : Spots) => Gd2 s ∧ ∀ o u : Int, dHas s (o, u) = true ↔ (0 ≤ u ∧ u ≤ t) ∧ (heard h ((r.2.take t).drop u.toNat) o i ∨ ∃ j ∈ (came h p.2 i).take k, heard h ((r.2.take t).drop u.toNat) o j)) ⟨gd0, fun o u => by rw [m0 o u]; simp⟩ fun k j s hj hs => ?_) fun s hs => ?_
    · have jr := mem_came.mp (mem_getElem hj)
      obtain ⟨d1, g1, gd1, m1⟩ := kd j jr.1.1 jr.1.2
      refine ok_b (atI_get0 jr.1.1 g1) ?_
      have l1 := hs.1.len
      have l2 := gd1.len
      refine ok_b (v := dMrg s d1) (by unfold dUpdO; rw [if_pos ⟨.inr gd1.hash, by omega⟩]) (ok_some ⟨Gd2.mrg gd1.inK hs.1 gd1.tr, fun o u => ?_⟩)
      rw [dHas_mrg, hs.2 o u, m1 o u]
      constructor
      · rintro (⟨e, e1 | ⟨j', mj, e1⟩⟩ | ⟨e, e1⟩)
        · exact ⟨e, .inl e1⟩
        · exact ⟨e, .inr ⟨j', (mem_take_succ hj).mpr (.inl mj), e1⟩⟩
        · exact ⟨e, .inr ⟨j, (mem_take_succ hj).mpr (.inr rfl), e1⟩⟩
      · rintro ⟨e, e1 | ⟨j', mj, e1⟩⟩
        · exact .inl ⟨e, .inl e1⟩
        · rcases (mem_take_succ hj).mp mj with mj | rfl
          · exact .inl ⟨e, .inr ⟨j', mj, e1⟩⟩
          · exact .inr ⟨e, e1⟩
    · rw [List.take_length] at hs
      have l1 := hs.1.len
      have hkey : ((i : Int), p.1 + 1) ∈ allK := by rw [mem_allK, ep]; exact ⟨by show (0 : Int) ≤ i ∧ (i : Int) < 4; omega, by show (0 : Int) ≤ (t : Int) + 1 ∧ (t : Int) + 1 < 6; omega⟩
      refine ok_b (v := dPut s ((i : Int), p.1 + 1) true) (by unfold dPutO; rw [if_pos (by omega)]) ?_
      refine ok_b (appO_ok (by omega)) (ok_some ⟨by simp [hA.1], fun j j0 j1 => ?_⟩)
      by_cases e : j = i
      · subst e
        refine ⟨dPut s ((i : Int), p.1 + 1) true, ?_, hs.1.put hkey, fun o u => ?_⟩
        · rw [List.getElem?_append_right (by omega), hA.1]; simp
        · rw [dHas_put, hs.2 o u, ep, Prod.mk.injEq]
          by_cases hu : u ≤ t
          · have hu2 : ∀ q : 0 ≤ u, (r.2.take (t + 1)).drop u.toNat = (r.2.take t).drop u.toNat ++ [p.2] := fun q => by
              rw [etake, List.drop_append_of_le_length (by rw [List.length_take]; omega)]
            constructor
            · rintro (⟨e1, e2⟩ | ⟨e, e1⟩)
              · omega
              · refine ⟨by omega, ?_⟩
                rw [hu2 e.1, heard_snoc]
                rcases e1 with e1 | ⟨j, mj, e1⟩
                · exact .inl e1
                · exact .inr ⟨j, e1, mj⟩
            · rintro ⟨e, e1⟩
              rw [hu2 e.1, heard_snoc] at e1
              refine .inr ⟨by omega, ?_⟩
              rcases e1 with e1 | ⟨j, e1, mj⟩
              · exact .inl e1
              · exact .inr ⟨j, mj, e1⟩
          · have hu3 : ∀ q : u = t + 1, (r.2.take (t + 1)).drop u.toNat = [] := fun q => by
              rw [List.drop_eq_nil_of_le]; rw [List.length_take]; omega
            constructor
            · rintro (⟨e1, e2⟩ | ⟨e, e1⟩)
              · refine ⟨by omega, ?_⟩
                rw [hu3 e2, e1]; rfl
              · omega
            · rintro ⟨e, e1⟩
              have e2 : u = t + 1 := by omega
              rw [hu3 e2] at e1
              exact .inl ⟨e1, e2⟩
      · obtain ⟨d, q1, q2, q3⟩ := hA.2 j j0 (by omega)
        exact ⟨d, by rw [List.getElem?_append_left (by omega)]; exact q1, q2, q3⟩
  · rw [enumL_len] at hk
    obtain ⟨klen, kd⟩ := hk
    obtain ⟨d, g, gd, m⟩ := kd a ha.1 ha.2
    rw [List.take_length] at m
    have hB : ∀ o u : Int, 0 ≤ u → u ≤ r.2.length → dHas d (o, u) = heardB h (r.2.drop u.toNat) o a := fun o u u0 u1 => by
      have e := heardB_iff h a ha (r.2.drop u.toNat) o
      have e2 := m o u
      cases h1 : dHas d (o, u) with
      | true => exact (e.mpr (e2.mp h1).2).symm
      | false =>
        cases h3 : heardB h (r.2.drop u.toNat) o a with
        | false => rfl
        | true => rw [e2.mpr ⟨⟨u0, u1⟩, e.mp h3⟩] at h1; exact h1.symm
    refine ok_b (repO_one (by omega)) ?_
    refine ok_b (rgO_ok (by omega)) ?_
    refine ok_b (forS_sets (fun o => heardB h r.2 o a) (fun o => some (r.1.getD o.toNat 0)) none h fun o o0 o1 s hs => ?_) ?_
    · rw [atI_get0 ha.1 g]
      show (if dHas d (o, 0) = true then _ else _) = _
      rw [hB o 0 (by omega) (by omega)]
      show (if heardB h r.2 o a = true then _ else _) = _
      by_cases q : heardB h r.2 o a = true
      · rw [if_pos q, if_pos q, atI_ok (d := 0) o0 (by omega)]
        show (setO _ _ _).bind _ = _
        rw [setO_ok o0 (by omega)]; rfl
      · rw [if_neg q, if_neg q]
    refine ok_b (forS_maps (fun p => (rg h).map fun o => if heardB h (r.2.drop (p.1.toNat + 1)) o a = true then some (came h p.2 o) else none) _ _ (by simp [enumL_len]; omega) fun p hp s hs => ?_) ?_
    · obtain ⟨t, hp⟩ := List.mem_iff_getElem?.mp hp
      obtain ⟨ep, hpw⟩ := enumL_get hp
      have ht : t < r.2.length := (List.getElem?_eq_some_iff.mp hpw).1
      refine ok_is ?_
      refine ok_b (repO_one (by omega)) ?_
      refine ok_b (rgO_ok (by omega)) ?_
      refine ok_b (forS_sets (fun o => heardB h (r.2.drop (p.1.toNat + 1)) o a) (fun o => some (came h p.2 o)) none h fun o o0 o1 q hq => ?_) ?_
      · rw [atI_get0 ha.1 g]
        show (if dHas d (o, p.1 + 1) = true then _ else _) = _
        rw [hB o (p.1 + 1) (by omega) (by omega), show (p.1 + 1).toNat = p.1.toNat + 1 by omega]
        by_cases c : heardB h (r.2.drop (p.1.toNat + 1)) o a = true
        · rw [if_pos c, if_pos c, senders_eq h h2.2]
          show (setO _ _ _).bind _ = _
          rw [setO_ok o0 (by omega)]; rfl
        · rw [if_neg c, if_neg c]
      · exact ok_b (appO_ok hs) (ok_some rfl)
    · exact ok_some rfl
/-! ### a road of a few weathers -/
theorem road_ok (ns : List Int) (h : Nat) (h2 : 2 ≤ h ∧ h ≤ 4) (many : Nat) (hm : 1 ≤ many ∧ many ≤ 8) : Ok (P__law_road ns h many) fun r => 1 ≤ r.length ∧ r.length ≤ many := by
  have hz := sizeLine_eq
  unfold P__law_road
  refine ok_let (ok_b (cell_eq _ _ (by decide)) ?_)
  refine ok_bind (P := fun v => v.length ≤ 1) (ok_if (fun _ => ok_b (appO_ok (by show 0 < sizeLine; omega)) (ok_some (by simp))) fun _ => ok_some (by simp)) fun r0 h0 => ?_
  refine ok_b (rgO_ok (by omega)) ?_
  refine ok_bind (ok_forS (fun i r => r.length ≤ many ∧ (i ≠ 0 → 1 ≤ r.length)) ⟨by omega, fun q => absurd rfl q⟩ fun i x r hx ⟨a1, a2⟩ => ?_) fun r ⟨a1, a2⟩ => ok_some ⟨a2 (by rw [rg_len]; omega), a1⟩
  obtain ⟨rfl, hi⟩ := rg_get hx
  refine ok_b (cell_eq _ _ (by omega)) (ok_b (mix_eq _ _ (by omega) (by omega)) ?_)
  refine ok_bind (weather_ok _ h h2) fun w _ => ?_
  refine ok_bind (P := fun _ => True) (ok_if (fun _ => ok_let (ok_some True.intro)) fun _ => ok_some True.intro) fun w2 _ => ?_
  refine ok_if (fun hb => ?_) fun hb => ok_some ⟨a1, fun _ => ?_⟩
  · have hb := (Bool.and_eq_true _ _).mp hb
    have : (r.length : Int) < (many : Int) := of_decide_eq_true hb.2
    exact ok_b (appO_ok (by omega)) (ok_some ⟨by rw [List.length_append, List.length_singleton]; omega, fun _ => by rw [List.length_append, List.length_singleton]; omega⟩)
  · cases r with
    | nil =>
      have e : ((!isIn w2 []) && decide ((([] : List Wt).length : Int) < (many : Int))) = true := by
        have : (0 : Int) < (many : Int) := by omega
        simp [isIn]
        omega
      rw [e] at hb; cases hb
    | cons a b => simp
/-! ### rows of weathers, by what came -/
theorem pw_le {d e k : Nat} (hd : d ≤ e) (he : 1 ≤ e) {i : Nat} (hi : i ≤ k) : d ^ i ≤ e ^ k := Nat.le_trans (Nat.pow_le_pow_left hd i) (Nat.pow_le_pow_right he hi)
theorem road_case_ok (ns : List Int) : Ok (P__law_road_case ns) fun c => ∃ (h k : Nat) (road : List Wt), c = ((h : Int), road, (k : Int)) ∧ (2 ≤ h ∧ h ≤ 4) ∧ k ≤ 4 ∧ 1 ≤ road.length ∧ road.length ≤ 3 ∧ ∀ i, i ≤ k → road.length ^ i ≤ 81 := by
  unfold P__law_road_case
  refine ok_b (cell_eq _ _ (by decide)) (ok_let ?_)
  obtain ⟨h, eh, h2⟩ : ∃ h : Nat, (2 : Int) + cell ns 0 % 3 = (h : Int) ∧ (2 ≤ h ∧ h ≤ 4) := ⟨((2 : Int) + cell ns 0 % 3).toNat, by omega, by omega⟩
  rw [eh]
  obtain ⟨m, hm, em⟩ : ∃ m : Nat, (1 ≤ m ∧ m ≤ 3) ∧ atI ([(3 : Int), 3, 2] : List Int) ((h : Int) - 2) = some (m : Int) := by
    rcases (by omega : h = 2 ∨ h = 3 ∨ h = 4) with rfl | rfl | rfl
    · exact ⟨3, by omega, by decide⟩
    · exact ⟨3, by omega, by decide⟩
    · exact ⟨2, by omega, by decide⟩
  obtain ⟨r, hr, er⟩ : ∃ r : Nat, (3 ≤ r ∧ r ≤ 5) ∧ atI ([(5 : Int), 4, 3] : List Int) ((h : Int) - 2) = some (r : Int) := by
    rcases (by omega : h = 2 ∨ h = 3 ∨ h = 4) with rfl | rfl | rfl
    · exact ⟨5, by omega, by decide⟩
    · exact ⟨4, by omega, by decide⟩
    · exact ⟨3, by omega, by decide⟩
  refine ok_b (cell_eq _ _ (by decide)) (ok_b er (ok_b (modO_ok (by omega)) (ok_b em ?_)))
  obtain ⟨k, ek, hk⟩ : ∃ k : Nat, cell ns 0 / 3 % (r : Int) = (k : Int) ∧ k < r := by
    have h0 := Int.emod_nonneg (cell ns 0 / 3) (show (r : Int) ≠ 0 by omega)
    have h1 := Int.emod_lt_of_pos (cell ns 0 / 3) (show (0 : Int) < r by omega)
    exact ⟨(cell ns 0 / 3 % (r : Int)).toNat, by omega, by omega⟩
  rw [ek]
  refine ok_bind (road_ok ns h h2 m (by omega)) fun road hroad => ok_some ⟨h, k, road, rfl, h2, by omega, hroad.1, by omega, fun i hi => ?_⟩
  have : road.length ^ i ≤ 3 ^ 4 := pw_le (by omega) (by omega) (by omega)
  exact this
def zer (h : Nat) : List Int := (rg h).map fun _ => 0
theorem zer_len (h : Nat) : (zer h).length = h := by simp [zer, rg_len]
theorem zer_rep (h : Nat) : zer h = List.replicate h 0 := by unfold zer; rw [List.map_const', rg_len]
theorem repT_one (h : Nat) (h2 : 2 ≤ h ∧ h ≤ 4) : repT [(0 : Int)] (h : Int) = some (List.replicate h 0) := by
  unfold repT
  rw [if_pos ⟨by simp, by omega, by omega, by simp⟩]
  simp
theorem lawrows_eq {road : List Wt} (k : Nat) (hk : k ≤ 4) (hpw : ∀ i, i ≤ k → road.length ^ i ≤ 81) : P__law_rows road k = some (rowsL road k) := by
  refine ok_is ?_
  unfold P__law_rows
  exact ok_let (ok_b (rgO_ok (by omega)) (ok_b (lawRows_eq k (by omega) fun i hi => by have := hpw i hi; omega) (ok_some rfl)))
theorem runs_zer (road : List Wt) (k : Nat) (z : List Int) : runsL road k [z] = (rowsL road k).map fun r => (z, r) := by
  unfold runsL; simp
theorem rows_of_eq (h : Nat) (h2 : 2 ≤ h ∧ h ≤ 4) {road : List Wt} (hr1 : 1 ≤ road.length) (hr3 : road.length ≤ 3) (k : Nat) (hk : k ≤ 4) (hpw : ∀ i, i ≤ k → road.length ^ i ≤ 81) : P_rows_of h road k = some ((rowsL road k).map fun r => (zer h, r)) := by
  have hz := sizeLine_eq
  refine ok_is ?_
  unfold P_rows_of
  refine ok_b (rgO_ok (by omega)) (ok_b (compO_all (by rw [rg_len]; omega)) ?_)
  have hp := hpw k (Nat.le_refl _)
  refine ok_b (show P_all_runs road (k : Int) [zer h] = some (runsL road k [zer h]) from allRuns_eq hr1 (by omega) [] k (by omega) (by simp; omega)) (ok_some (runs_zer road k (zer h)))
abbrev Cw := Int × List (List (Option (List Int)))
def cameV (h : Nat) (road : List Wt) (k : Nat) : List (List Cw) := (rowsL road k).map fun row => (rg h).map fun a => (a, (viewS h (zer h, row) a).2.2)
theorem cameV_len (h : Nat) (road : List Wt) (k : Nat) : (cameV h road k).length = road.length ^ k := by unfold cameV; rw [List.length_map, rowsL_len]
theorem came_same (h : Nat) (h2 : 2 ≤ h ∧ h ≤ 4) {road : List Wt} (hr1 : 1 ≤ road.length) (hr3 : road.length ≤ 3) (k : Nat) (hk : k ≤ 4) (hpw : ∀ i, i ≤ k → road.length ^ i ≤ 81) :
    ∃ rows, P_weather_parts h road k = some (compsL rows (road.length ^ k) (road.length ^ k)) ∧ P__law_came_parts h (rowsL road k) = some (compsL rows (road.length ^ k) (road.length ^ k)) := by
  have hz := sizeLine_eq
  have hp := hpw k (Nat.le_refl _)
  have hvl := cameV_len h road k
  have hrl := rowsL_len road k
  obtain ⟨d, e1, e2, e3, _⟩ := parts_same (views := cameV h road k) (q := 4) (fun l hl => by
    unfold cameV at hl
    obtain ⟨r, _, rfl⟩ := List.mem_map.mp hl
    rw [List.length_map, rg_len]; omega) (by omega) (Nat.le_refl _)
  rw [hvl] at e2 e3
  refine ⟨d.map fun p => p.2, ?_, ?_⟩
  · refine ok_is ?_
    unfold P_weather_parts
    refine ok_b (rows_of_eq h h2 hr1 hr3 k hk hpw) ?_
    refine ok_b (v := d) ?_ ?_
    · unfold byV cameV at e1
      rw [enumL_map, forS_map]
      rw [enumL_map, forS_map] at e1
      have e4 : ∀ {S : Type} (x : Option S), (x.bind fun s => some s) = x := fun x => by cases x <;> rfl
      rw [e4] at e1
      refine Eq.trans (forS_congr _ _ fun p hp s => ?_) e1
      obtain ⟨i, hi⟩ := List.getElem?_of_mem hp
      have hm := (rowsL_mem road k p.2 (mem_getElem (enumL_get hi).2)).1
      rw [rgO_ok (by omega)]
      show (forS _ (rg h) s).bind _ = (forS _ ((rg h).map _) s).bind _
      rw [forS_map]
      congr 1
      refine forS_congr _ _ fun a ha s => ?_
      have ha := mem_rg.mp ha
      show (P_view (zer h, p.2) a).bind _ = _
      rw [view_eq (zer h, p.2) h (zer_len h) h2.2 (by show p.2.length ≤ 5; omega) a ha]; rfl
    · rw [List.length_map, hrl]
      exact ok_b (show P_parts_of ((road.length ^ k : Nat) : Int) _ = _ from e2) (ok_some rfl)
  · refine ok_is ?_
    unfold P__law_came_parts
    refine ok_b (v := d) ?_ ?_
    · unfold byV cameV at e1
      rw [enumL_map, forS_map] at e1
      have e4 : ∀ {S : Type} (x : Option S), (x.bind fun s => some s) = x := fun x => by cases x <;> rfl
      rw [e4] at e1
      refine Eq.trans (forS_congr _ _ fun p hp s => ?_) e1
      obtain ⟨i, hi⟩ := List.getElem?_of_mem hp
      have hm := (rowsL_mem road k p.2 (mem_getElem (enumL_get hi).2)).1
      rw [rgO_ok (by omega)]
      show (forS _ (rg h) s).bind _ = (forS _ ((rg h).map _) s).bind _
      rw [forS_map]
      congr 1
      refine forS_congr _ _ fun a ha s => ?_
      have ha := mem_rg.mp ha
      rw [repT_one h h2, ← zer_rep]
      show (P__law_view (zer h, p.2) a).bind _ = _
      rw [lawview_eq (zer h, p.2) h (zer_len h) h2 (by show p.2.length ≤ 5; omega) a ha]; rfl
    · rw [hrl]
      exact ok_b (show P__law_parts ((road.length ^ k : Nat) : Int) d = _ from e3) (ok_some rfl)
theorem comps_le (rows : List (List Int)) (m : Nat) : (compsL rows m m).length ≤ m := by
  unfold compsL
  rw [List.length_map]
  refine Nat.le_trans (List.length_filter_le _ _) ?_
  rw [rg_len]; exact Nat.le_refl _
/-! ### who is heard by all -/
def hba (h : Nat) (ws : List Wt) (i : Nat) : List Int := (rg h).filter fun o => (rg i).all fun a => heardB h ws o a
theorem hba_succ (h : Nat) (ws : List Wt) (i : Nat) : (hba h ws i).filter (fun o => heardB h ws o (i : Int)) = hba h ws (i + 1) := by
  unfold hba
  rw [List.filter_filter]
  refine List.filter_congr fun o _ => ?_
  rw [rg_succ, List.all_append, Bool.and_comm]
  simp
theorem hba_zero (h : Nat) (ws : List Wt) : hba h ws 0 = rg h := by
  unfold hba
  exact List.filter_eq_self.mpr fun o _ => by simp [rg]
theorem hba_le (h : Nat) (ws : List Wt) (i : Nat) : (hba h ws i).length ≤ h := by
  unfold hba
  refine Nat.le_trans (List.length_filter_le _ _) ?_
  rw [rg_len]; exact Nat.le_refl _
theorem rgLO_ok {h : Nat} (hb : h ≤ 1000) : rgLO (h : Int) = some (rg h) := by
  unfold rgLO rg
  rw [if_pos (by omega)]
  simp
theorem heard_by_all_eq (h : Nat) (h2 : 2 ≤ h ∧ h ≤ 4) (r : Rn) (hl : r.1.length = h) (hw : r.2.length ≤ 5) : P_heard_by_all h r = some (hba h r.2 h) := by
  have hz := sizeLine_eq
  refine ok_is ?_
  unfold P_heard_by_all
  refine ok_b (rgLO_ok (by omega)) (ok_b (rgO_ok (by omega)) ?_)
  refine ok_bind (ok_forS (fun i s => s = hba h r.2 i) (hba_zero h r.2).symm fun i x s hx hs => ?_) fun s hs => ok_some (by rw [hs, rg_len])
  obtain ⟨rfl, hi⟩ := rg_get hx
  subst hs
  refine ok_bind (heard_ok r h hl h2.2 hw i (by omega)) fun rows ⟨_, hr⟩ => ?_
  obtain ⟨l, e1, _, e2⟩ := hr 0 (Nat.zero_le _)
  have hle := hba_le h r.2 i
  refine ok_b (atI_get0 (i := 0) (Int.le_refl _) e1) (ok_b (compO_ok (by omega)) (ok_some ?_))
  rw [← hba_succ, List.map_id']
  refine List.filter_congr fun o _ => ?_
  exact if_heard h r.2 o i (by omega) (e2 o)
theorem law_heard_eq (h : Nat) (h2 : 2 ≤ h ∧ h ≤ 4) (ws : List Wt) (hw : ws.length ≤ 5) : P__law_heard_by_all h ws = some (hba h ws h) := by
  have hz := sizeLine_eq
  refine ok_is ?_
  unfold P__law_heard_by_all
  refine ok_b (rgLO_ok (by omega)) (ok_b (rgO_ok (by omega)) ?_)
  refine ok_bind (ok_forS (fun i s => s = hba h ws i) (hba_zero h ws).symm fun i x s hx hs => ?_) fun s hs => ok_some (by rw [hs, rg_len])
  obtain ⟨rfl, hi⟩ := rg_get hx
  subst hs
  have hle := hba_le h ws i
  refine ok_b (rgLO_ok (by omega)) (ok_b (lawview_eq (rg h, ws) h (rg_len h) h2 hw i (by omega)) ?_)
  refine ok_b (compP_ok (fun o => heardB h ws o i) (fun o => o) (by omega) fun o ho => ⟨?_, fun _ => rfl⟩) (ok_some ?_)
  · have ho := mem_rg.mp (List.mem_filter.mp ho).1
    have e : (viewS h (rg h, ws) i).2.1[o.toNat]? = some (if heardB h ws o i = true then some ((rg h).getD o.toNat 0) else none) := by
      show ((rg h).map _)[o.toNat]? = _
      rw [List.getElem?_map, rg_at (by omega)]
      have : ((o.toNat : Nat) : Int) = o := by omega
      rw [this]; rfl
    rw [atI_get0 ho.1 e]
    show some (Option.isSome _) = _
    by_cases q : heardB h ws o i = true
    · rw [if_pos q, q]; rfl
    · rw [if_neg q]
      have : heardB h ws o i = false := by simpa using q
      rw [this]; rfl
  · rw [← hba_succ, List.map_id']
/-! ### callers -/
def callL (h : Nat) (H : Int → List Int) (part : List Int) : List Int := part.foldl (fun s x => s.filter fun o => isIn o (H x)) (rg h)
theorem callL_le (h : Nat) (H : Int → List Int) (part : List Int) : (callL h H part).length ≤ h := by
  have key : ∀ (part : List Int) (s : List Int), (part.foldl (fun s x => s.filter fun o => isIn o (H x)) s).length ≤ s.length := by
    intro part
    induction part with
    | nil => intro s; exact Nat.le_refl _
    | cons x part ih =>
      intro s
      rw [List.foldl_cons]
      exact Nat.le_trans (ih _) (List.length_filter_le _ _)
  unfold callL
  refine Nat.le_trans (key part _) ?_
  rw [rg_len]; exact Nat.le_refl _
theorem call_loop (h : Nat) (hh : h ≤ 4) (H : Int → List Int) {hb : Int → List Int → Option (List Int)} : ∀ (part : List Int) (s : List Int), s.length ≤ h → (∀ x ∈ part, ∀ s : List Int, s.length ≤ h → hb x s = some (s.filter fun o => isIn o (H x))) → forS hb part s = some (part.foldl (fun s x => s.filter fun o => isIn o (H x)) s)
  | [], s, _, _ => rfl
  | x :: part, s, hs, hx => by
    rw [forS, hx x List.mem_cons_self s hs]
    exact call_loop h hh H part _ (Nat.le_trans (List.length_filter_le _ _) hs) fun y hy => hx y (List.mem_cons_of_mem _ hy)
theorem comps_mem {rows : List (List Int)} {m : Nat} {c : List Int} (h : c ∈ compsL rows m m) : ∀ x ∈ c, 0 ≤ x ∧ x < (m : Int) := by
  unfold compsL at h
  obtain ⟨f, _, rfl⟩ := List.mem_map.mp h
  exact fun x hx => mem_rg.mp (List.mem_filter.mp hx).1
def rowAtN (road : List Wt) (k : Nat) (x : Int) : List Wt := (rowsL road k).getD x.toNat []
theorem law_eq (ns : List Int) (hn : ns.length ≤ 63) : P_law ns = some true := by
  have hz := sizeLine_eq
  refine ok_is ?_
  unfold P_law
  refine ok_bind (road_case_ok ns) ?_
  rintro _ ⟨h, k, road, rfl, h2, hk, hr1, hr3, hpw⟩
  refine ok_b (lawrows_eq k hk hpw) ?_
  obtain ⟨rows, e1, e2⟩ := came_same h h2 hr1 hr3 k hk hpw
  have hp := hpw k (Nat.le_refl _)
  have hpos := comps_pos (rows := rows) (m := road.length ^ k) (Nat.pow_pos hr1)
  have hle := comps_le rows (road.length ^ k)
  have hmem := fun c (hc : c ∈ compsL rows (road.length ^ k) (road.length ^ k)) => comps_mem hc
  generalize compsL rows (road.length ^ k) (road.length ^ k) = cs at e1 e2 hpos hle hmem
  have hrl := rowsL_len road k
  let H : Int → List Int := fun x => hba h (rowAtN road k x) h
  have hrow : ∀ x : Int, 0 ≤ x → x < ((road.length ^ k : Nat) : Int) → (rowsL road k)[x.toNat]? = some (rowAtN road k x) ∧ (rowAtN road k x).length ≤ 5 := fun x h0 h1 => by
    have hx : x.toNat < (rowsL road k).length := by rw [hrl]; omega
    have e : (rowsL road k)[x.toNat]? = some (rowAtN road k x) := by
      unfold rowAtN
      rw [List.getD_eq_getElem?_getD, List.getElem?_eq_getElem hx]; rfl
    exact ⟨e, by have := (rowsL_mem road k _ (mem_getElem e)).1; omega⟩
  refine ok_b e2 ?_
  refine ok_b (v := cs.map (callL h H)) ?_ ?_
  · refine (forS_maps (callL h H) cs [] (by simp; omega) fun part hpart s hs => ?_).trans (by simp)
    refine ok_is (ok_b (rgLO_ok (by omega)) (ok_b (call_loop h h2.2 H part (rg h) (by rw [rg_len]; exact Nat.le_refl _) fun x hx s hs => ?_) (ok_b (appO_ok hs) (ok_some rfl))))
    have hx := hmem part hpart x hx
    obtain ⟨a1, a2⟩ := hrow x hx.1 hx.2
    refine ok_is (ok_b (atI_get0 hx.1 a1) (ok_b (law_heard_eq h h2 _ a2) (ok_b (compO_ok (by omega)) (ok_some ?_))))
    rw [List.map_id']
  · have hcal : P_callers (h : Int) road (k : Int) = some (cs.map (callL h H)) := by
      refine ok_is ?_
      unfold P_callers
      refine ok_b (rows_of_eq h h2 hr1 hr3 k hk hpw) (ok_b e1 ?_)
      refine ok_b ((forS_maps (callL h H) cs [] (by simp; omega) fun part hpart s hs => ?_).trans (by simp)) (ok_some rfl)
      refine ok_is (ok_b (rgLO_ok (by omega)) (ok_b (call_loop h h2.2 H part (rg h) (by rw [rg_len]; exact Nat.le_refl _) fun x hx s hs => ?_) (ok_b (appO_ok hs) (ok_some rfl))))
      have hx := hmem part hpart x hx
      obtain ⟨a1, a2⟩ := hrow x hx.1 hx.2
      have a3 : ((rowsL road k).map fun r => (zer h, r))[x.toNat]? = some (zer h, rowAtN road k x) := by rw [List.getElem?_map, a1]; rfl
      refine ok_is (ok_b (atI_get0 hx.1 a3) (ok_b (heard_by_all_eq h h2 (zer h, rowAtN road k x) (zer_len h) a2) (ok_b (compO_ok (by omega)) (ok_some ?_))))
      rw [List.map_id']
    refine ok_b hcal ?_
    simp only [Bool.not_true, decide_true, Bool.or_self, Bool.false_eq_true, if_false]
    cases cs with
    | nil => simp at hpos
    | cons c cs =>
      have hc := callL_le h H c
      refine ok_b (v := (callL h H c ++ [9]) :: cs.map (callL h H)) ?_ (ok_b (appO_ok (by simp at hle ⊢; omega)) (ok_b hcal (ok_some (by simp))))
      unfold nAppO ixN
      rw [if_pos (Int.le_refl _), if_pos (by simp)]
      show (if (callL h H c).length < sizeLine then _ else _) = _
      rw [if_pos (by omega)]; rfl
theorem law_true (ns : List Int) (hn : ns.length ≤ 63) : F_law [.fro (ns.map D.int)] = .ok (.bl true) := sim_law ns true (law_eq ns hn)
end Lw
end
section
open PySem PySem.W PyProof.Rows
set_option maxHeartbeats 0 in
theorem PySem.Challenge.cw_losspact_k52_callers_holds : PySem.Challenge.rw_losspact_k52_callers.Holds := by
  w_on; o_law; k_head; (case hw => w_witness2)
  k_fill
  refine L2.walk_of (l := PySem.Challenge.rw_losspact_k52_callers) (n := 63) (k := 7) (x := "_law_script") (CX := fun w => L2.CX PySem.Challenge.rw_losspact_k52_callers.prog w) (sp := fun w => Ab.spAny ⟨_, w⟩ 1 Lw.F_law) rfl (by decide) rfl ⟨rfl, by decide, by decide⟩ (fun w h Y => PySem.W.kIn_of Y) ?F (fun _ _ a ns hl _ hS => Ab.law_any (Lw.law_true ns hl) hS) (fun _ _ _ _ _ h => Ab.law_cx h)
  case F =>
    intro w mg fa h KX G hmg
    refine' Lw.all_mk KX G hmg ?a0 ?l0 ?c0 ?k0 ?a1 ?l1 ?c1 ?k1 ?a2 ?l2 ?c2 ?k2 ?a3 ?l3 ?c3 ?k3 ?a4 ?l4 ?c4 ?k4 ?a5 ?l5 ?c5 ?k5 ?a6 ?l6 ?c6 ?k6 ?a7 ?l7 ?c7 ?k7 ?a8 ?l8 ?c8 ?k8 ?a9 ?l9 ?c9 ?k9 ?a10 ?l10 ?c10 ?k10 ?a11 ?l11 ?c11 ?k11 ?a12 ?l12 ?c12 ?k12 ?a13 ?l13 ?c13 ?k13 ?a14 ?l14 ?c14 ?k14 ?a15 ?l15 ?c15 ?k15 ?a16 ?l16 ?c16 ?k16 ?a17 ?l17 ?c17 ?k17 ?a18 ?l18 ?c18 ?k18 ?a19 ?l19 ?c19 ?k19 ?a20 ?l20 ?c20 ?k20 ?a21 ?l21 ?c21 ?k21 ?a22 ?l22 ?c22 ?k22 ?a23 ?l23 ?c23 ?k23 ?a24 ?l24 ?c24 ?k24 ?a25 ?l25 ?c25 ?k25 ?a26 ?l26 ?c26 ?k26 ?xa0 ?xq0 ?xk0 ?xb0 ?xt0 ?v_MOST ?z_bool ?z_dict ?z_enumerate ?z_int ?z_isinstance ?z_len ?z_list ?z_min ?z_range ?z_sorted ?z_tuple ?z_zip
    (case a0 => k_is); (case l0 => k_is); (case c0 => k_is); (case k0 => k_is); (case a1 => k_is); (case l1 => k_is); (case c1 => k_is); (case k1 => k_is); (case a2 => k_is); (case l2 => k_is); (case c2 => k_is); (case k2 => k_is); (case a3 => k_is); (case l3 => k_is); (case c3 => k_is); (case k3 => k_is); (case a4 => k_is); (case l4 => k_is); (case c4 => k_is); (case k4 => k_is); (case a5 => k_is); (case l5 => k_is); (case c5 => k_is); (case k5 => k_is); (case a6 => k_is); (case l6 => k_is); (case c6 => k_is); (case k6 => k_is); (case a7 => k_is); (case l7 => k_is); (case c7 => k_is); (case k7 => k_is); (case a8 => k_is); (case l8 => k_is); (case c8 => k_is); (case k8 => k_is); (case a9 => k_is); (case l9 => k_is); (case c9 => k_is); (case k9 => k_is); (case a10 => k_is); (case l10 => k_is); (case c10 => k_is); (case k10 => k_is); (case a11 => k_is); (case l11 => k_is); (case c11 => k_is); (case k11 => k_is); (case a12 => k_is); (case l12 => k_is); (case c12 => k_is); (case k12 => k_is); (case a13 => k_is); (case l13 => k_is); (case c13 => k_is); (case k13 => k_is); (case a14 => k_is); (case l14 => k_is); (case c14 => k_is); (case k14 => k_is); (case a15 => k_is); (case l15 => k_is); (case c15 => k_is); (case k15 => k_is); (case a16 => k_is); (case l16 => k_is); (case c16 => k_is); (case k16 => k_is); (case a17 => k_is); (case l17 => k_is); (case c17 => k_is); (case k17 => k_is); (case a18 => k_is); (case l18 => k_is); (case c18 => k_is); (case k18 => k_is); (case a19 => k_is); (case l19 => k_is); (case c19 => k_is); (case k19 => k_is); (case a20 => k_is); (case l20 => k_is); (case c20 => k_is); (case k20 => k_is); (case a21 => k_is); (case l21 => k_is); (case c21 => k_is); (case k21 => k_is); (case a22 => k_is); (case l22 => k_is); (case c22 => k_is); (case k22 => k_is); (case a23 => k_is); (case l23 => k_is); (case c23 => k_is); (case k23 => k_is); (case a24 => k_is); (case l24 => k_is); (case c24 => k_is); (case k24 => k_is); (case a25 => k_is); (case l25 => k_is); (case c25 => k_is); (case k25 => k_is); (case a26 => k_is); (case l26 => k_is); (case c26 => k_is); (case k26 => k_is); (case xa0 => k_is); (case xq0 => k_exc); (case xk0 => k_is); (case xb0 => k_is); (case xt0 => k_is); (case v_MOST => k_is); (case z_bool => k_is); (case z_dict => k_is); (case z_enumerate => k_is); (case z_int => k_is); (case z_isinstance => k_is); (case z_len => k_is); (case z_list => k_is); (case z_min => k_is); (case z_range => k_is); (case z_sorted => k_is); (case z_tuple => k_is); (case z_zip => k_is)
end

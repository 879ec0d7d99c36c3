import PyProof.Rows.All
import Wide.All
import OpenK.AllK
import Wide.FinOn
import HandS.ForMost
import HandS.ForExc
import HandS.Deep
import HandS.TupAny
import HandS.IsInst
import HandS.Wide
import HandS.Zip
import KE.GoesEnum
import HandS.SortRule
import PySem.Challenge.RW_losspact_k13_alike
set_option Elab.async false
set_option linter.all false
set_option maxRecDepth 100000
set_option maxHeartbeats 4000000
section
/-! Ab: plain data under the hand layer. D is a value told without addresses; R says that a value of the layer bears it; Abs that the slots, the temporaries and the heap bear what is told. -/
namespace Ab
open PySem PySem.Spec PyProof.Rows L2

/-- a value, told without addresses: lst, fdi are never changed again (fro: a list that may be the law's own script); mut, mdi stand at an address of their own; al i is what slot i owns -/
inductive D where
  | non | bl (b : Bool) | int (i : Int) | str (x : Str)
  | tup (ds : List D) | lst (ds : List D) | mu (ds : List D) | fro (ds : List D)
  | fdi (n : Bool) (ks vs : List D) | mdi (n : Bool) (ks vs : List D)
  | al (i : Nat) | exc (c : Str) | obj (c : Str) (fs : List Str) (vs : List D) | ty (n : String)
  deriving Inhabited

abbrev Sl := List (Option D)
/-- what comes of an expression or a statement -/
inductive Ou (α : Type) where
  | ok (a : α) (A : Sl) | exc (c : Str) (A : Sl) | stuck
def Ou.bind {α β : Type} (x : Ou α) (f : α → Sl → Ou β) : Ou β :=
  match x with | .ok a A => f a A | .exc c A => .exc c A | .stuck => .stuck
@[simp] theorem Ou.bind_ok {α β : Type} (a : α) (A : Sl) (f : α → Sl → Ou β) : (Ou.ok a A).bind f = f a A := rfl
@[simp] theorem Ou.bind_exc {α β : Type} (c : Str) (A : Sl) (f : α → Sl → Ou β) : (Ou.exc c A : Ou α).bind f = .exc c A := rfl
@[simp] theorem Ou.bind_stuck {α β : Type} (f : α → Sl → Ou β) : (Ou.stuck : Ou α).bind f = .stuck := rfl
abbrev FE := Sl → Ou D
abbrev FA := Sl → Ou (List D)
abbrev FT := Sl → Ou Bool
inductive Fl where
  | next | brk | cont | ret (d : D)
abbrev FS := Sl → Ou Fl

mutual
inductive R (K : PySem.W.Frag) (G H : Hp) : V → D → List Addr → Prop
  | non : R K G H .non .non []
  | bl (b : Bool) : R K G H (.bl b) (.bl b) []
  | int (i : Int) : R K G H (.int i) (.int i) []
  | str (x : Str) : R K G H (.str x) (.str x) []
  | ty (n : String) : R K G H (.ty n) (.ty n) []
  | tup {a : Addr} {xs : List V} {ds : List D} {L : List Addr} : G a = some (.tup xs) → Rs K G H xs ds L → R K G H (.ref a) (.tup ds) L
  | lst {a : Addr} {xs : List V} {ds : List D} : G a = some (.lst xs) → Rs K G H xs ds [] → R K G H (.ref a) (.lst ds) []
  | fro {a : Addr} {xs : List V} {ds : List D} : SqL K G a xs → Rs K G H xs ds [] → R K G H (.ref a) (.fro ds) []
  | mu {p : Addr} {xs : List V} {ds : List D} {L : List Addr} : H p = some (.lst xs) → G p = none → Rs K G H xs ds L → R K G H (.ref p) (.mu ds) (p :: L)
inductive Rs (K : PySem.W.Frag) (G H : Hp) : List V → List D → List Addr → Prop
  | nil : Rs K G H [] [] []
  | cons {v : V} {d : D} {L : List Addr} {vs : List V} {ds : List D} {L' : List Addr} : R K G H v d L → Rs K G H vs ds L' → Rs K G H (v :: vs) (d :: ds) (L ++ L')
end

theorem sq_l {K : PySem.W.Frag} {H H' : Hp} {a : Addr} {xs : List V} (e : Same H H') (h : SqL K H a xs) : SqL K H' a xs := e.seq h
theorem sq_t {K : PySem.W.Frag} {H H' : Hp} {a : Addr} {xs : List V} (e : Same H H') (h : SqT K H a xs) : SqT K H' a xs := by
  rcases h with (h | ⟨o, h⟩) | h
  · exact .inl (.inl (e _ _ h))
  · exact .inl (.inr ⟨o, e _ _ h⟩)
  · exact .inr h

section
variable {K : PySem.W.Frag} {G G' H H' : Hp}
mutual
/-- what is borne is borne further: the known part grows, what is owned stays -/
theorem R.mono (eg : Same G G') : ∀ {v : V} {d : D} {L : List Addr}, R K G H v d L → (∀ a ∈ L, H' a = H a ∧ G' a = none) → R K G' H' v d L
  | _, _, _, .non, _ => .non
  | _, _, _, .bl b, _ => .bl b
  | _, _, _, .int i, _ => .int i
  | _, _, _, .str x, _ => .str x
  | _, _, _, .ty x, _ => .ty x
  | _, _, _, .tup q r, h => .tup (eg _ _ q) (Rs.mono eg r h)
  | _, _, _, .lst q r, h => .lst (eg _ _ q) (Rs.mono eg r h)
  | _, _, _, .fro q r, h => .fro (sq_l eg q) (Rs.mono eg r h)
  | _, _, _, .mu e n r, h => .mu ((h _ List.mem_cons_self).1.trans e) (h _ List.mem_cons_self).2 (Rs.mono eg r fun a ha => h a (List.mem_cons_of_mem _ ha))
theorem Rs.mono (eg : Same G G') : ∀ {vs : List V} {ds : List D} {L : List Addr}, Rs K G H vs ds L → (∀ a ∈ L, H' a = H a ∧ G' a = none) → Rs K G' H' vs ds L
  | _, _, _, .nil, _ => .nil
  | _, _, _, .cons r t, h => .cons (R.mono eg r fun a ha => h a (List.mem_append_left _ ha)) (Rs.mono eg t fun a ha => h a (List.mem_append_right _ ha))
end
mutual
theorem R.own : ∀ {v : V} {d : D} {L : List Addr}, R K G H v d L → ∀ a ∈ L, G a = none ∧ H a ≠ none
  | _, _, _, .non, _, h => nomatch h
  | _, _, _, .bl b, _, h => nomatch h
  | _, _, _, .int i, _, h => nomatch h
  | _, _, _, .str x, _, h => nomatch h
  | _, _, _, .ty x, _, h => nomatch h
  | _, _, _, .tup q r, a, h => Rs.own r a h
  | _, _, _, .lst q r, a, h => nomatch h
  | _, _, _, .fro q r, a, h => nomatch h
  | _, _, _, .mu e n r, a, h => by
    rcases List.mem_cons.mp h with h | h
    · rw [h]; exact ⟨n, by rw [e]; exact fun z => nomatch z⟩
    · exact Rs.own r a h
theorem Rs.own : ∀ {vs : List V} {ds : List D} {L : List Addr}, Rs K G H vs ds L → ∀ a ∈ L, G a = none ∧ H a ≠ none
  | _, _, _, .nil, _, h => nomatch h
  | _, _, _, .cons r t, a, h => by
    rcases List.mem_append.mp h with h | h
    · exact R.own r a h
    · exact Rs.own t a h
end
theorem Rs.length {vs : List V} {ds : List D} {L : List Addr} (r : Rs K G H vs ds L) : vs.length = ds.length := by
  induction vs generalizing ds L with
  | nil => cases r; rfl
  | cons v vs ih => cases r with | cons r t => simp [ih t]
theorem Rs.get : ∀ {vs : List V} {ds : List D} {L : List Addr} {i : Nat} {v : V}, Rs K G H vs ds L → vs[i]? = some v → ∃ d Li, ds[i]? = some d ∧ R K G H v d Li ∧ Li.Sublist L
  | _, _, _, i, v, .nil, e => by simp at e
  | _, _, _, 0, v, .cons (L := L) (L' := L') r t, e => by
    simp at e; subst e
    exact ⟨_, L, rfl, r, List.sublist_append_left _ _⟩
  | _, _, _, i + 1, v, .cons (L := L) (L' := L') r t, e => by
    obtain ⟨d, Li, h1, h2, h3⟩ := Rs.get (i := i) (v := v) t (by simpa using e)
    exact ⟨d, Li, by simpa using h1, h2, h3.trans (List.sublist_append_right _ _)⟩
theorem Rs.getD : ∀ {vs : List V} {ds : List D} {L : List Addr} {i : Nat} {d : D}, Rs K G H vs ds L → ds[i]? = some d → ∃ v Li, vs[i]? = some v ∧ R K G H v d Li ∧ Li.Sublist L
  | _, _, _, i, v, .nil, e => by simp at e
  | _, _, _, 0, v, .cons (L := L) (L' := L') r t, e => by
    simp at e; subst e
    exact ⟨_, L, rfl, r, List.sublist_append_left _ _⟩
  | _, _, _, i + 1, v, .cons (L := L) (L' := L') r t, e => by
    obtain ⟨d, Li, h1, h2, h3⟩ := Rs.getD (i := i) (d := v) t (by simpa using e)
    exact ⟨d, Li, by simpa using h1, h2, h3.trans (List.sublist_append_right _ _)⟩
theorem Rs.app : ∀ {vs ws : List V} {ds es : List D} {L M : List Addr}, Rs K G H vs ds L → Rs K G H ws es M → Rs K G H (vs ++ ws) (ds ++ es) (L ++ M)
  | _, _, _, _, _, _, .nil, s => s
  | _, _, _, _, _, _, .cons r t, s => by
    rw [List.append_assoc]
    exact .cons r (Rs.app t s)
theorem Rs.one {v : V} {d : D} {L : List Addr} (r : R K G H v d L) : Rs K G H [v] [d] L := by
  have := Rs.cons r (Rs.nil (K := K) (G := G) (H := H))
  simpa using this
/-- nothing owned: each item, by places -/
theorem Rs.nil_get {vs : List V} {ds : List D} {i : Nat} {v : V} {d : D} (r : Rs K G H vs ds []) (e1 : vs[i]? = some v) (e2 : ds[i]? = some d) : R K G H v d [] := by
  obtain ⟨d', Li, h1, h2, h3⟩ := r.get e1
  rw [e2] at h1; cases h1
  rw [List.sublist_nil.mp h3] at h2
  exact h2
end

/-! ### freezing -/
mutual
def fz : D → D
  | .mu ds => .lst (fzs ds)
  | .tup ds => .tup (fzs ds)
  | .non => .non | .bl b => .bl b | .int i => .int i | .str x => .str x | .lst ds => .lst ds | .fro ds => .fro ds | .fdi n ks vs => .fdi n ks vs | .mdi n ks vs => .mdi n ks vs | .al i => .al i | .exc c => .exc c | .obj c fs vs => .obj c fs vs | .ty n => .ty n
def fzs : List D → List D
  | [] => []
  | d :: ds => fz d :: fzs ds
end
theorem fzs_map : ∀ ds : List D, fzs ds = ds.map fz
  | [] => by simp [fzs]
  | d :: ds => by simp [fzs, fzs_map ds]
/-- G with what is owned -/
def grab (G H : Hp) (L : List Addr) : Hp := fun a => if a ∈ L then H a else G a
theorem grab_same {G H : Hp} {L : List Addr} (h : ∀ a ∈ L, G a = none) : Same G (grab G H L) := fun a o e => by
  unfold grab
  by_cases m : a ∈ L
  · rw [h a m] at e; cases e
  · rw [if_neg m]; exact e
theorem grab_in {G H : Hp} {L : List Addr} {a : Addr} (h : a ∈ L) : grab G H L a = H a := if_pos h
theorem grab_out {G H : Hp} {L : List Addr} {a : Addr} (h : a ∉ L) : grab G H L a = G a := if_neg h
section
variable {K : PySem.W.Frag} {G G' H H' : Hp}
mutual
theorem R.fz (eg : Same G G') : ∀ {v : V} {d : D} {L : List Addr}, R K G H v d L → (∀ a ∈ L, G' a = H a) → R K G' H v (fz d) []
  | _, _, _, .non, _ => by rw [Ab.fz]; exact .non
  | _, _, _, .bl b, _ => by rw [Ab.fz]; exact .bl b
  | _, _, _, .int i, _ => by rw [Ab.fz]; exact .int i
  | _, _, _, .str x, _ => by rw [Ab.fz]; exact .str x
  | _, _, _, .ty x, _ => by rw [Ab.fz]; exact .ty x
  | _, _, _, .tup q r, h => by rw [Ab.fz]; exact .tup (eg _ _ q) (Rs.fzs eg r h)
  | _, _, _, .lst q r, h => by rw [Ab.fz]; exact .lst (eg _ _ q) (Rs.mono eg r fun _ z => nomatch z)
  | _, _, _, .fro q r, h => by rw [Ab.fz]; exact .fro (sq_l eg q) (Rs.mono eg r fun _ z => nomatch z)
  | _, _, _, .mu e n r, h => by
    rw [Ab.fz]
    exact .lst ((h _ List.mem_cons_self).trans e) (Rs.fzs eg r fun a ha => h a (List.mem_cons_of_mem _ ha))
theorem Rs.fzs (eg : Same G G') : ∀ {vs : List V} {ds : List D} {L : List Addr}, Rs K G H vs ds L → (∀ a ∈ L, G' a = H a) → Rs K G' H vs (fzs ds) []
  | _, _, _, .nil, _ => by rw [Ab.fzs]; exact .nil
  | _, _, _, .cons r t, h => by
    rw [Ab.fzs]
    exact Rs.cons (R.fz eg r fun a ha => h a (List.mem_append_left _ ha)) (Rs.fzs eg t fun a ha => h a (List.mem_append_right _ ha))
end
end

/-! ### slots, temporaries -/
structure Bs where
  G : Hp
  H : Hp
  ex : List Addr
section
variable (K : PySem.W.Frag)
inductive Sls (G H : Hp) : L2.St → Sl → List Addr → Prop
  | nil : Sls G H [] [] []
  | skip {o : Option V} {σ : L2.St} {A : Sl} {L : List Addr} : Sls G H σ A L → Sls G H (o :: σ) (none :: A) L
  | cons {v : V} {d : D} {L L' : List Addr} {σ : L2.St} {A : Sl} : R K G H v d L → Sls G H σ A L' → Sls G H (some v :: σ) (some d :: A) (L ++ L')
abbrev Ts := List (V × D)
inductive Tms (σ : L2.St) (G H : Hp) : Ts → List Addr → Prop
  | nil : Tms σ G H [] []
  | cons {v : V} {d : D} {L L' : List Addr} {ts : Ts} : R K G H v d L → Tms σ G H ts L' → Tms σ G H ((v, d) :: ts) (L ++ L')
  | al {v : V} {i : Nat} {L : List Addr} {ts : Ts} : σ[i]? = some (some v) → Tms σ G H ts L → Tms σ G H ((v, .al i) :: ts) L
/-- the ground: what is known, what stood at the entry -/
structure Gd (B : Bs) (G H : Hp) : Prop where
  gh : Same G H
  bg : Same B.G G
  bh : ∀ a o, a ∉ B.ex → B.H a = some o → H a = some o
  sep : ∀ a, a ∉ B.ex → B.H a ≠ none → B.G a = none → G a = none
  alive : ∀ a ∈ B.ex, H a ≠ none
def Own (B : Bs) (a : Addr) : Prop := B.H a = none ∨ a ∈ B.ex
/-- the state bears what is told -/
def Abs (B : Bs) (σ : L2.St) (A : Sl) (ts : Ts) (H : Hp) : Prop :=
  ∃ G L1 L2, Gd B G H ∧ Tms K σ G H ts L1 ∧ Sls K G H σ A L2 ∧ (L1 ++ L2).Nodup ∧ ∀ a ∈ L1 ++ L2, Own B a
end
section
variable {K : PySem.W.Frag} {B : Bs} {G G' H H' : Hp} {σ : L2.St} {A : Sl} {ts : Ts} {L : List Addr}
theorem Sls.mono (eg : Same G G') (s : Sls K G H σ A L) (h : ∀ a ∈ L, H' a = H a ∧ G' a = none) : Sls K G' H' σ A L := by
  induction s with
  | nil => exact .nil
  | skip _ ih => exact .skip (ih h)
  | cons r _ ih => exact .cons (r.mono eg fun a ha => h a (List.mem_append_left _ ha)) (ih fun a ha => h a (List.mem_append_right _ ha))
theorem Tms.mono (eg : Same G G') (s : Tms K σ G H ts L) (h : ∀ a ∈ L, H' a = H a ∧ G' a = none) : Tms K σ G' H' ts L := by
  induction s with
  | nil => exact .nil
  | al e _ ih => exact .al e (ih h)
  | cons r _ ih => exact .cons (r.mono eg fun a ha => h a (List.mem_append_left _ ha)) (ih fun a ha => h a (List.mem_append_right _ ha))
theorem Sls.own (s : Sls K G H σ A L) : ∀ a ∈ L, G a = none ∧ H a ≠ none := by
  induction s with
  | nil => exact fun _ h => nomatch h
  | skip _ ih => exact ih
  | cons r _ ih => exact fun a ha => (List.mem_append.mp ha).elim (r.own a) (ih a)
theorem Tms.own (s : Tms K σ G H ts L) : ∀ a ∈ L, G a = none ∧ H a ≠ none := by
  induction s with
  | nil => exact fun _ h => nomatch h
  | al _ _ ih => exact ih
  | cons r _ ih => exact fun a ha => (List.mem_append.mp ha).elim (r.own a) (ih a)
theorem Sls.len (s : Sls K G H σ A L) : σ.length = A.length := by
  induction s with
  | nil => rfl
  | skip _ ih => simp [ih]
  | cons _ _ ih => simp [ih]
/-- one slot taken out -/
theorem Sls.take {i : Nat} {d : D} (s : Sls K G H σ A L) (e : A[i]? = some (some d)) : ∃ v Li L', σ[i]? = some (some v) ∧ R K G H v d Li ∧ Sls K G H σ (A.set i none) L' ∧ L.Perm (Li ++ L') := by
  induction s generalizing i with
  | nil => simp at e
  | skip s ih =>
    cases i with
    | zero => simp at e
    | succ i =>
      obtain ⟨v, Li, L', h1, h2, h3, h4⟩ := ih (by simpa using e)
      exact ⟨v, Li, L', by simpa using h1, h2, by simpa using Sls.skip h3, h4⟩
  | cons r s ih =>
    rename_i v0 d0 L0 L1 σ0 A0
    cases i with
    | zero =>
      simp at e; subst e
      exact ⟨v0, L0, L1, rfl, r, by simpa using Sls.skip s, .refl _⟩
    | succ i =>
      obtain ⟨v, Li, L', h1, h2, h3, h4⟩ := ih (by simpa using e)
      refine ⟨v, Li, L0 ++ L', by simpa using h1, h2, by simpa using Sls.cons r h3, ?_⟩
      refine (List.Perm.append_left _ h4).trans ?_
      rw [← List.append_assoc, ← List.append_assoc]
      exact List.Perm.append_right _ List.perm_append_comm
/-- a slot's telling forgotten -/
theorem Sls.drop {i : Nat} (s : Sls K G H σ A L) : ∃ L', Sls K G H σ (A.set i none) L' ∧ L'.Sublist L := by
  induction s generalizing i with
  | nil => exact ⟨[], by simpa using Sls.nil, .refl _⟩
  | skip s ih =>
    cases i with
    | zero => exact ⟨_, by simpa using Sls.skip s, .refl _⟩
    | succ i =>
      obtain ⟨L', h1, h2⟩ := ih (i := i)
      exact ⟨L', by simpa using Sls.skip h1, h2⟩
  | cons r s ih =>
    rename_i v0 d0 L0 L1 σ0 A0
    cases i with
    | zero => exact ⟨L1, by simpa using Sls.skip s, List.sublist_append_right _ _⟩
    | succ i =>
      obtain ⟨L', h1, h2⟩ := ih (i := i)
      exact ⟨L0 ++ L', by simpa using Sls.cons r h1, List.Sublist.append_left h2 _⟩
/-- a slot that is told nothing of may hold anything -/
theorem Sls.any {i : Nat} {o : Option V} (s : Sls K G H σ A L) (e : A[i]? = some none ∨ A[i]? = none) : Sls K G H (σ.set i o) A L := by
  induction s generalizing i with
  | nil => simpa using Sls.nil
  | skip s ih =>
    cases i with
    | zero => simpa using Sls.skip s
    | succ i => simpa using Sls.skip (ih (i := i) (by simpa using e))
  | cons r s ih =>
    cases i with
    | zero => simp at e
    | succ i => simpa using Sls.cons r (ih (i := i) (by simpa using e))
/-- an untold slot is told -/
theorem Sls.put {i : Nat} {v : V} {d : D} {Li : List Addr} (s : Sls K G H σ A L) (e : A[i]? = some none) (ev : σ[i]? = some (some v)) (r : R K G H v d Li) : ∃ L', Sls K G H σ (A.set i (some d)) L' ∧ L'.Perm (Li ++ L) := by
  induction s generalizing i with
  | nil => simp at e
  | skip s ih =>
    cases i with
    | zero =>
      simp at ev; subst ev
      exact ⟨_, by simpa using Sls.cons r s, .refl _⟩
    | succ i =>
      obtain ⟨L', h1, h2⟩ := ih (i := i) (by simpa using e) (by simpa using ev)
      exact ⟨L', by simpa using Sls.skip h1, h2⟩
  | cons r0 s ih =>
    rename_i v0 d0 L0 L1 σ0 A0
    cases i with
    | zero => simp at e
    | succ i =>
      obtain ⟨L', h1, h2⟩ := ih (i := i) (by simpa using e) (by simpa using ev)
      refine ⟨L0 ++ L', by simpa using Sls.cons r0 h1, ?_⟩
      refine (List.Perm.append_left _ h2).trans ?_
      rw [← List.append_assoc, ← List.append_assoc]
      exact List.Perm.append_right _ List.perm_append_comm
/-! ### what a telling lets one do -/
/- no parts that are owned -/
mutual
def isF : D → Bool
  | .tup ds => isFs ds
  | .non => true | .bl _ => true | .int _ => true | .str _ => true | .ty _ => true | .lst _ => true | .fro _ => true
  | .mu _ => false | .fdi .. => false | .mdi .. => false | .al _ => false | .exc _ => false | .obj .. => false
def isFs : List D → Bool
  | [] => true
  | d :: ds => isF d && isFs ds
end
theorem isFs_all : ∀ ds : List D, isFs ds = ds.all isF
  | [] => by simp [isFs]
  | d :: ds => by simp [isFs, isFs_all ds]
mutual
theorem R.isF : ∀ {v : V} {d : D} {L : List Addr}, R K G H v d L → isF d = true → L = []
  | _, _, _, .non, _ => rfl
  | _, _, _, .bl b, _ => rfl
  | _, _, _, .int i, _ => rfl
  | _, _, _, .str x, _ => rfl
  | _, _, _, .ty x, _ => rfl
  | _, _, _, .tup q r, h => Rs.isFs r (by rw [Ab.isF] at h; exact h)
  | _, _, _, .lst q r, h => rfl
  | _, _, _, .fro q r, h => rfl
  | _, _, _, .mu e n r, h => by rw [Ab.isF] at h; cases h
theorem Rs.isFs : ∀ {vs : List V} {ds : List D} {L : List Addr}, Rs K G H vs ds L → isFs ds = true → L = []
  | _, _, _, .nil, _ => rfl
  | _, _, _, .cons r t, h => by
    rw [Ab.isFs, Bool.and_eq_true] at h
    rw [R.isF r h.1, Rs.isFs t h.2]; rfl
end
/-- not changed by the state: it is told of what is known alone -/
theorem R.free (eg : Same G G') {v : V} {d : D} (r : R K G H v d []) : R K G' H' v d [] := r.mono eg fun _ h => nomatch h
theorem Rs.free (eg : Same G G') {v : List V} {d : List D} (r : Rs K G H v d []) : Rs K G' H' v d [] := r.mono eg fun _ h => nomatch h
theorem Abs.drop {p : V × D} (h : Abs K B σ A (p :: ts) H) : Abs K B σ A ts H := by
  obtain ⟨G, L1, L2, gd, tm, sl, nd, ow⟩ := h
  cases tm with
  | cons r t =>
    rename_i La Lb
    refine ⟨G, Lb, L2, gd, t, sl, ?_, fun a ha => ow a ?_⟩
    · rw [List.append_assoc] at nd; exact (List.nodup_append.mp nd).2.1
    · rw [List.append_assoc]; exact List.mem_append_right _ ha
  | al e t => exact ⟨G, L1, L2, gd, t, sl, nd, ow⟩
theorem Abs.dropn {ps : Ts} (h : Abs K B σ A (ps ++ ts) H) : Abs K B σ A ts H := by
  induction ps with
  | nil => exact h
  | cons p ps ih => exact ih h.drop
/-- a value that is borne at every ground -/
theorem Abs.scal {v : V} {d : D} (h : Abs K B σ A ts H) (r : ∀ G, R K G H v d []) : Abs K B σ A ((v, d) :: ts) H := by
  obtain ⟨G, L1, L2, gd, tm, sl, nd, ow⟩ := h
  exact ⟨G, L1, L2, gd, by simpa using Tms.cons (r G) tm, sl, nd, ow⟩
/-- in another order -/
theorem Tms.perm {ts' : Ts} (p : ts.Perm ts') : ∀ {L : List Addr}, Tms K σ G H ts L → ∃ L', Tms K σ G H ts' L' ∧ L.Perm L' := by
  induction p with
  | nil => exact fun {L} t => ⟨L, t, .refl _⟩
  | cons x _ ih =>
    intro L t
    cases t with
    | cons r t =>
      obtain ⟨L', h1, h2⟩ := ih t
      exact ⟨_, .cons r h1, List.Perm.append_left _ h2⟩
    | al e t =>
      obtain ⟨L', h1, h2⟩ := ih t
      exact ⟨_, .al e h1, h2⟩
  | swap x y l =>
    intro L t
    cases t with
    | cons r t =>
      cases t with
      | cons r' t =>
        rename_i La _ Lb Lc
        refine ⟨_, .cons r' (.cons r t), ?_⟩
        rw [← List.append_assoc, ← List.append_assoc]
        exact List.Perm.append_right _ List.perm_append_comm
      | al e t => exact ⟨_, .al e (.cons r t), .refl _⟩
    | al e t =>
      cases t with
      | cons r' t => exact ⟨_, .cons r' (.al e t), .refl _⟩
      | al e' t => exact ⟨_, .al e' (.al e t), .refl _⟩
  | trans _ _ ih1 ih2 =>
    intro L t
    obtain ⟨L1, h1, p1⟩ := ih1 t
    obtain ⟨L2, h2, p2⟩ := ih2 h1
    exact ⟨L2, h2, p1.trans p2⟩
theorem nodup_perm {L L' : List Addr} (p : L.Perm L') (h : L.Nodup) : L'.Nodup := p.nodup_iff.mp h
theorem Abs.perm {ts' : Ts} (p : ts.Perm ts') (h : Abs K B σ A ts H) : Abs K B σ A ts' H := by
  obtain ⟨G, L1, L2, gd, tm, sl, nd, ow⟩ := h
  obtain ⟨L', tm', q⟩ := tm.perm p
  have qq : (L1 ++ L2).Perm (L' ++ L2) := List.Perm.append_right _ q
  exact ⟨G, L', L2, gd, tm', sl, nodup_perm qq nd, fun a ha => ow a (qq.mem_iff.mpr ha)⟩
/-- a value laid behind a step that changes nothing that stood -/
theorem step_core {v : V} {d : D} {H' : Hp} {L1 L2 : List Addr} (gd : Gd B G H) (tm : Tms K σ G H ts L1) (sl : Sls K G H σ A L2) (nd : (L1 ++ L2).Nodup) (ow : ∀ a ∈ L1 ++ L2, Own B a) (he : Same H H')
    (g1 : Same G G') (g2 : Same G' H') (g3 : ∀ a, H a ≠ none → G a = none → G' a = none) (r : R K G' H' v d L) (rn : L.Nodup) (rf : ∀ a ∈ L, H a = none) : Abs K B σ A ((v, d) :: ts) H' := by
  have old : ∀ a ∈ L1 ++ L2, G a = none ∧ H a ≠ none := fun a ha => (List.mem_append.mp ha).elim (tm.own a) (sl.own a)
  have keep : ∀ a ∈ L1 ++ L2, H' a = H a ∧ G' a = none := fun a ha => by
    obtain ⟨n1, n2⟩ := old a ha
    refine ⟨?_, g3 a n2 n1⟩
    cases q : H a with
    | none => exact absurd q n2
    | some o => exact he a o q
  have hn : ∀ a, H a = none → a ∉ B.ex → B.H a = none := fun a e hx => by
    cases q : B.H a with
    | none => rfl
    | some o => rw [gd.bh a o hx q] at e; cases e
  have dj : ∀ a ∈ L, a ∉ L1 ++ L2 := fun a ha hb => (old a hb).2 (rf a ha)
  refine ⟨G', L ++ L1, L2, ⟨g2, gd.bg.trans g1, fun a o hx e => he a o (gd.bh a o hx e), fun a hx e1 e2 => ?_, fun a ha => ?_⟩, .cons r (tm.mono g1 fun a ha => keep a (List.mem_append_left _ ha)), sl.mono g1 fun a ha => keep a (List.mem_append_right _ ha), ?_, fun a ha => ?_⟩
  · refine g3 a ?_ (gd.sep a hx e1 e2)
    cases q : B.H a with
    | none => exact absurd q e1
    | some o => rw [gd.bh a o hx q]; exact fun z => nomatch z
  · have := gd.alive a ha
    cases q : H a with
    | none => exact absurd q this
    | some o => rw [he a o q]; exact fun z => nomatch z
  · rw [List.append_assoc]
    exact List.nodup_append.mpr ⟨rn, nd, fun a ha b hb e => dj a ha (e ▸ hb)⟩
  · rw [List.append_assoc] at ha
    rcases List.mem_append.mp ha with m | m
    · by_cases hx : a ∈ B.ex
      · exact .inr hx
      · exact .inl (hn a (rf a m) hx)
    · exact ow a m
theorem Abs.step {v : V} {d : D} {H' : Hp} (h : Abs K B σ A ts H) (he : Same H H')
    (new : ∀ G, Same G H → ∃ G' L, Same G G' ∧ Same G' H' ∧ (∀ a, H a ≠ none → G a = none → G' a = none) ∧ R K G' H' v d L ∧ L.Nodup ∧ ∀ a ∈ L, H a = none) : Abs K B σ A ((v, d) :: ts) H' := by
  obtain ⟨G, L1, L2, gd, tm, sl, nd, ow⟩ := h
  obtain ⟨G', L, g1, g2, g3, r, rn, rf⟩ := new G gd.gh
  exact step_core gd tm sl nd ow he g1 g2 g3 r rn rf
/-- .. the value wants temporaries that it takes up -/
theorem Abs.same {H' : Hp} (h : Abs K B σ A ts H) (he : Same H H') : Abs K B σ A ts H' := by
  refine (h.step (v := .non) (d := .non) he fun G g => ⟨G, [], fun _ _ e => e, fun a o e => he a o (g a o e), fun _ _ e => e, .non, List.nodup_nil, fun _ z => nomatch z⟩).drop
theorem same_new {H : Hp} {p : Addr} {o : HO} (h : H p = none) : Same H (upd H p o) := fun b x e => by
  rw [upd_ne (ne_of_none e h)]; exact e
/-! ### freezing, packing, moving -/
/-- what is owned by L (of the ground's own) is known from now on -/
theorem Gd.grab {L1 : List Addr} (gd : Gd B G H) (h1 : ∀ a ∈ L1, G a = none ∧ H a ≠ none) (ow : ∀ a ∈ L1, Own B a) : Gd B (grab G H L1) H := by
  refine ⟨fun a o e => ?_, gd.bg.trans (grab_same fun a ha => (h1 a ha).1), gd.bh, fun a hx e1 e2 => ?_, gd.alive⟩
  · by_cases m : a ∈ L1
    · rw [grab_in m] at e; exact e
    · rw [grab_out m] at e; exact gd.gh a o e
  · have m : a ∉ L1 := fun m => (ow a m).elim e1 hx
    rw [grab_out m]; exact gd.sep a hx e1 e2
theorem grab_keep {L1 : List Addr} {a : Addr} (h : a ∉ L1) (n : G a = none) : grab G H L1 a = none := by rw [grab_out h]; exact n
/-- a temporary frozen -/
theorem Abs.fz {v : V} {d : D} (h : Abs K B σ A ((v, d) :: ts) H) (hd : ∀ i, d ≠ .al i) : Abs K B σ A ((v, Ab.fz d) :: ts) H := by
  obtain ⟨G, L1, L2, gd, tm, sl, nd, ow⟩ := h
  cases tm with
  | al e t => exact absurd rfl (hd _)
  | cons r t =>
    rename_i La Lb
    have oa : ∀ a ∈ La, G a = none ∧ H a ≠ none := r.own
    have g1 : Same G (grab G H La) := grab_same fun a ha => (oa a ha).1
    have ap : ∀ a ∈ Lb ++ L2, a ∉ La := fun a ha hb => by
      rw [List.append_assoc] at nd
      exact (List.nodup_append.mp nd).2.2 a hb a ha rfl
    have gd' := gd.grab oa fun a ha => ow a (List.mem_append_left _ (List.mem_append_left _ ha))
    refine ⟨grab G H La, Lb, L2, gd', ?_, sl.mono g1 fun a ha => ⟨rfl, grab_keep (ap a (List.mem_append_right _ ha)) (sl.own a ha).1⟩, ?_, fun a ha => ow a ?_⟩
    · have t' : Tms K σ (grab G H La) H ts Lb := t.mono g1 fun a ha => ⟨rfl, grab_keep (ap a (List.mem_append_left _ ha)) (t.own a ha).1⟩
      simpa using Tms.cons (r.fz g1 fun a ha => grab_in ha) t'
    · rw [List.append_assoc] at nd; exact (List.nodup_append.mp nd).2.1
    · rw [List.append_assoc]; exact List.mem_append_right _ ha
/-- what a slot owns is frozen -/
theorem Abs.frz {v : V} {d : D} {i : Nat} (h : Abs K B σ A ((v, .al i) :: ts) H) (e : A[i]? = some (some d)) : Abs K B σ (A.set i (some (Ab.fz d))) ((v, Ab.fz d) :: ts) H := by
  obtain ⟨G, L1, L2, gd, tm, sl, nd, ow⟩ := h
  cases tm with
  | cons r t => exact nomatch r
  | al e1 t =>
    obtain ⟨v', Li, L', e2, r, s2, p⟩ := sl.take e
    rw [e1] at e2; cases e2
    have oa : ∀ a ∈ Li, G a = none ∧ H a ≠ none := r.own
    have g1 : Same G (grab G H Li) := grab_same fun a ha => (oa a ha).1
    have pp : (L1 ++ L2).Perm (Li ++ (L1 ++ L')) := by
      refine (List.Perm.append_left _ p).trans ?_
      rw [← List.append_assoc, ← List.append_assoc]
      exact List.Perm.append_right _ List.perm_append_comm
    have nd' := nodup_perm pp nd
    have ap : ∀ a ∈ L1 ++ L', a ∉ Li := fun a ha hb => (List.nodup_append.mp nd').2.2 a hb a ha rfl
    have gd' := gd.grab oa fun a ha => ow a (pp.mem_iff.mpr (List.mem_append_left _ ha))
    have rf : R K (grab G H Li) H v (Ab.fz d) [] := r.fz g1 fun a ha => grab_in ha
    have s3 : Sls K (grab G H Li) H σ (A.set i none) L' := s2.mono g1 fun a ha => ⟨rfl, grab_keep (ap a (List.mem_append_right _ ha)) (s2.own a ha).1⟩
    have hi : i < A.length := (List.getElem?_eq_some_iff.mp e).1
    obtain ⟨L3, s4, p4⟩ := s3.put (i := i) (d := Ab.fz d) (by simp [hi]) e1 rf
    rw [List.set_set] at s4
    have t' : Tms K σ (grab G H Li) H ts L1 := t.mono g1 fun a ha => ⟨rfl, grab_keep (ap a (List.mem_append_left _ ha)) (t.own a ha).1⟩
    have p5 : (L1 ++ L3).Perm (L1 ++ L') := List.Perm.append_left _ (by simpa using p4)
    refine ⟨grab G H Li, L1, L3, gd', by simpa using Tms.cons rf t', s4, nodup_perm p5.symm (List.nodup_append.mp nd').2.1, fun a ha => ow a (pp.mem_iff.mpr (List.mem_append_right _ (p5.mem_iff.mp ha)))⟩
/-- what a slot owns is handed out -/
theorem Abs.move {v : V} {d : D} {i : Nat} (h : Abs K B σ A ((v, .al i) :: ts) H) (e : A[i]? = some (some d)) : Abs K B σ (A.set i none) ((v, d) :: ts) H := by
  obtain ⟨G, L1, L2, gd, tm, sl, nd, ow⟩ := h
  cases tm with
  | cons r t => exact nomatch r
  | al e1 t =>
    obtain ⟨v', Li, L', e2, r, s2, p⟩ := sl.take e
    rw [e1] at e2; cases e2
    have pp : (L1 ++ L2).Perm ((Li ++ L1) ++ L') := by
      refine (List.Perm.append_left _ p).trans ?_
      rw [← List.append_assoc]
      exact List.Perm.append_right _ List.perm_append_comm
    exact ⟨G, Li ++ L1, L', gd, .cons r t, s2, nodup_perm pp nd, fun a ha => ow a (pp.mem_iff.mpr ha)⟩
def noAl (ds : List D) : Bool := ds.all fun d => match d with | .al _ => false | _ => true
/-- the temporaries of an argument list -/
theorem Tms.split : ∀ {vs : List V} {ds : List D} {L : List Addr}, vs.length = ds.length → noAl ds = true → Tms K σ G H (vs.zip ds ++ ts) L → ∃ La Lb, Rs K G H vs ds La ∧ Tms K σ G H ts Lb ∧ L = La ++ Lb
  | [], [], L, _, _, t => ⟨[], L, .nil, t, rfl⟩
  | v :: vs, d :: ds, L, hl, hn, t => by
    have hn' : noAl ds = true := by
      unfold noAl at hn ⊢
      rw [List.all_cons, Bool.and_eq_true] at hn
      exact hn.2
    cases t with
    | cons r t =>
      obtain ⟨La, Lb, h1, h2, h3⟩ := Tms.split (by simpa using hl) hn' t
      exact ⟨_, Lb, .cons r h1, h2, by rw [h3, List.append_assoc]⟩
    | al e t =>
      unfold noAl at hn
      rw [List.all_cons, Bool.and_eq_true] at hn
      exact absurd hn.1 (fun z => nomatch z)
  | [], _ :: _, _, hl, _, _ => by simp at hl
  | _ :: _, [], _, hl, _, _ => by simp at hl
/-- a tuple is laid -/
theorem Abs.tup {vs : List V} {ds : List D} {p : Addr} (hl : vs.length = ds.length) (hn : noAl ds = true) (h : Abs K B σ A (vs.zip ds ++ ts) H) (hp : H p = none) : Abs K B σ A ((.ref p, .tup ds) :: ts) (upd H p (.tup vs)) := by
  obtain ⟨G, L1, L2, gd, tm, sl, nd, ow⟩ := h
  obtain ⟨La, Lb, rs, t, rfl⟩ := tm.split hl hn
  have gp : G p = none := by
    cases q : G p with
    | none => rfl
    | some o => rw [gd.gh p o q] at hp; cases hp
  have g1 : Same G (upd G p (.tup vs)) := same_new gp
  have neP : ∀ a, H a ≠ none → a ≠ p := fun a ha z => ha (z ▸ hp)
  have old : ∀ a ∈ (La ++ Lb) ++ L2, G a = none ∧ H a ≠ none := fun a ha => by
    rcases List.mem_append.mp ha with m | m
    · exact (List.mem_append.mp m).elim (rs.own a) (t.own a)
    · exact sl.own a m
  have keep : ∀ a ∈ (La ++ Lb) ++ L2, upd H p (.tup vs) a = H a ∧ upd G p (.tup vs) a = none := fun a ha => ⟨upd_ne (neP a (old a ha).2), by rw [upd_ne (neP a (old a ha).2)]; exact (old a ha).1⟩
  refine ⟨upd G p (.tup vs), La ++ Lb, L2, ⟨fun a o e => ?_, gd.bg.trans g1, fun a o hx e => same_new hp _ _ (gd.bh a o hx e), fun a hx e1 e2 => ?_, fun a ha => ?_⟩, .cons (.tup upd_same (rs.mono g1 fun a ha => keep a (by simp [ha]))) (t.mono g1 fun a ha => keep a (by simp [ha])), sl.mono g1 fun a ha => keep a (by simp [ha]), nd, ow⟩
  · by_cases m : a = p
    · subst m; rw [upd_same] at e ⊢; exact e
    · rw [upd_ne m] at e ⊢; exact gd.gh a o e
  · have : a ≠ p := neP a (by
      cases q : B.H a with
      | none => exact absurd q e1
      | some o => rw [gd.bh a o hx q]; exact fun z => nomatch z)
    rw [upd_ne this]; exact gd.sep a hx e1 e2
  · rw [upd_ne (neP a (gd.alive a ha))]; exact gd.alive a ha
/-- a list is laid -/
theorem Abs.lst {vs : List V} {ds : List D} {p : Addr} (hl : vs.length = ds.length) (hn : noAl ds = true) (h : Abs K B σ A (vs.zip ds ++ ts) H) (hp : H p = none) : Abs K B σ A ((.ref p, .mu ds) :: ts) (upd H p (.lst vs)) := by
  obtain ⟨G, L1, L2, gd, tm, sl, nd, ow⟩ := h
  obtain ⟨La, Lb, rs, t, rfl⟩ := tm.split hl hn
  have gp : G p = none := by
    cases q : G p with
    | none => rfl
    | some o => rw [gd.gh p o q] at hp; cases hp
  have neP : ∀ a, H a ≠ none → a ≠ p := fun a ha z => ha (z ▸ hp)
  have old : ∀ a ∈ (La ++ Lb) ++ L2, G a = none ∧ H a ≠ none := fun a ha => by
    rcases List.mem_append.mp ha with m | m
    · exact (List.mem_append.mp m).elim (rs.own a) (t.own a)
    · exact sl.own a m
  have keep : ∀ a ∈ (La ++ Lb) ++ L2, upd H p (.lst vs) a = H a ∧ G a = none := fun a ha => ⟨upd_ne (neP a (old a ha).2), (old a ha).1⟩
  have np : p ∉ (La ++ Lb) ++ L2 := fun m => (old p m).2 hp
  refine ⟨G, (p :: La) ++ Lb, L2, ⟨fun a o e => same_new hp _ _ (gd.gh a o e), gd.bg, fun a o hx e => same_new hp _ _ (gd.bh a o hx e), gd.sep, fun a ha => ?_⟩, .cons (.mu upd_same gp (rs.mono (fun _ _ e => e) fun a ha => keep a (by simp [ha]))) (t.mono (fun _ _ e => e) fun a ha => keep a (by simp [ha])), sl.mono (fun _ _ e => e) fun a ha => keep a (by simp [ha]), ?_, fun a ha => ?_⟩
  · rw [upd_ne (neP a (gd.alive a ha))]; exact gd.alive a ha
  · exact List.nodup_cons.mpr ⟨np, nd⟩
  · rcases List.mem_cons.mp ha with m | m
    · subst m
      by_cases hx : a ∈ B.ex
      · exact .inr hx
      · refine .inl ?_
        cases q : B.H a with
        | none => rfl
        | some o => rw [gd.bh a o hx q] at hp; cases hp
    · exact ow a m
/-- no temporary is an alias -/
def Cl (ts : Ts) : Prop := ∀ p ∈ ts, ∀ i, p.2 ≠ .al i
theorem Tms.any {σ' : L2.St} (c : Cl ts) (t : Tms K σ G H ts L) : Tms K σ' G H ts L := by
  induction t with
  | nil => exact .nil
  | cons r _ ih => exact .cons r (ih fun p hp => c p (List.mem_cons_of_mem _ hp))
  | al e _ ih => exact absurd rfl (c _ List.mem_cons_self _)
theorem Sls.set {i : Nat} {v : V} {d : D} {Li : List Addr} (s : Sls K G H σ A L) (hi : i < A.length) (r : R K G H v d Li) : ∃ L', Sls K G H (σ.set i (some v)) (A.set i (some d)) L' ∧ ∃ L0, L0.Sublist L ∧ L'.Perm (Li ++ L0) := by
  obtain ⟨L0, s1, h1⟩ := s.drop (i := i)
  have s2 := s1.any (i := i) (o := some v) (.inl (by simp [hi]))
  obtain ⟨L', s3, h3⟩ := s2.put (i := i) (d := d) (by simp [hi]) (by rw [List.getElem?_set_self (by rw [s.len]; exact hi)]) r
  rw [List.set_set] at s3
  exact ⟨L', s3, L0, h1, h3⟩
/-- a temporary goes to a slot -/
theorem Abs.set {i : Nat} {v : V} {d : D} (h : Abs K B σ A ((v, d) :: ts) H) (hd : ∀ j, d ≠ .al j) (c : Cl ts) : Abs K B (σ.set i (some v)) (A.set i (some d)) ts H := by
  obtain ⟨G, L1, L2, gd, tm, sl, nd, ow⟩ := h
  cases tm with
  | al e t => exact absurd rfl (hd _)
  | cons r t =>
    rename_i La Lb
    by_cases hi : i < A.length
    · obtain ⟨L', s', L0, sub, p⟩ := sl.set hi r
      have pp : (Lb ++ L').Perm (La ++ (Lb ++ L0)) := by
        refine (List.Perm.append_left _ p).trans ?_
        rw [← List.append_assoc, ← List.append_assoc]
        exact List.Perm.append_right _ List.perm_append_comm
      have sb : (La ++ (Lb ++ L0)).Sublist ((La ++ Lb) ++ L2) := by
        rw [List.append_assoc]
        exact List.Sublist.append_left (List.Sublist.append_left sub _) _
      exact ⟨G, Lb, L', gd, t.any c, s', nodup_perm pp.symm (sb.nodup nd), fun a ha => ow a (sb.subset (pp.mem_iff.mp ha))⟩
    · have hs : σ.set i (some v) = σ := List.set_eq_of_length_le (by rw [sl.len]; omega)
      have hA : A.set i (some d) = A := List.set_eq_of_length_le (by omega)
      rw [hs, hA]
      refine ⟨G, Lb, L2, gd, t, sl, ?_, fun a ha => ow a ?_⟩
      · rw [List.append_assoc] at nd; exact (List.nodup_append.mp nd).2.1
      · rw [List.append_assoc]; exact List.mem_append_right _ ha
/-- a slot's telling forgotten -/
theorem Abs.forget {i : Nat} (h : Abs K B σ A ts H) : Abs K B σ (A.set i none) ts H := by
  obtain ⟨G, L1, L2, gd, tm, sl, nd, ow⟩ := h
  obtain ⟨L', s, sub⟩ := sl.drop (i := i)
  have sb : (L1 ++ L').Sublist (L1 ++ L2) := List.Sublist.append_left sub _
  exact ⟨G, L1, L', gd, tm, s, sb.nodup nd, fun a ha => ow a (sb.subset ha)⟩
end
end Ab
end
section
namespace Ab
open PySem PySem.Spec PyProof.Rows L2

/-! ### the judgements over what is told -/
structure Z where
  K : PySem.W.Frag
  B : Bs
  cl : Str → Value
  W : WX
abbrev Z.A (z : Z) := Abs z.K z.B
section
variable (z : Z)
def pE (o : Ou D) (σ : L2.St) (ts : Ts) (Q : VK) : Prop := match o with
  | .ok d A' => ∀ v H', z.A σ A' ((v, d) :: ts) H' → Q v H'
  | .exc c A' => ∀ H', z.A σ A' ts H' → z.W (z.cl c) none σ H'
  | .stuck => False
def tE (f : FE) : TE := fun σ H Q => ∃ A ts, z.A σ A ts H ∧ pE z (f A) σ ts Q
def pT (o : Ou Bool) (σ : L2.St) (ts : Ts) (Q : Bool → Hp → Prop) : Prop := match o with
  | .ok b A' => ∀ H', z.A σ A' ts H' → Q b H'
  | .exc c A' => ∀ H', z.A σ A' ts H' → z.W (z.cl c) none σ H'
  | .stuck => False
def tT (f : FT) : TT := fun σ H Q => ∃ A ts, z.A σ A ts H ∧ pT z (f A) σ ts Q
def pA (o : Ou (List D)) (σ : L2.St) (ts : Ts) (Q : List V → Hp → Prop) : Prop := match o with
  | .ok ds A' => ∀ vs H', vs.length = ds.length → z.A σ A' (vs.zip ds ++ ts) H' → Q vs H'
  | .exc c A' => ∀ H', z.A σ A' ts H' → z.W (z.cl c) none σ H'
  | .stuck => False
def tA (f : FA) : L2.TA := fun σ H Q => ∃ A ts, z.A σ A ts H ∧ pA z (f A) σ ts Q
end

section
variable {X : Cx} {e : Expr} {es : List Expr}
theorem PE.imp {t t' : TE} (h : PE X e t) (hi : ∀ σ H Q, t' σ H Q → t σ H Q) : PE X e t' := ⟨fun pins s σ H Q I w => h.run pins s σ H Q I (hi σ H Q w)⟩
theorem PT.imp {t t' : TT} (h : PT X e t) (hi : ∀ σ H Q, t' σ H Q → t σ H Q) : PT X e t' := ⟨fun pins s σ H Q I w => h.run pins s σ H Q I (hi σ H Q w)⟩
theorem PA.imp {t t' : L2.TA} (h : PA X es t) (hi : ∀ σ H Q, t' σ H Q → t σ H Q) : PA X es t' := ⟨fun pos pins s σ H Q I w => h.run pos pins s σ H Q I (hi σ H Q w)⟩
theorem PS.imp {st : Stmt} {t t' : TS} (h : PS X st t) (hi : ∀ D σ H, t' D σ H → t D σ H) : PS X st t' := ⟨fun pins s σ H D I w => h.run pins s σ H D I (hi D σ H w)⟩
theorem PSs.imp {st : List Stmt} {t t' : TS} (h : PSs X st t) (hi : ∀ D σ H, t' D σ H → t D σ H) : PSs X st t' := ⟨fun pins s σ H D I w => h.run pins s σ H D I (hi D σ H w)⟩
end

/-! ### looking at what is told -/
def see (A : Sl) : D → D
  | .al i => match A[i]? with
    | some (some (.al _)) => .al 0
    | some (some d) => d
    | _ => .al 0
  | d => d
@[simp] theorem see_al {A : Sl} {i : Nat} {ds : List D} (h : A[i]? = some (some (.mu ds))) : see A (.al i) = .mu ds := by simp [see, h]
section
variable {K : PySem.W.Frag} {B : Bs} {G G' H H' : Hp} {σ : L2.St} {A : Sl} {ts : Ts} {L : List Addr} {v u : V} {d e : D}
theorem R.not_al {i : Nat} (r : R K G H v (.al i) L) : False := nomatch r
theorem R.see (r : R K G H v d L) : see A d = d := by cases r <;> rfl
theorem Tms.look (t : Tms K σ G H ((v, d) :: ts) L) {L2 : List Addr} (s : Sls K G H σ A L2) (hn : ∀ j, see A d ≠ .al j) : ∃ L', R K G H v (see A d) L' := by
  cases t with
  | cons r t => exact ⟨_, by rw [r.see]; exact r⟩
  | al e t =>
    rename_i i
    have key : ∃ d', A[i]? = some (some d') ∧ Ab.see A (.al i) = d' := by
      have e0 : Ab.see A (.al i) = (match A[i]? with | some (some (.al _)) => D.al 0 | some (some d) => d | _ => .al 0) := rfl
      cases q : A[i]? with
      | none => rw [e0, q] at hn; exact absurd rfl (hn 0)
      | some o =>
        cases o with
        | none => rw [e0, q] at hn; exact absurd rfl (hn 0)
        | some d' =>
          refine ⟨d', rfl, ?_⟩
          rw [e0, q] at hn ⊢
          cases d' <;> first | rfl | exact absurd rfl (hn 0)
    obtain ⟨d', h1, h2⟩ := key
    obtain ⟨v', Li, L', e1, r, _, _⟩ := s.take h1
    rw [e] at e1
    cases e1
    exact ⟨Li, by rw [h2]; exact r⟩
/-- one value looked at; what is known of it may be told on -/
theorem Abs.look (h : Abs K B σ A ((v, d) :: ts) H) (hn : ∀ j, see A d ≠ .al j) : ∃ G L, Same G H ∧ R K G H v (see A d) L ∧ ∀ w e, R K G H w e [] → Abs K B σ A ((w, e) :: ts) H := by
  obtain ⟨G, L1, L2, gd, tm, sl, nd, ow⟩ := id h
  obtain ⟨L', r⟩ := tm.look sl hn
  refine ⟨G, L', gd.gh, r, fun w e re => ?_⟩
  cases tm with
  | cons r t =>
    rename_i La Lb
    refine ⟨G, Lb, L2, gd, by simpa using Tms.cons re t, sl, ?_, fun a ha => ow a ?_⟩
    · rw [List.append_assoc] at nd; exact (List.nodup_append.mp nd).2.1
    · rw [List.append_assoc]; exact List.mem_append_right _ ha
  | al e' t => exact ⟨G, L1, L2, gd, by simpa using Tms.cons re t, sl, nd, ow⟩
/-- two values -/
theorem Abs.look2 (h : Abs K B σ A ((u, e) :: (v, d) :: ts) H) (h1 : ∀ j, see A e ≠ .al j) (h2 : ∀ j, see A d ≠ .al j) :
    ∃ G L L', Same G H ∧ R K G H u (see A e) L ∧ R K G H v (see A d) L' ∧ ∀ w e, R K G H w e [] → Abs K B σ A ((w, e) :: ts) H := by
  obtain ⟨G, L1, L2, gd, tm, sl, nd, ow⟩ := id h
  obtain ⟨L, r⟩ := tm.look sl h1
  have tm2 : ∃ M, Tms K σ G H ((v, d) :: ts) M ∧ M.Sublist L1 := by
    cases tm with
    | cons r t => exact ⟨_, t, List.sublist_append_right _ _⟩
    | al e t => exact ⟨_, t, .refl _⟩
  obtain ⟨M, tm2, sM⟩ := tm2
  obtain ⟨L', r'⟩ := tm2.look sl h2
  refine ⟨G, L, L', gd.gh, r, r', fun w e re => ?_⟩
  have tm3 : ∃ M', Tms K σ G H ts M' ∧ M'.Sublist M := by
    cases tm2 with
    | cons r t => exact ⟨_, t, List.sublist_append_right _ _⟩
    | al e t => exact ⟨_, t, .refl _⟩
  obtain ⟨M', tm3, sM'⟩ := tm3
  have sub : (M' ++ L2).Sublist (L1 ++ L2) := List.Sublist.append_right (sM'.trans sM) _
  exact ⟨G, M', L2, gd, by simpa using Tms.cons re tm3, sl, sub.nodup nd, fun a ha => ow a (sub.subset ha)⟩
theorem Abs.int {i : Int} (h : Abs K B σ A ((v, .int i) :: ts) H) : v = .int i := by
  obtain ⟨G, L, _, r, _⟩ := h.look (by intro j z; cases z)
  cases r; rfl
theorem Abs.bl {i : Bool} (h : Abs K B σ A ((v, .bl i) :: ts) H) : v = .bl i := by
  obtain ⟨G, L, _, r, _⟩ := h.look (by intro j z; cases z)
  cases r; rfl
theorem Abs.str {i : Str} (h : Abs K B σ A ((v, .str i) :: ts) H) : v = .str i := by
  obtain ⟨G, L, _, r, _⟩ := h.look (by intro j z; cases z)
  cases r; rfl
theorem Abs.non (h : Abs K B σ A ((v, .non) :: ts) H) : v = .non := by
  obtain ⟨G, L, _, r, _⟩ := h.look (by intro j z; cases z)
  cases r; rfl
/-- scalars -/
theorem Abs.pint (h : Abs K B σ A ts H) (i : Int) : Abs K B σ A ((.int i, .int i) :: ts) H := h.scal fun _ => .int i
theorem Abs.pbl (h : Abs K B σ A ts H) (i : Bool) : Abs K B σ A ((.bl i, .bl i) :: ts) H := h.scal fun _ => .bl i
theorem Abs.pstr (h : Abs K B σ A ts H) (i : Str) : Abs K B σ A ((.str i, .str i) :: ts) H := h.scal fun _ => .str i
theorem Abs.pnon (h : Abs K B σ A ts H) : Abs K B σ A ((.non, .non) :: ts) H := h.scal fun _ => .non

/-! ### names and constants -/
def fVar (i : Nat) : FE := fun A => match A[i]? with
  | some (some d) => if isF d = true then .ok d A else .ok (.al i) A
  | _ => .stuck
theorem Abs.var {i : Nat} (h : Abs K B σ A ts H) (e : A[i]? = some (some d)) : ∃ v, σ[i]? = some (some v) ∧ Abs K B σ A ((v, if isF d = true then d else .al i) :: ts) H := by
  obtain ⟨G, L1, L2, gd, tm, sl, nd, ow⟩ := h
  obtain ⟨v, Li, L', e1, r, s2, p⟩ := sl.take e
  refine ⟨v, e1, ?_⟩
  by_cases hf : isF d = true
  · rw [if_pos hf]
    rw [r.isF hf] at r
    exact ⟨G, L1, L2, gd, by simpa using Tms.cons r tm, sl, nd, ow⟩
  · rw [if_neg hf]
    exact ⟨G, L1, L2, gd, .al e1 tm, sl, nd, ow⟩
end

section
variable {z : Z} {X : Cx}
theorem qe_var {i : Nat} {x : Str} {pos : Pos} (h : PE X (.Name x pos) (tVar i)) : PE X (.Name x pos) (tE z (fVar i)) := by
  refine PE.imp h fun σ H Q ⟨A, ts, ha, hp⟩ => ?_
  unfold fVar at hp
  split at hp
  · rename_i d e
    obtain ⟨v, e1, h1⟩ := ha.var e
    refine ⟨v, e1, ?_⟩
    split at hp <;> rename_i hf
    · rw [if_pos hf] at h1; exact hp v H h1
    · rw [if_neg hf] at h1; exact hp v H h1
  · exact hp.elim
def fC (d : D) : FE := fun A => .ok d A
theorem qe_int {i j pos} : PE X (.Constant (.int i) j pos) (tE z (fC (.int i))) := PE.imp pe_int fun σ H Q ⟨A, ts, ha, hp⟩ => hp _ _ (ha.pint i)
theorem qe_str {i j pos} : PE X (.Constant (.str i) j pos) (tE z (fC (.str i))) := PE.imp pe_str fun σ H Q ⟨A, ts, ha, hp⟩ => hp _ _ (ha.pstr i)
theorem qe_bl {i j pos} : PE X (.Constant (.bool i) j pos) (tE z (fC (.bl i))) := PE.imp pe_bl fun σ H Q ⟨A, ts, ha, hp⟩ => hp _ _ (ha.pbl i)
theorem qe_non {j pos} : PE X (.Constant .none j pos) (tE z (fC .non)) := PE.imp pe_non fun σ H Q ⟨A, ts, ha, hp⟩ => hp _ _ ha.pnon
/-- a built-in class by its name -/
theorem qe_ty {x : Str} {n : String} {pos : Pos} (h : PE X (.Name x pos) (tC (.ty n))) : PE X (.Name x pos) (tE z (fC (.ty n))) := PE.imp h fun σ H Q ⟨A, ts, ha, hp⟩ => hp _ _ (ha.scal fun _ => .ty n)
/-- a module's constant -/
theorem qe_gint {x : Str} {i : Int} {pos : Pos} (h : PE X (.Name x pos) (tC (.int i))) : PE X (.Name x pos) (tE z (fC (.int i))) := PE.imp h fun σ H Q ⟨A, ts, ha, hp⟩ => hp _ _ (ha.pint i)
theorem qe_gstr {x : Str} {i : Str} {pos : Pos} (h : PE X (.Name x pos) (tC (.str i))) : PE X (.Name x pos) (tE z (fC (.str i))) := PE.imp h fun σ H Q ⟨A, ts, ha, hp⟩ => hp _ _ (ha.pstr i)

/-! ### operators -/
def fBin (g : D → D → Sl → Option D) (fa fb : FE) : FE := fun A => (fa A).bind fun d A1 => (fb A1).bind fun e A2 => match g d e A2 with
  | some r => .ok r A2
  | none => .stuck
/-- the operation r on values does what g tells -/
def OpD (z : Z) (r : R2) (g : D → D → Sl → Option D) : Prop :=
  ∀ (σ : L2.St) (A : Sl) (ts : Ts) (H : Hp) (v u : V) (d e d' : D), z.A σ A ((u, e) :: (v, d) :: ts) H → g d e A = some d' → ∀ Q : VK, (∀ w H', z.A σ A ((w, d') :: ts) H' → Q w H') → r v u H Q
theorem bin_go {r : R2} {g : D → D → Sl → Option D} {fa fb : FE} (hd : OpD z r g) {σ : L2.St} {H : Hp} {Q : VK} (h : tE z (fBin g fa fb) σ H Q) : tOp r (tE z fa) (tE z fb) σ H Q := by
  obtain ⟨A, ts, ha, hp⟩ := h
  refine ⟨A, ts, ha, ?_⟩
  unfold fBin at hp
  cases ea : fa A with
  | stuck => rw [ea] at hp; exact hp.elim
  | exc c A1 => rw [ea] at hp; exact hp
  | ok d A1 =>
    rw [ea] at hp
    simp only [Ou.bind_ok] at hp
    intro v H1 h1
    refine ⟨A1, (v, d) :: ts, h1, ?_⟩
    cases eb : fb A1 with
    | stuck => rw [eb] at hp; exact hp.elim
    | exc c A2 =>
      rw [eb] at hp
      exact fun H' h' => hp H' h'.drop
    | ok e A2 =>
      rw [eb] at hp
      simp only [Ou.bind_ok] at hp
      intro u H2 h2
      cases eg : g d e A2 with
      | none => rw [eg] at hp; exact hp.elim
      | some d' =>
        rw [eg] at hp
        exact hd σ A2 ts H2 v u d e d' h2 eg Q hp
theorem qe_bin {op : Operator} {a b : Expr} {pos : Pos} {r : R2} {g : D → D → Sl → Option D} {fa fb : FE} (ho : OpR X (binaryOp op) r) (hd : OpD z r g) (ha : PE X a (tE z fa)) (hb : PE X b (tE z fb)) : PE X (.BinOp a op b pos) (tE z (fBin g fa fb)) :=
  PE.imp (pe_op ho ha hb) fun _ _ _ h => bin_go hd h
theorem qe_cmp {op : CmpOp} {a b : Expr} {pos : Pos} {r : R2} {g : D → D → Sl → Option D} {fa fb : FE} (ho : OpR X (compareOp op) r) (hd : OpD z r g) (ha : PE X a (tE z fa)) (hb : PE X b (tE z fb)) (hm : behindInMarks op b = false) : PE X (.Compare a [op] [b] pos) (tE z (fBin g fa fb)) :=
  PE.imp (pe_cmpR ho ha hb hm) fun _ _ _ h => bin_go hd h
theorem qe_ix {a b : Expr} {pos : Pos} {r : R2} {g : D → D → Sl → Option D} {fa fb : FE} (ho : IxR X r) (hd : OpD z r g) (ha : PE X a (tE z fa)) (hb : PE X b (tE z fb)) (hs : PlainIx b) : PE X (.Subscript a b pos) (tE z (fBin g fa fb)) :=
  PE.imp (pe_ix ho ha hb hs) fun _ _ _ h => bin_go hd h
def fUn (g : D → Sl → Option D) (fa : FE) : FE := fun A => (fa A).bind fun d A1 => match g d A1 with
  | some r => .ok r A1
  | none => .stuck
def gNeg : D → Sl → Option D
  | .int i, _ => some (.int (-i))
  | _, _ => none
theorem qe_neg {a : Expr} {pos : Pos} {fa : FE} (ha : PE X a (tE z fa)) : PE X (.UnaryOp .USub a pos) (tE z (fUn gNeg fa)) := by
  refine PE.imp (pe_un un_neg ha) fun σ H Q ⟨A, ts, hA, hp⟩ => ⟨A, ts, hA, ?_⟩
  unfold fUn at hp
  cases ea : fa A with
  | stuck => rw [ea] at hp; exact hp.elim
  | exc c A1 => rw [ea] at hp; exact hp
  | ok d A1 =>
    rw [ea] at hp
    simp only [Ou.bind_ok] at hp
    intro v H1 h1
    cases d <;> simp only [gNeg] at hp <;> try exact hp.elim
    rename_i i
    exact ⟨i, h1.int, hp _ _ (h1.drop.pint _)⟩

/-! ### ints -/
def g2I (C : Int → Int → Bool) (g : Int → Int → D) : D → D → Sl → Option D
  | .int i, .int j, _ => if C i j = true then some (g i j) else none
  | _, _, _ => none
theorem g2I_some {C : Int → Int → Bool} {g : Int → Int → D} {d e : D} {A : Sl} {d' : D} (h : g2I C g d e A = some d') : ∃ i j, d = .int i ∧ e = .int j ∧ C i j = true ∧ d' = g i j := by
  unfold g2I at h
  split at h
  · rename_i i j
    by_cases hc : C i j = true
    · rw [if_pos hc] at h; cases h; exact ⟨i, j, rfl, rfl, hc, rfl⟩
    · rw [if_neg hc] at h; cases h
  · cases h
theorem opd_I {P : Int → Int → Prop} {C : Int → Int → Bool} {g : Int → Int → Int} (hC : ∀ i j, C i j = true → P i j) : OpD z (rI P fun i j => .int (g i j)) (g2I C fun i j => .int (g i j)) := by
  intro σ A ts H v u d e d' h hg Q q
  obtain ⟨i, j, rfl, rfl, hc, rfl⟩ := g2I_some hg
  exact ⟨i, j, h.drop.int, h.int, hC i j hc, q _ _ (h.drop.drop.pint _)⟩
theorem opd_I0 {C : Int → Int → Bool} {g : Int → Int → Int} : OpD z (rI0 fun i j => .int (g i j)) (g2I C fun i j => .int (g i j)) := by
  intro σ A ts H v u d e d' h hg Q q
  obtain ⟨i, j, rfl, rfl, hc, rfl⟩ := g2I_some hg
  exact ⟨i, j, h.drop.int, h.int, q _ _ (h.drop.drop.pint _)⟩
theorem opd_B0 {C : Int → Int → Bool} {g : Int → Int → Bool} : OpD z (rI0 fun i j => .bl (g i j)) (g2I C fun i j => .bl (g i j)) := by
  intro σ A ts H v u d e d' h hg Q q
  obtain ⟨i, j, rfl, rfl, hc, rfl⟩ := g2I_some hg
  exact ⟨i, j, h.drop.int, h.int, q _ _ (h.drop.drop.pbl _)⟩
def yes2 : Int → Int → Bool := fun _ _ => true
def cMul : Int → Int → Bool := fun i j => decide (i.natAbs < 2 ^ 64) || decide (j.natAbs < 2 ^ 64)
def cDiv : Int → Int → Bool := fun i j => decide (0 < j) && decide (j.natAbs < 2 ^ 400)
def cMod : Int → Int → Bool := fun i j => decide (0 < j)
def cPow : Int → Int → Bool := fun i j => decide (0 ≤ j) && decide (j ≤ 1000000) && decide (i.natAbs < 2 ^ 64)
def gMinus := g2I yes2 fun i j => .int (i - j)
def gMul := g2I cMul fun i j => .int (i * j)
def gDiv := g2I cDiv fun i j => .int (i / j)
def gMod := g2I cMod fun i j => .int (i % j)
def gPow := g2I cPow fun i j => .int (i ^ j.toNat)
def gLt := g2I yes2 fun i j => .bl (decide (i < j))
def gLe := g2I yes2 fun i j => .bl (decide (i ≤ j))
def gGt := g2I yes2 fun i j => .bl (decide (j < i))
def gGe := g2I yes2 fun i j => .bl (decide (j ≤ i))
theorem opd_sub : OpD z (rI0 fun i j => .int (i - j)) gMinus := opd_I0
theorem opd_mul : OpD z (rI CMul fun i j => .int (i * j)) gMul := opd_I fun i j h => by
  unfold cMul at h
  rw [Bool.or_eq_true, decide_eq_true_iff, decide_eq_true_iff] at h
  rcases h with h | h
  · exact .inl (by omega)
  · exact .inr (by omega)
theorem opd_div : OpD z (rI CDivW fun i j => .int (i / j)) gDiv := opd_I fun i j h => by
  unfold cDiv at h
  rw [Bool.and_eq_true, decide_eq_true_iff, decide_eq_true_iff] at h
  exact wide_div h.1 h.2 (by decide) (by decide)
theorem opd_mod : OpD z (rI (fun _ j => 0 < j) fun i j => .int (i % j)) gMod := opd_I fun i j h => of_decide_eq_true h
theorem opd_pow : OpD z (rI CPow fun i j => .int (i ^ j.toNat)) gPow := opd_I fun i j h => by
  unfold cPow at h
  simp only [Bool.and_eq_true, decide_eq_true_iff] at h
  exact ⟨h.1.1, h.1.2, h.2⟩
theorem opd_lt : OpD z (rI0 fun i j => .bl (decide (i < j))) gLt := opd_B0
theorem opd_le : OpD z (rI0 fun i j => .bl (decide (i ≤ j))) gLe := opd_B0
theorem opd_gt : OpD z (rI0 fun i j => .bl (decide (j < i))) gGt := opd_B0
theorem opd_ge : OpD z (rI0 fun i j => .bl (decide (j ≤ i))) gGe := opd_B0

/-! ### == of data -/
mutual
def dat : D → PyData
  | .non => .none | .bl b => .bool b | .int i => .int i | .str x => .str x
  | .tup ds => .tuple (dats ds) | .lst ds => .list (dats ds) | .mu ds => .list (dats ds) | .fro ds => .list (dats ds)
  | .fdi .. => .dict [] | .mdi .. => .dict [] | .al _ => .dict [] | .exc _ => .dict [] | .obj .. => .dict [] | .ty _ => .dict []
def dats : List D → List PyData
  | [] => []
  | d :: ds => dat d :: dats ds
end
theorem dats_map : ∀ ds : List D, dats ds = ds.map dat
  | [] => by simp [dats]
  | d :: ds => by simp [dats, dats_map ds]
def okD (d : D) : Bool := SeqAt.shaped (dat d)
section
variable {K : PySem.W.Frag} {G H : Hp}
mutual
theorem R.dp (g : Same G H) : ∀ {v : V} {d : D} {L : List Addr}, R K G H v d L → (dat d).canLay0 = true → Dp K H v (dat d)
  | _, _, _, .non, _ => by rw [dat]; exact .non
  | _, _, _, .bl b, _ => by rw [dat]; exact .bl b
  | _, _, _, .int i, _ => by rw [dat]; exact .int i
  | _, _, _, .str x, _ => by rw [dat]; exact .str x
  | _, _, _, .ty x, h => by rw [dat] at h; simp [PyData.canLay0] at h
  | _, _, _, .tup q r, h => by rw [dat]; exact .tup (.inl (.inl (g _ _ q))) (Rs.dp g r (by rw [dat] at h; simpa [PyData.canLay0] using h))
  | _, _, _, .lst q r, h => by rw [dat]; exact .lst (.inl (.inl (g _ _ q))) (Rs.dp g r (by rw [dat] at h; simpa [PyData.canLay0] using h))
  | _, _, _, .fro q r, h => by rw [dat]; exact .lst (sq_l g q) (Rs.dp g r (by rw [dat] at h; simpa [PyData.canLay0] using h))
  | _, _, _, .mu e n r, h => by rw [dat]; exact .lst (.inl (.inl e)) (Rs.dp g r (by rw [dat] at h; simpa [PyData.canLay0] using h))
theorem Rs.dp (g : Same G H) : ∀ {v : List V} {d : List D} {L : List Addr}, Rs K G H v d L → PyData.canLayAll0 (dats d) = true → DpAll K H v (dats d)
  | _, _, _, .nil, _ => by rw [dats]; exact .nil
  | _, _, _, .cons r t, h => by
    rw [dats, PyData.canLayAll0, Bool.and_eq_true] at h
    rw [dats]
    exact .cons (R.dp g r h.1) (Rs.dp g t h.2)
end
theorem okD_lay {d : D} (h : okD d = true) : (dat d).canLay0 = true := SeqAt.canLay_of_shaped h
theorem okD_al {A : Sl} {d : D} (h : okD (see A d) = true) : ∀ j, see A d ≠ .al j := fun j e => by
  rw [e] at h
  have := okD_lay h
  rw [dat] at this
  simp [PyData.canLay0] at this
end
def gEq (d e : D) (A : Sl) : Option D := if (okD (see A d) && okD (see A e)) = true then some (.bl (PyData.eqv (dat (see A d)) (dat (see A e)))) else none
def gNe (d e : D) (A : Sl) : Option D := if (okD (see A d) && okD (see A e)) = true then some (.bl (!PyData.eqv (dat (see A d)) (dat (see A e)))) else none
theorem opd_eq : OpD z (rEqD z.K) gEq := by
  intro σ A ts H v u d e d' h hg Q q
  unfold gEq at hg
  by_cases hk : (okD (see A d) && okD (see A e)) = true
  · rw [if_pos hk] at hg
    cases hg
    rw [Bool.and_eq_true] at hk
    obtain ⟨G, L, L', gh, r1, r2, _⟩ := h.look2 (okD_al hk.2) (okD_al hk.1)
    exact ⟨_, _, r2.dp gh (okD_lay hk.1), r1.dp gh (okD_lay hk.2), hk.1, hk.2, q _ _ (h.drop.drop.pbl _)⟩
  · rw [if_neg hk] at hg; cases hg
theorem opd_ne : OpD z (rNeD z.K) gNe := by
  intro σ A ts H v u d e d' h hg Q q
  unfold gNe at hg
  by_cases hk : (okD (see A d) && okD (see A e)) = true
  · rw [if_pos hk] at hg
    cases hg
    rw [Bool.and_eq_true] at hk
    obtain ⟨G, L, L', gh, r1, r2, _⟩ := h.look2 (okD_al hk.2) (okD_al hk.1)
    exact ⟨_, _, r2.dp gh (okD_lay hk.1), r1.dp gh (okD_lay hk.2), hk.1, hk.2, q _ _ (h.drop.drop.pbl _)⟩
  · rw [if_neg hk] at hg; cases hg
/-- x is None, of data that is no own object -/
def gIsN (d e : D) (A : Sl) : Option D := match e with
  | .non => match see A d with
    | .non => some (.bl true)
    | .al _ => none
    | _ => some (.bl false)
  | _ => none
def gNotN (d e : D) (A : Sl) : Option D := match e with
  | .non => match see A d with
    | .non => some (.bl false)
    | .al _ => none
    | _ => some (.bl true)
  | _ => none
theorem opd_isN : OpD z (fun x y H Q => y = .non ∧ Q (.bl (decide (x = .non))) H) gIsN := by
  intro σ A ts H v u d e d' h hg Q q
  unfold gIsN at hg
  split at hg
  · refine ⟨h.non, ?_⟩
    have hn : ∀ j, see A d ≠ .al j := fun j z => by rw [z] at hg; cases hg
    obtain ⟨G, L, gh, r, _⟩ := h.drop.look hn
    have key : d' = .bl (decide (v = .non)) := by
      revert hg
      generalize see A d = dd at r hn
      cases r <;> intro hg <;> simp_all
    rw [key] at q
    exact q _ _ (h.drop.drop.pbl _)
  · cases hg
theorem opd_notN : OpD z (fun x y H Q => y = .non ∧ Q (.bl (!decide (x = .non))) H) gNotN := by
  intro σ A ts H v u d e d' h hg Q q
  unfold gNotN at hg
  split at hg
  · refine ⟨h.non, ?_⟩
    have hn : ∀ j, see A d ≠ .al j := fun j z => by rw [z] at hg; cases hg
    obtain ⟨G, L, gh, r, _⟩ := h.drop.look hn
    have key : d' = .bl (!decide (v = .non)) := by
      revert hg
      generalize see A d = dd at r hn
      cases r <;> intro hg <;> simp_all
    rw [key] at q
    exact q _ _ (h.drop.drop.pbl _)
  · cases hg

/-! ### lists and tuples that are read -/
def lsOf : D → Option (List D)
  | .lst ds => some ds | .mu ds => some ds | .fro ds => some ds
  | _ => none
def sqOf : D → Option (List D)
  | .lst ds => some ds | .mu ds => some ds | .fro ds => some ds | .tup ds => some ds
  | _ => none
section
variable {K : PySem.W.Frag} {G H : Hp} {v : V} {d : D} {L : List Addr} {ds : List D} {A : Sl}
theorem R.list (g : Same G H) (r : R K G H v d L) (h : lsOf d = some ds) : ∃ a xs L', v = .ref a ∧ SqL K H a xs ∧ Rs K G H xs ds L' := by
  cases r <;> simp only [lsOf] at h <;> try cases h
  · rename_i q r; exact ⟨_, _, _, rfl, .inl (.inl (g _ _ q)), r⟩
  · rename_i q r; exact ⟨_, _, _, rfl, sq_l g q, r⟩
  · rename_i e n r; exact ⟨_, _, _, rfl, .inl (.inl e), r⟩
theorem R.seq (g : Same G H) (r : R K G H v d L) (h : sqOf d = some ds) : ∃ a xs L', v = .ref a ∧ (SqL K H a xs ∨ SqT K H a xs) ∧ Rs K G H xs ds L' := by
  cases r <;> simp only [sqOf] at h <;> try cases h
  · rename_i q r; exact ⟨_, _, _, rfl, .inr (.inl (.inl (g _ _ q))), r⟩
  · rename_i q r; exact ⟨_, _, _, rfl, .inl (.inl (.inl (g _ _ q))), r⟩
  · rename_i q r; exact ⟨_, _, _, rfl, .inl (sq_l g q), r⟩
  · rename_i e n r; exact ⟨_, _, _, rfl, .inl (.inl (.inl e)), r⟩
theorem lsOf_al (h : lsOf (see A d) = some ds) : ∀ j, see A d ≠ .al j := fun j e => by rw [e] at h; cases h
theorem sqOf_al (h : sqOf (see A d) = some ds) : ∀ j, see A d ≠ .al j := fun j e => by rw [e] at h; cases h
theorem sublist_nil {L : List Addr} (h : L.Sublist []) : L = [] := List.sublist_nil.mp h
theorem Rs.atI {xs : List V} {i : Int} {e : D} (r : Rs K G H xs ds L) (h : atI ds i = some e) : ∃ w Li, atI xs i = some w ∧ R K G H w e Li := by
  unfold L2.atI at h ⊢
  rw [r.length]
  cases hi : ixN ds.length i with
  | none => rw [hi] at h; cases h
  | some j =>
    rw [hi] at h
    obtain ⟨w, Li, h1, h2, _⟩ := r.getD (i := j) (d := e) h
    exact ⟨w, Li, h1, h2⟩
end
def gIx (d e : D) (A : Sl) : Option D := match e with
  | .int i => match see A d with
    | .str x => if x.length ≤ sizeLine then (atI x.cps.toList i).map fun c => .str ⟨#[c]⟩ else none
    | s => match sqOf s with
      | some ds => match atI ds i with
        | some e => if isF e = true then some e else none
        | none => none
      | none => none
  | _ => none
theorem opd_ix : OpD z (rIx z.K) gIx := by
  intro σ A ts H v u d e d' h hg Q q
  unfold gIx at hg
  split at hg
  · rename_i i
    have eu := h.int
    split at hg
    · rename_i x hx
      have hn : ∀ j, see A d ≠ .al j := fun j z => by rw [z] at hx; cases hx
      obtain ⟨G, L, gh, r, _⟩ := h.drop.look hn
      rw [hx] at r
      cases r
      split at hg
      · rename_i hl
        cases hc : atI x.cps.toList i with
        | none => rw [hc] at hg; cases hg
        | some c =>
          rw [hc] at hg
          cases hg
          exact .inr (.inr ⟨x, i, c, rfl, eu, hl, hc, q _ _ (h.drop.drop.pstr _)⟩)
      · cases hg
    · split at hg
      · rename_i ds hs
        split at hg
        · rename_i e he
          split at hg
          · rename_i hf
            cases hg
            obtain ⟨G, L, gh, r, back⟩ := h.drop.look (sqOf_al hs)
            obtain ⟨a, xs, L', ev, sq, rs⟩ := r.seq gh hs
            obtain ⟨w, Li, h1, h2⟩ := rs.atI he
            rw [h2.isF hf] at h2
            have fin := q _ _ (back w _ h2)
            rcases sq with sq | sq
            · exact .inl ⟨a, xs, i, w, ev, eu, sq, h1, fin⟩
            · exact .inr (.inl ⟨a, xs, i, w, ev, eu, sq, h1, fin⟩)
          · cases hg
        · cases hg
      · cases hg
  · cases hg
end
end Ab
end
section
namespace Ab
open PySem PySem.Spec PyProof.Rows L2

/-! ### in, not in -/
section
variable {X : Cx}
def rInT (K : PySem.W.Frag) : R2 := fun x y H Q => ∃ d ds, Dp K H x d ∧ Dp K H y (.tuple ds) ∧ SeqAt.shaped d = true ∧ SeqAt.shaped (.tuple ds) = true ∧ Q (.bl (ds.any fun z => PyData.eqv z d)) H
def rNotInT (K : PySem.W.Frag) : R2 := fun x y H Q => ∃ d ds, Dp K H x d ∧ Dp K H y (.tuple ds) ∧ SeqAt.shaped d = true ∧ SeqAt.shaped (.tuple ds) = true ∧ Q (.bl (!ds.any fun z => PyData.eqv z d)) H
theorem op_inT (hu : X.A.units + 65 < cLine) : OpR X (compareOp .In) (rInT X.K) := by
  intro pins s σ H x y v u Q I rx ry h
  obtain ⟨d, ds, hd, he, sd, se, q⟩ := h
  obtain ⟨as, r1⟩ := Dp.reads I d x v hd rx
  obtain ⟨bs, r2⟩ := Dp.reads I (.tuple ds) y u he ry
  exact SeqAt.in_tuple_reads r2 r1 (SeqAt.canLay_of_shaped se) (SeqAt.canLay_of_shaped sd) (room_in_shaped sd hu) ⟨.bl _, H, I, rfl, q⟩
theorem op_notInT (hu : X.A.units + 65 < cLine) : OpR X (compareOp .NotIn) (rNotInT X.K) := by
  intro pins s σ H x y v u Q I rx ry h
  obtain ⟨d, ds, hd, he, sd, se, q⟩ := h
  obtain ⟨as, r1⟩ := Dp.reads I d x v hd rx
  obtain ⟨bs, r2⟩ := Dp.reads I (.tuple ds) y u he ry
  exact SeqAt.notIn_tuple_reads r2 r1 (SeqAt.canLay_of_shaped se) (SeqAt.canLay_of_shaped sd) (room_in_shaped sd hu) ⟨.bl _, H, I, rfl, q⟩
def rInS : R2 := fun x y H Q => ∃ (c : Nat) (z : Str), x = .str ⟨#[c]⟩ ∧ y = .str z ∧ Q (.bl (decide (c ∈ z.cps.toList))) H
def rNotInS : R2 := fun x y H Q => ∃ (c : Nat) (z : Str), x = .str ⟨#[c]⟩ ∧ y = .str z ∧ Q (.bl (!decide (c ∈ z.cps.toList))) H
def rInA (K : PySem.W.Frag) : R2 := fun x y H Q => rInD K x y H Q ∨ rInT K x y H Q ∨ rInS x y H Q
def rNotInA (K : PySem.W.Frag) : R2 := fun x y H Q => rNotInD K x y H Q ∨ rNotInT K x y H Q ∨ rNotInS x y H Q
theorem op_inA (hu : X.A.units + 65 < cLine) : OpR X (compareOp .In) (rInA X.K) := (op_inD hu).or ((op_inT hu).or op_in_sign)
theorem op_notInA (hu : X.A.units + 65 < cLine) : OpR X (compareOp .NotIn) (rNotInA X.K) := (op_notInD hu).or ((op_notInT hu).or op_notIn_sign)
end
/-- d within e: the answer -/
def inB (d e : D) (A : Sl) : Option Bool := match see A e with
  | .str z => match d with
    | .str ⟨⟨[c]⟩⟩ => some (decide (c ∈ z.cps.toList))
    | _ => none
  | s => match sqOf s with
    | some ds => if (okD (see A d) && okD s) = true then some ((dats ds).any fun z => PyData.eqv z (dat (see A d))) else none
    | none => none
def gIn (d e : D) (A : Sl) : Option D := (inB d e A).map .bl
def gNotIn (d e : D) (A : Sl) : Option D := (inB d e A).map fun b => .bl (!b)
theorem dat_seq {d : D} {ds : List D} (h : sqOf d = some ds) : dat d = .list (dats ds) ∨ dat d = .tuple (dats ds) := by
  cases d <;> simp only [sqOf] at h <;> cases h <;> simp [dat]
section
variable {z : Z}
theorem inB_go {σ : L2.St} {A : Sl} {ts : Ts} {H : Hp} {v u : V} {d e : D} {b : Bool} (h : z.A σ A ((u, e) :: (v, d) :: ts) H) (hg : inB d e A = some b) :
    (∃ x ds, Dp z.K H v x ∧ (Dp z.K H u (.list ds) ∧ SeqAt.shaped (.list ds) = true ∨ Dp z.K H u (.tuple ds) ∧ SeqAt.shaped (.tuple ds) = true) ∧ SeqAt.shaped x = true ∧ b = ds.any fun z => PyData.eqv z x) ∨
      ∃ (c : Nat) (w : Str), v = .str ⟨#[c]⟩ ∧ u = .str w ∧ b = decide (c ∈ w.cps.toList) := by
  unfold inB at hg
  split at hg
  · rename_i w hw
    split at hg
    · rename_i c
      cases hg
      obtain ⟨G, L, gh, r, _⟩ := h.look (fun j z => by rw [z] at hw; cases hw)
      rw [hw] at r
      cases r
      exact .inr ⟨c, w, h.drop.str, rfl, rfl⟩
    · cases hg
  · split at hg
    · rename_i ds hs
      by_cases hk : (okD (see A d) && okD (see A e)) = true
      · rw [if_pos hk] at hg
        cases hg
        rw [Bool.and_eq_true] at hk
        obtain ⟨G, L, L', gh, r1, r2, _⟩ := h.look2 (okD_al hk.2) (okD_al hk.1)
        have d1 := r1.dp gh (okD_lay hk.2)
        have s1 : SeqAt.shaped (dat (see A e)) = true := hk.2
        refine .inl ⟨_, dats ds, r2.dp gh (okD_lay hk.1), ?_, hk.1, rfl⟩
        rcases dat_seq hs with q | q <;> rw [q] at d1 s1
        · exact .inl ⟨d1, s1⟩
        · exact .inr ⟨d1, s1⟩
      · rw [if_neg hk] at hg; cases hg
    · cases hg
theorem opd_in : OpD z (rInA z.K) gIn := by
  intro σ A ts H v u d e d' h hg Q q
  unfold gIn at hg
  cases hb : inB d e A with
  | none => rw [hb] at hg; cases hg
  | some b =>
    rw [hb] at hg
    cases hg
    have fin := q _ _ (h.drop.drop.pbl b)
    rcases inB_go h hb with ⟨x, ds, h1, h2 | h2, h3, rfl⟩ | ⟨c, w, e1, e2, rfl⟩
    · exact .inl ⟨x, ds, h1, h2.1, h3, h2.2, fin⟩
    · exact .inr (.inl ⟨x, ds, h1, h2.1, h3, h2.2, fin⟩)
    · exact .inr (.inr ⟨c, w, e1, e2, fin⟩)
theorem opd_notIn : OpD z (rNotInA z.K) gNotIn := by
  intro σ A ts H v u d e d' h hg Q q
  unfold gNotIn at hg
  cases hb : inB d e A with
  | none => rw [hb] at hg; cases hg
  | some b =>
    rw [hb] at hg
    cases hg
    have fin := q _ _ (h.drop.drop.pbl (!b))
    rcases inB_go h hb with ⟨x, ds, h1, h2 | h2, h3, rfl⟩ | ⟨c, w, e1, e2, rfl⟩
    · exact .inl ⟨x, ds, h1, h2.1, h3, h2.2, fin⟩
    · exact .inr (.inl ⟨x, ds, h1, h2.1, h3, h2.2, fin⟩)
    · exact .inr (.inr ⟨c, w, e1, e2, fin⟩)

end
/-! ### one value opened: what is known of it, and how one goes on -/
section
variable {K : PySem.W.Frag} {B : Bs} {G H : Hp} {σ : L2.St} {A : Sl} {ts : Ts} {vs : List V} {d e : D} {ds : List D} {p : Addr} {u v : V} {L : List Addr}
theorem isFs_noAl : ∀ {ds : List D}, isFs ds = true → noAl ds = true
  | [], _ => rfl
  | d :: ds, h => by
    rw [isFs, Bool.and_eq_true] at h
    have ih : noAl ds = true := isFs_noAl h.2
    unfold noAl at ih ⊢
    rw [List.all_cons, ih, Bool.and_true]
    cases d <;> first | rfl | (have := h.1; simp [isF] at this)
/-- the state goes on with a value w that is told e -/
def Fin (K : PySem.W.Frag) (B : Bs) (σ : L2.St) (A : Sl) (ts : Ts) (H G : Hp) : Prop :=
  ∀ w e H' G' L', Same H H' → Same G G' → Same G' H' → (∀ a, H a ≠ none → G a = none → G' a = none) → R K G' H' w e L' → L'.Nodup → (∀ a ∈ L', H a = none) → Abs K B σ A ((w, e) :: ts) H'
theorem Abs.fin (h : Abs K B σ A ts H) : ∃ G, Same G H ∧ Fin K B σ A ts H G := by
  obtain ⟨G, L1, L2, gd, tm, sl, nd, ow⟩ := h
  exact ⟨G, gd.gh, fun w e H' G' L' he g1 g2 g3 r rn rf => step_core gd tm sl nd ow he g1 g2 g3 r rn rf⟩
theorem Abs.open (h : Abs K B σ A ((v, d) :: ts) H) (hn : ∀ j, see A d ≠ .al j) : ∃ G L, Same G H ∧ R K G H v (see A d) L ∧ Fin K B σ A ts H G := by
  obtain ⟨G, L1, L2, gd, tm, sl, nd, ow⟩ := id h
  obtain ⟨L, r⟩ := tm.look sl hn
  obtain ⟨M, tm2, sM⟩ : ∃ M, Tms K σ G H ts M ∧ M.Sublist L1 := by
    cases tm with
    | cons r t => exact ⟨_, t, List.sublist_append_right _ _⟩
    | al e t => exact ⟨_, t, .refl _⟩
  have sub : (M ++ L2).Sublist (L1 ++ L2) := List.Sublist.append_right sM _
  exact ⟨G, L, gd.gh, r, fun w e H' G' L' he g1 g2 g3 r rn rf => step_core gd tm2 sl (sub.nodup nd) (fun a ha => ow a (sub.subset ha)) he g1 g2 g3 r rn rf⟩
theorem Abs.open2 (h : Abs K B σ A ((u, e) :: (v, d) :: ts) H) (h1 : ∀ j, see A e ≠ .al j) (h2 : ∀ j, see A d ≠ .al j) :
    ∃ G L L', Same G H ∧ R K G H u (see A e) L ∧ R K G H v (see A d) L' ∧ Fin K B σ A ts H G := by
  obtain ⟨G, L1, L2, gd, tm, sl, nd, ow⟩ := id h
  obtain ⟨L, r⟩ := tm.look sl h1
  obtain ⟨M, tm2, sM⟩ : ∃ M, Tms K σ G H ((v, d) :: ts) M ∧ M.Sublist L1 := by
    cases tm with
    | cons r t => exact ⟨_, t, List.sublist_append_right _ _⟩
    | al e t => exact ⟨_, t, .refl _⟩
  obtain ⟨L', r'⟩ := tm2.look sl h2
  obtain ⟨M', tm3, sM'⟩ : ∃ M', Tms K σ G H ts M' ∧ M'.Sublist M := by
    cases tm2 with
    | cons r t => exact ⟨_, t, List.sublist_append_right _ _⟩
    | al e t => exact ⟨_, t, .refl _⟩
  have sub : (M' ++ L2).Sublist (L1 ++ L2) := List.Sublist.append_right (sM'.trans sM) _
  exact ⟨G, L, L', gd.gh, r, r', fun w e H' G' L' he g1 g2 g3 r rn rf => step_core gd tm3 sl (sub.nodup nd) (fun a ha => ow a (sub.subset ha)) he g1 g2 g3 r rn rf⟩
theorem Fin.known (f : Fin K B σ A ts H G) (g : Same G H) (r : R K G H v d []) : Abs K B σ A ((v, d) :: ts) H :=
  f v d H G [] (fun _ _ e => e) (fun _ _ e => e) g (fun _ _ e => e) r List.nodup_nil fun _ z => nomatch z
theorem gp_none (g : Same G H) (hp : H p = none) : G p = none := by
  cases q : G p with
  | none => rfl
  | some o => rw [g p o q] at hp; cases hp
theorem same_upd2 {o : HO} (g : Same G H) : Same (upd G p o) (upd H p o) := fun a x e => by
  by_cases m : a = p
  · subst m; rw [upd_same] at e ⊢; exact e
  · rw [upd_ne m] at e ⊢; exact g a x e
theorem Fin.tup (f : Fin K B σ A ts H G) (g : Same G H) (r : Rs K G H vs ds []) (hp : H p = none) : Abs K B σ A ((.ref p, .tup ds) :: ts) (upd H p (.tup vs)) := by
  have g4 : Same G (upd G p (.tup vs)) := same_new (gp_none g hp)
  exact f _ _ _ (upd G p (.tup vs)) [] (same_new hp) g4 (same_upd2 g) (fun a ha hn => (upd_ne (fun z => ha (by rw [z]; exact hp))).trans hn) (.tup upd_same (r.free g4)) List.nodup_nil fun _ z => nomatch z
theorem Fin.lst (f : Fin K B σ A ts H G) (g : Same G H) (r : Rs K G H vs ds []) (hp : H p = none) : Abs K B σ A ((.ref p, .mu ds) :: ts) (upd H p (.lst vs)) :=
  f _ _ _ G [p] (same_new hp) (fun _ _ e => e) (g.trans (same_new hp)) (fun _ _ hn => hn) (.mu upd_same (gp_none g hp) (r.free fun _ _ e => e)) (by simp) fun a ha => by rw [List.mem_singleton.mp ha]; exact hp
theorem R.seq2 (g : Same G H) (r : R K G H v d L) (h : sqOf d = some ds) : ∃ a xs L', v = .ref a ∧ Rs K G H xs ds L' ∧ ((lsOf d = some ds ∧ SqL K H a xs) ∨ (d = .tup ds ∧ SqT K H a xs ∧ (L' = [] → R K G H v d []))) := by
  cases r <;> simp only [sqOf] at h <;> try cases h
  · rename_i q r; exact ⟨_, _, _, rfl, r, .inr ⟨rfl, .inl (.inl (g _ _ q)), fun e => by subst e; exact .tup q r⟩⟩
  · rename_i q r; exact ⟨_, _, _, rfl, r, .inl ⟨rfl, .inl (.inl (g _ _ q))⟩⟩
  · rename_i q r; exact ⟨_, _, _, rfl, r, .inl ⟨rfl, sq_l g q⟩⟩
  · rename_i e n r; exact ⟨_, _, _, rfl, r, .inl ⟨rfl, .inl (.inl e)⟩⟩
/-- lists that are tracked as such (not the script) -/
def exOf : D → Option (List D)
  | .lst ds => some ds | .mu ds => some ds
  | _ => none
theorem exOf_al (h : exOf (see A d) = some ds) : ∀ j, see A d ≠ .al j := fun j e => by rw [e] at h; cases h
theorem R.ex (g : Same G H) (r : R K G H v d L) (h : exOf d = some ds) : ∃ a xs L', v = .ref a ∧ H a = some (.lst xs) ∧ Rs K G H xs ds L' := by
  cases r <;> simp only [exOf] at h <;> try cases h
  · rename_i q r; exact ⟨_, _, _, rfl, g _ _ q, r⟩
  · rename_i e n r; exact ⟨_, _, _, rfl, e, r⟩
theorem Rs.take : ∀ {vs : List V} {ds : List D} (n : Nat), Rs K G H vs ds [] → Rs K G H (vs.take n) (ds.take n) []
  | _, _, 0, _ => .nil
  | [], [], _ + 1, _ => .nil
  | v :: vs, d :: ds, n + 1, r => by
    generalize hL : ([] : List Addr) = L0 at r
    cases r with
    | cons r t =>
      obtain ⟨e1, e2⟩ := List.append_eq_nil_iff.mp hL.symm
      subst e1; subst e2
      exact Rs.cons r (Rs.take n t)
theorem Rs.drop : ∀ {vs : List V} {ds : List D} (n : Nat), Rs K G H vs ds [] → Rs K G H (vs.drop n) (ds.drop n) []
  | _, _, 0, r => r
  | [], [], _ + 1, _ => .nil
  | v :: vs, d :: ds, n + 1, r => by
    generalize hL : ([] : List Addr) = L0 at r
    cases r with
    | cons r t =>
      obtain ⟨e1, e2⟩ := List.append_eq_nil_iff.mp hL.symm
      subst e1; subst e2
      exact Rs.drop n t
theorem Rs.cat {ws : List V} {es : List D} (r : Rs K G H vs ds []) (s : Rs K G H ws es []) : Rs K G H (vs ++ ws) (ds ++ es) [] := r.app s
theorem Rs.rep (r : Rs K G H vs ds []) : ∀ n : Nat, Rs K G H (List.replicate n vs).flatten (List.replicate n ds).flatten []
  | 0 => .nil
  | n + 1 => by
    rw [List.replicate_succ, List.replicate_succ, List.flatten_cons, List.flatten_cons]
    exact r.cat (Rs.rep r n)
end

/-! ### + -/
def gAdd (d e : D) (A : Sl) : Option D := match see A d, see A e with
  | .int i, .int j => some (.int (i + j))
  | .str x, .str y => if x.length + y.length ≤ sizeLine then some (.str (x ++ y)) else none
  | .tup ds, .tup es => if isFs ds = true ∧ isFs es = true ∧ ds.length + es.length ≤ sizeLine then some (.tup (ds ++ es)) else none
  | s, t => match exOf s, exOf t with
    | some ds, some es => if isFs ds = true ∧ isFs es = true ∧ ds.length + es.length ≤ sizeLine then some (.mu (ds ++ es)) else none
    | _, _ => none
def rAddStr : R2 := fun x y H Q => ∃ i j, x = .str i ∧ y = .str j ∧ i.length + j.length ≤ sizeLine ∧ Q (.str (i ++ j)) H
def rAddA (K : PySem.W.Frag) : R2 := fun x y H Q => rI0 (fun i j => .int (i + j)) x y H Q ∨ rAddStr x y H Q ∨ rCatA K x y H Q ∨ rCat x y H Q
theorem op_addA {X : Cx} : OpR X (binaryOp .Add) (rAddA X.K) := op_add.or (op_add_str.or (op_catA.or op_cat))
section
variable {z : Z}
theorem opd_add : OpD z (rAddA z.K) gAdd := by
  intro σ A ts H v u d e d' h hg Q q
  have key : ∀ {x y : D}, see A d = x → see A e = y → (∀ j, x ≠ .al j) → (∀ j, y ≠ .al j) → ∃ G L L', Same G H ∧ R z.K G H u y L ∧ R z.K G H v x L' ∧ Fin z.K z.B σ A ts H G := by
    intro x y e1 e2 n1 n2
    obtain ⟨G, L, L', gh, r1, r2, f⟩ := h.open2 (by rw [e2]; exact n2) (by rw [e1]; exact n1)
    exact ⟨G, L, L', gh, e2 ▸ r1, e1 ▸ r2, f⟩
  unfold gAdd at hg
  split at hg
  · rename_i i j h1 h2
    cases hg
    obtain ⟨G, L, L', gh, r1, r2, f⟩ := key h1 h2 (fun _ z => nomatch z) (fun _ z => nomatch z)
    cases r1; cases r2
    exact .inl ⟨i, j, rfl, rfl, q _ _ (f.known gh (.int _))⟩
  · rename_i x y h1 h2
    split at hg
    · rename_i hl
      cases hg
      obtain ⟨G, L, L', gh, r1, r2, f⟩ := key h1 h2 (fun _ z => nomatch z) (fun _ z => nomatch z)
      cases r1; cases r2
      exact .inr (.inl ⟨x, y, rfl, rfl, hl, q _ _ (f.known gh (.str _))⟩)
    · cases hg
  · rename_i ds es h1 h2
    split at hg
    · rename_i hl
      cases hg
      obtain ⟨G, L, L', gh, r1, r2, f⟩ := key h1 h2 (fun _ z => nomatch z) (fun _ z => nomatch z)
      cases r1 with | tup q1 s1 => cases r2 with | tup q2 s2 =>
      have e1 := s1.isFs hl.2.1
      have e2 := s2.isFs hl.1
      subst e1; subst e2
      refine .inr (.inr (.inl ⟨_, _, _, _, rfl, rfl, .inl (.inl (gh _ _ q2)), .inl (.inl (gh _ _ q1)), by rw [s1.length, s2.length]; exact hl.2.2, fun e => ?_, fun _ e => ?_, fun _ _ p hp => ?_⟩))
      · subst e
        have e3 : ds = [] := by have := s2.length; simpa using this.symm
        subst e3
        exact q _ _ (f.known gh (.tup q1 s1))
      · subst e
        have e3 : es = [] := by have := s1.length; simpa using this.symm
        subst e3
        rw [List.append_nil] at q
        exact q _ _ (f.known gh (.tup q2 s2))
      · exact q _ _ (f.tup gh (s2.cat s1) hp)
    · cases hg
  · split at hg
    · rename_i ds es h1 h2
      split at hg
      · rename_i hl
        cases hg
        obtain ⟨G, L, L', gh, r1, r2, f⟩ := h.open2 (exOf_al h2) (exOf_al h1)
        obtain ⟨a, xs, M, rfl, k1, s1⟩ := r2.ex gh h1
        obtain ⟨b, ys, M', rfl, k2, s2⟩ := r1.ex gh h2
        have e1 := s1.isFs hl.1
        have e2 := s2.isFs hl.2.1
        subst e1; subst e2
        exact .inr (.inr (.inr ⟨a, b, xs, ys, rfl, rfl, k1, k2, by rw [s1.length, s2.length]; exact hl.2.2, fun p hp => q _ _ (f.lst gh (s1.cat s2) hp)⟩))
      · cases hg
    · cases hg

/-! ### * -/
def gMulA (d e : D) (A : Sl) : Option D := match d, e with
  | .int i, .int j => if cMul i j = true then some (.int (i * j)) else none
  | d, .int k => match exOf (see A d) with
    | some ds => if isFs ds = true ∧ k.natAbs < 2 ^ 62 ∧ ds.length * k.toNat ≤ sizeLine then some (.mu (List.replicate k.toNat ds).flatten) else none
    | none => none
  | _, _ => none
def rMulA : R2 := fun x y H Q => rI CMul (fun i j => .int (i * j)) x y H Q ∨ rRep x y H Q
theorem op_mulA {X : Cx} : OpR X (binaryOp .Mult) rMulA := op_mul.or op_rep
theorem opd_mulA : OpD z rMulA gMulA := by
  intro σ A ts H v u d e d' h hg Q q
  unfold gMulA at hg
  split at hg
  · rename_i i j
    split at hg
    · rename_i hc
      cases hg
      refine .inl ⟨i, j, h.drop.int, h.int, ?_, q _ _ (h.drop.drop.pint _)⟩
      unfold cMul at hc
      rw [Bool.or_eq_true, decide_eq_true_iff, decide_eq_true_iff] at hc
      rcases hc with hc | hc
      · exact .inl (by omega)
      · exact .inr (by omega)
    · cases hg
  · rename_i k _
    split at hg
    · rename_i ds hs
      split at hg
      · rename_i hl
        cases hg
        have eu := h.int
        obtain ⟨G, L, gh, r, f⟩ := h.drop.open (exOf_al hs)
        obtain ⟨a, xs, M, rfl, k1, s1⟩ := r.ex gh hs
        have e1 := s1.isFs hl.1
        subst e1
        exact .inr ⟨a, k, xs, rfl, eu, k1, by omega, by omega, by rw [s1.length]; exact hl.2.2, fun p hp => q _ _ (f.lst gh (s1.rep _) hp)⟩
      · cases hg
    · cases hg
  · cases hg

/-! ### slices -/
abbrev FO := Sl → Ou (Option Int)
def pO (z : Z) (o : Ou (Option Int)) (σ : L2.St) (ts : Ts) (Q : Option Int → Hp → Prop) : Prop := match o with
  | .ok b A' => ∀ H', z.A σ A' ts H' → Q b H'
  | .exc c A' => ∀ H', z.A σ A' ts H' → z.W (z.cl c) none σ H'
  | .stuck => False
def tO (z : Z) (f : FO) : TO := fun σ H Q => ∃ A ts, z.A σ A ts H ∧ pO z (f A) σ ts Q
variable {X : Cx}
theorem PO.imp {e : Option Expr} {t t' : TO} (h : PO X e t) (hi : ∀ σ H Q, t' σ H Q → t σ H Q) : PO X e t' := ⟨fun pins s σ H Q I w => h.run pins s σ H Q I (hi σ H Q w)⟩
def fNoPart : FO := fun A => .ok none A
def fPart (f : FE) : FO := fun A => (f A).bind fun d A1 => match d with
  | .int i => .ok (some i) A1
  | _ => .stuck
theorem qo_none : PO X none (tO z fNoPart) := PO.imp po_none fun σ H Q ⟨A, ts, ha, hp⟩ => hp _ ha
theorem qo_some {e : Expr} {f : FE} (h : PE X e (tE z f)) : PO X (some e) (tO z (fPart f)) := PO.imp (po_some h) fun σ H Q ⟨A, ts, ha, hp⟩ => ⟨A, ts, ha, by
  unfold fPart at hp
  cases ea : f A with
  | stuck => rw [ea] at hp; exact hp.elim
  | exc c A1 => rw [ea] at hp; exact hp
  | ok d A1 =>
    rw [ea] at hp
    simp only [Ou.bind_ok] at hp
    intro v H1 h1
    cases d <;> try exact hp.elim
    exact ⟨_, h1.int, hp _ h1.drop⟩⟩
def cutG {α : Type} (xs : List α) (lo hi : Option Int) : List α := (xs.drop (HT.sIx xs.length 0 lo)).take (HT.sIx xs.length xs.length hi - HT.sIx xs.length 0 lo)
def gSl (d : D) (lo hi : Option Int) (A : Sl) : Option D := match see A d with
  | .str x => if x.length ≤ sizeLine then some (.str (cutS x lo hi)) else none
  | .tup ds => if isFs ds = true then some (.tup (cutG ds lo hi)) else none
  | s => match lsOf s with
    | some ds => if isFs ds = true then some (.mu (cutG ds lo hi)) else none
    | none => none
def fSl (fe : FE) (fl fh : FO) : FE := fun A => (fe A).bind fun d A1 => (fl A1).bind fun l A2 => (fh A2).bind fun h A3 => match gSl d l h A3 with
  | some r => .ok r A3
  | none => .stuck
def rSlAny (K : PySem.W.Frag) : V → Option Int → Option Int → Hp → VK → Prop := fun x lo hi H Q => rSlL K x lo hi H Q ∨ rSlA K x lo hi H Q ∨ rSlS x lo hi H Q
theorem sl_any : SlR X (rSlAny X.K) := sl_list.or (sl_tupA.or sl_str)
theorem sld_any {σ : L2.St} {A : Sl} {ts : Ts} {H : Hp} {v : V} {d d' : D} {lo hi : Option Int} (h : z.A σ A ((v, d) :: ts) H) (hg : gSl d lo hi A = some d') (Q : VK) (q : ∀ w H', z.A σ A ((w, d') :: ts) H' → Q w H') : rSlAny z.K v lo hi H Q := by
  unfold gSl at hg
  split at hg
  · rename_i x hx
    split at hg
    · rename_i hl
      cases hg
      obtain ⟨G, L, gh, r, f⟩ := h.open (fun j z => by rw [z] at hx; cases hx)
      rw [hx] at r
      cases r
      exact .inr (.inr ⟨x, rfl, hl, q _ _ (f.known gh (.str _))⟩)
    · cases hg
  · rename_i ds hx
    split at hg
    · rename_i hl
      cases hg
      obtain ⟨G, L, gh, r, f⟩ := h.open (fun j z => by rw [z] at hx; cases hx)
      rw [hx] at r
      cases r with | tup q1 s1 =>
      have e1 := s1.isFs hl
      subst e1
      refine .inr (.inl ⟨_, _, rfl, .inl (.inl (gh _ _ q1)), fun e => ?_, fun _ p hp => ?_⟩)
      · have e2 : cutG ds lo hi = ds := by
          unfold cutG
          rw [← s1.length, e.1, e.2, List.drop_zero, s1.length, Nat.sub_zero, List.take_length]
        rw [e2] at q
        exact q _ _ (f.known gh (.tup q1 s1))
      · refine q _ _ (f.tup gh ?_ hp)
        unfold cutV cutG
        rw [s1.length]
        exact (s1.drop _).take _
    · cases hg
  · split at hg
    · rename_i ds hs
      split at hg
      · rename_i hl
        cases hg
        obtain ⟨G, L, gh, r, f⟩ := h.open (lsOf_al hs)
        obtain ⟨a, xs, M, rfl, k1, s1⟩ := r.list gh hs
        have e1 := s1.isFs hl
        subst e1
        refine .inl ⟨a, xs, rfl, k1, fun p hp => q _ _ (f.lst gh ?_ hp)⟩
        unfold cutV cutG
        rw [s1.length]
        exact (s1.drop _).take _
      · cases hg
    · cases hg
theorem qe_slice {e : Expr} {lo hi : Option Expr} {fe : FE} {fl fh : FO} {pos p2 : Pos} (hK : X.K = z.K) (he : PE X e (tE z fe)) (hl : PO X lo (tO z fl)) (hh : PO X hi (tO z fh)) : PE X (.Subscript e (.Slice lo hi none p2) pos) (tE z (fSl fe fl fh)) := by
  refine PE.imp (pe_slice sl_any he hl hh) fun σ H Q ⟨A, ts, ha, hp⟩ => ⟨A, ts, ha, ?_⟩
  unfold fSl at hp
  cases ea : fe A with
  | stuck => rw [ea] at hp; exact hp.elim
  | exc c A1 => rw [ea] at hp; exact hp
  | ok d A1 =>
    rw [ea] at hp
    simp only [Ou.bind_ok] at hp
    intro v H1 h1
    refine ⟨A1, (v, d) :: ts, h1, ?_⟩
    cases eb : fl A1 with
    | stuck => rw [eb] at hp; exact hp.elim
    | exc c A2 => rw [eb] at hp; exact fun H' h' => hp H' h'.drop
    | ok l A2 =>
      rw [eb] at hp
      simp only [Ou.bind_ok] at hp
      intro H2 h2
      refine ⟨A2, (v, d) :: ts, h2, ?_⟩
      cases ec : fh A2 with
      | stuck => rw [ec] at hp; exact hp.elim
      | exc c A3 => rw [ec] at hp; exact fun H' h' => hp H' h'.drop
      | ok hh A3 =>
        rw [ec] at hp
        simp only [Ou.bind_ok] at hp
        intro H3 h3
        cases eg : gSl d l hh A3 with
        | none => rw [eg] at hp; exact hp.elim
        | some d' =>
          rw [eg] at hp
          rw [hK]
          exact sld_any h3 eg Q hp
end
end Ab
end
section
namespace Ab
open PySem PySem.Spec PyProof.Rows L2

/-! ### argument lists -/
def fNil : FA := fun A => .ok [] A
def fCons (f : FE) (g : FA) : FA := fun A => (f A).bind fun d A1 => (g A1).bind fun ds A2 => .ok (d :: ds) A2
section
variable {z : Z} {X : Cx}
theorem qa_nil : PA X [] (tA z fNil) := PA.imp pa_nil fun σ H Q ⟨A, ts, ha, hp⟩ => hp [] _ rfl ha
theorem qa_cons {e : Expr} {es : List Expr} {f : FE} {g : FA} (ha : PE X e (tE z f)) (hr : PA X es (tA z g)) (hs : starEach (e :: es) X.env = (false, eval e X.env) :: starEach es X.env := by rfl) : PA X (e :: es) (tA z (fCons f g)) := by
  refine PA.imp (pa_cons ha hr hs) fun σ H Q ⟨A, ts, hA, hp⟩ => ⟨A, ts, hA, ?_⟩
  unfold fCons at hp
  cases ea : f A with
  | stuck => rw [ea] at hp; exact hp.elim
  | exc c A1 => rw [ea] at hp; exact hp
  | ok d A1 =>
    rw [ea] at hp
    simp only [Ou.bind_ok] at hp
    intro v H1 h1
    refine ⟨A1, (v, d) :: ts, h1, ?_⟩
    cases eb : g A1 with
    | stuck => rw [eb] at hp; exact hp.elim
    | exc c A2 => rw [eb] at hp; exact fun H' h' => hp H' h'.drop
    | ok ds A2 =>
      rw [eb] at hp
      intro vs H2 hl h2
      refine hp (v :: vs) H2 (by simp [hl]) (h2.perm ?_)
      simpa using List.perm_middle
/-! ### an argument list whose aliases are frozen -/
def closeL : List D → Sl → Option (List D × Sl)
  | [], A => some ([], A)
  | d :: ds, A => match d with
    | .al i => match A[i]? with
      | some (some t) => match closeL ds (A.set i (some (fz t))) with
        | some (es, A') => some (fz t :: es, A')
        | none => none
      | _ => none
    | d => match closeL ds A with
      | some (es, A') => some (d :: es, A')
      | none => none
theorem fz_al : ∀ d : D, (∀ i, d ≠ .al i) → ∀ i, fz d ≠ .al i := by
  intro d h i e
  cases d <;> simp only [fz] at e <;> first | exact h _ rfl | exact nomatch e
theorem noAl_cons {d : D} {ds : List D} (h : ∀ i, d ≠ .al i) (h2 : noAl ds = true) : noAl (d :: ds) = true := by
  unfold noAl at h2 ⊢
  rw [List.all_cons, h2, Bool.and_true]
  cases d <;> first | rfl | exact absurd rfl (h _)
/-- what a slot bears is no alias -/
theorem Abs.slot_al {K : PySem.W.Frag} {B : Bs} {σ : L2.St} {A : Sl} {ts : Ts} {H : Hp} {i : Nat} {d : D} (h : Abs K B σ A ts H) (e : A[i]? = some (some d)) : ∀ j, d ≠ .al j := fun j q => by
  obtain ⟨G, L1, L2, gd, tm, sl, nd, ow⟩ := h
  obtain ⟨v, Li, L', _, r, _, _⟩ := sl.take e
  subst q
  exact r.not_al
theorem Abs.close {K : PySem.W.Frag} {B : Bs} {σ : L2.St} {H : Hp} : ∀ {ds : List D} {vs : List V} {A : Sl} {ts : Ts} {es : List D} {A' : Sl}, vs.length = ds.length → Abs K B σ A (vs.zip ds ++ ts) H → closeL ds A = some (es, A') →
    Abs K B σ A' (vs.zip es ++ ts) H ∧ vs.length = es.length ∧ noAl es = true
  | [], [], A, ts, es, A', _, h, hc => by
    simp only [closeL] at hc
    cases hc
    exact ⟨h, rfl, rfl⟩
  | d :: ds, v :: vs, A, ts, es, A', hl, h, hc => by
    have go : ∀ {d' : D} {A1 : Sl} {es1 : List D}, (∀ i, d' ≠ .al i) → Abs K B σ A1 ((v, d') :: (vs.zip ds ++ ts)) H → closeL ds A1 = some (es1, A') → Abs K B σ A' ((v :: vs).zip (d' :: es1) ++ ts) H ∧ (v :: vs).length = (d' :: es1).length ∧ noAl (d' :: es1) = true := by
      intro d' A1 es1 nd h1 hc1
      have h2 : Abs K B σ A1 (vs.zip ds ++ (v, d') :: ts) H := h1.perm (by simpa using (List.perm_middle (l₁ := vs.zip ds) (a := (v, d')) (l₂ := ts)).symm)
      obtain ⟨h3, l3, n3⟩ := Abs.close (by simpa using hl) h2 hc1
      exact ⟨h3.perm (by simpa using List.perm_middle), by simp [l3], noAl_cons nd n3⟩
    unfold closeL at hc
    split at hc
    · rename_i i
      split at hc
      · rename_i t et
        split at hc
        · rename_i es1 A1 e1
          cases hc
          have h1 := h.frz et
          exact go (fz_al t (h.slot_al et)) h1 e1
        · cases hc
      · cases hc
    · rename_i hna
      split at hc
      · rename_i es1 A1 e1
        cases hc
        exact go (fun i q => hna i q) h e1
      · cases hc
  | [], _ :: _, _, _, _, _, hl, _, _ => by simp at hl
  | _ :: _, [], _, _, _, _, hl, _, _ => by simp at hl

/-! ### displays -/
def fTup (fa : FA) : FE := fun A => (fa A).bind fun ds A1 => match closeL ds A1 with
  | some (es, A2) => if es.length ≤ sizeLine then .ok (.tup es) A2 else .stuck
  | none => .stuck
def fLst (fa : FA) : FE := fun A => (fa A).bind fun ds A1 => match closeL ds A1 with
  | some (es, A2) => if es.length ≤ sizeLine then .ok (.mu es) A2 else .stuck
  | none => .stuck
theorem qe_tup {es : List Expr} {k : Nat} {pos : Pos} {fa : FA} (h : PA X es (tA z fa)) : PE X (.Tuple es k pos) (tE z (fTup fa)) := by
  refine PE.imp (pe_tup h) fun σ H Q ⟨A, ts, hA, hp⟩ => ⟨A, ts, hA, ?_⟩
  unfold fTup at hp
  cases ea : fa A with
  | stuck => rw [ea] at hp; exact hp.elim
  | exc c A1 => rw [ea] at hp; exact hp
  | ok ds A1 =>
    rw [ea] at hp
    simp only [Ou.bind_ok] at hp
    intro vs H1 hl h1
    split at hp
    · rename_i es' A2 ec
      obtain ⟨h2, l2, n2⟩ := h1.close hl ec
      split at hp
      · rename_i hz
        exact ⟨by rw [l2]; exact hz, fun p hpn => hp _ _ (h2.tup l2 n2 hpn)⟩
      · exact hp.elim
    · exact hp.elim
theorem qe_lst {es : List Expr} {pos : Pos} {fa : FA} (h : PA X es (tA z fa)) : PE X (.List es pos) (tE z (fLst fa)) := by
  refine PE.imp (pe_lst h) fun σ H Q ⟨A, ts, hA, hp⟩ => ⟨A, ts, hA, ?_⟩
  unfold fLst at hp
  cases ea : fa A with
  | stuck => rw [ea] at hp; exact hp.elim
  | exc c A1 => rw [ea] at hp; exact hp
  | ok ds A1 =>
    rw [ea] at hp
    simp only [Ou.bind_ok] at hp
    intro vs H1 hl h1
    split at hp
    · rename_i es' A2 ec
      obtain ⟨h2, l2, n2⟩ := h1.close hl ec
      split at hp
      · rename_i hz
        exact ⟨by rw [l2]; exact hz, fun p hpn => hp _ _ (h2.lst l2 n2 hpn)⟩
      · exact hp.elim
    · exact hp.elim

/-! ### calls of built-ins by values -/
def CallD (z : Z) (r : List V → Hp → VK → Prop) (g : List D → Sl → Option D) : Prop :=
  ∀ (σ : L2.St) (A : Sl) (ts : Ts) (H : Hp) (vs : List V) (ds : List D) (d' : D), vs.length = ds.length → z.A σ A (vs.zip ds ++ ts) H → g ds A = some d' → ∀ Q : VK, (∀ w H', z.A σ A ((w, d') :: ts) H' → Q w H') → r vs H Q
def fCB (g : List D → Sl → Option D) (fa : FA) : FE := fun A => (fa A).bind fun ds A1 => match g ds A1 with
  | some d => .ok d A1
  | none => .stuck
theorem cb_go {r : List V → Hp → VK → Prop} {g : List D → Sl → Option D} {fa : FA} (hd : CallD z r g) {σ : L2.St} {H : Hp} {Q : VK} (h : tE z (fCB g fa) σ H Q) : tCB r (tA z fa) σ H Q := by
  obtain ⟨A, ts, hA, hp⟩ := h
  refine ⟨A, ts, hA, ?_⟩
  unfold fCB at hp
  cases ea : fa A with
  | stuck => rw [ea] at hp; exact hp.elim
  | exc c A1 => rw [ea] at hp; exact hp
  | ok ds A1 =>
    rw [ea] at hp
    simp only [Ou.bind_ok] at hp
    intro vs H1 hl h1
    split at hp
    · rename_i d eg
      exact hd _ _ _ _ _ _ _ hl h1 eg Q hp
    · exact hp.elim
theorem qe_callB {id : String} {x : Str} {e : Expr} {es : List Expr} {p pos : Pos} {r : List V → Hp → VK → Prop} {g : List D → Sl → Option D} {fa : FA} (hc : CallR X (.builtin id) r) (hd : CallD z r g) (hg : Gl X x) (hm : X.mg x = none) (hv : bootBuiltins x = some (.builtin id))
    (ha : PA X (e :: es) (tA z fa)) (hn : x ≠ "__name__" := by decide) (hdb : (x == ("__debug__" : Str)) = false := by decide) (he : starEach (e :: es) X.env = (false, eval e X.env) :: starEach es X.env := by rfl)
    (hpl : (backTo pos (starEach es X.env)).any (·.1) = false := by rfl) : PE X (.Call (.Name x p) (e :: es) [] pos) (tE z (fCB g fa)) := PE.imp (pe_callB hc hg hm hv ha hn hdb he hpl) fun _ _ _ h => cb_go hd h
theorem qe_callTy {T : String} {x : Str} {e : Expr} {es : List Expr} {p pos : Pos} {r : List V → Hp → VK → Prop} {g : List D → Sl → Option D} {fa : FA} (hc : CallR X (.type T) r) (hd : CallD z r g) (hg : Gl X x) (hm : X.mg x = none) (hv : bootBuiltins x = some (.type T))
    (ha : PA X (e :: es) (tA z fa)) (hn : x ≠ "__name__" := by decide) (hdb : (x == ("__debug__" : Str)) = false := by decide) (he : starEach (e :: es) X.env = (false, eval e X.env) :: starEach es X.env := by rfl)
    (hpl : (backTo pos (starEach es X.env)).any (·.1) = false := by rfl) : PE X (.Call (.Name x p) (e :: es) [] pos) (tE z (fCB g fa)) := PE.imp (pe_callTy hc hg hm hv ha hn hdb he hpl) fun _ _ _ h => cb_go hd h
/-- one argument -/
theorem call1 {vs : List V} {ds : List D} {d : D} (hl : vs.length = ds.length) (e : ds = [d]) : ∃ v, vs = [v] := by
  subst e
  match vs, hl with
  | [v], _ => exact ⟨v, rfl⟩
theorem call2 {vs : List V} {ds : List D} {d e : D} (hl : vs.length = ds.length) (h : ds = [d, e]) : ∃ v u, vs = [v, u] := by
  subst h
  match vs, hl with
  | [v, u], _ => exact ⟨v, u, rfl⟩
/-! len -/
def gLen (ds : List D) (A : Sl) : Option D := match ds with
  | [d] => match see A d with
    | .str x => if x.length ≤ sizeLine then some (.int x.length) else none
    | s => match sqOf s with
      | some es => some (.int es.length)
      | none => none
  | _ => none
theorem cd_len : CallD z (fun xs H Q => ∃ x n, xs = [x] ∧ LenV z.K x H n ∧ Q (.int n) H) gLen := by
  intro σ A ts H vs ds d' hl h hg Q q
  unfold gLen at hg
  split at hg
  · rename_i d
    obtain ⟨v, rfl⟩ := call1 hl rfl
    have h : z.A σ A ((v, d) :: ts) H := h
    split at hg
    · rename_i x hx
      split at hg
      · rename_i hz
        cases hg
        obtain ⟨G, L, gh, r, f⟩ := h.open (fun j z => by rw [z] at hx; cases hx)
        rw [hx] at r; cases r
        exact ⟨_, _, rfl, ⟨hz, rfl⟩, q _ _ (f.known gh (.int _))⟩
      · cases hg
    · split at hg
      · rename_i es hs
        cases hg
        obtain ⟨G, L, gh, r, f⟩ := h.open (sqOf_al hs)
        obtain ⟨a, xs, M, rfl, rs, k⟩ := r.seq2 gh hs
        refine ⟨_, es.length, rfl, ?_, q _ _ (f.known gh (.int _))⟩
        rcases k with ⟨_, k⟩ | ⟨_, k, _⟩
        · exact .inl ⟨xs, k, rs.length.symm⟩
        · exact .inr ⟨xs, k, rs.length.symm⟩
      · cases hg
  · cases hg
/-! tuple(x), list(x) of lists and tuples -/
def gTuple (ds : List D) (A : Sl) : Option D := match ds with
  | [d] => match sqOf (see A d) with
    | some es => if isFs es = true then some (.tup es) else none
    | none => none
  | _ => none
theorem cd_tuple : CallD z (fun xs H Q => ∃ p ys, xs = [.ref p] ∧ ((SqL z.K H p ys ∧ ∀ l, H l = none → Q (.ref l) (upd H l (.tup ys))) ∨ (SqT z.K H p ys ∧ Q (.ref p) H))) gTuple := by
  intro σ A ts H vs ds d' hl h hg Q q
  unfold gTuple at hg
  split at hg
  · rename_i d
    obtain ⟨v, rfl⟩ := call1 hl rfl
    have h : z.A σ A ((v, d) :: ts) H := h
    split at hg
    · rename_i es hs
      split at hg
      · rename_i hf
        cases hg
        obtain ⟨G, L, gh, r, f⟩ := h.open (sqOf_al hs)
        obtain ⟨a, xs, M, rfl, rs, k⟩ := r.seq2 gh hs
        have e1 := rs.isFs hf
        subst e1
        refine ⟨a, xs, rfl, ?_⟩
        rcases k with ⟨_, k⟩ | ⟨ek, k, kr⟩
        · exact .inl ⟨k, fun l hln => q _ _ (f.tup gh rs hln)⟩
        · rw [ek] at kr
          exact .inr ⟨k, q _ _ (f.known gh (kr rfl))⟩
      · cases hg
    · cases hg
  · cases hg
def gList (ds : List D) (A : Sl) : Option D := match ds with
  | [d] => match sqOf (see A d) with
    | some es => if isFs es = true then some (.mu es) else none
    | none => none
  | _ => none
theorem cd_list : CallD z (fun xs H Q => ∃ p ys, xs = [.ref p] ∧ (SqL z.K H p ys ∨ SqT z.K H p ys) ∧ ∀ l, H l = none → Q (.ref l) (upd H l (.lst ys))) gList := by
  intro σ A ts H vs ds d' hl h hg Q q
  unfold gList at hg
  split at hg
  · rename_i d
    obtain ⟨v, rfl⟩ := call1 hl rfl
    have h : z.A σ A ((v, d) :: ts) H := h
    split at hg
    · rename_i es hs
      split at hg
      · rename_i hf
        cases hg
        obtain ⟨G, L, gh, r, f⟩ := h.open (sqOf_al hs)
        obtain ⟨a, xs, M, rfl, rs, k⟩ := r.seq2 gh hs
        have e1 := rs.isFs hf
        subst e1
        refine ⟨a, xs, rfl, ?_, fun l hln => q _ _ (f.lst gh rs hln)⟩
        rcases k with ⟨_, k⟩ | ⟨_, k, _⟩
        · exact .inl k
        · exact .inr k
      · cases hg
    · cases hg
  · cases hg
/-! min, max of two ints; int(bool), int(int) -/
def gMin2 (ds : List D) (A : Sl) : Option D := match ds with
  | [.int i, .int j] => some (.int (if j < i then j else i))
  | _ => none
def gMax2 (ds : List D) (A : Sl) : Option D := match ds with
  | [.int i, .int j] => some (.int (if j > i then j else i))
  | _ => none
theorem cd_min2 : CallD z (fun xs H Q => ∃ i j, xs = [.int i, .int j] ∧ Q (.int (if j < i then j else i)) H) gMin2 := by
  intro σ A ts H vs ds d' hl h hg Q q
  unfold gMin2 at hg
  split at hg
  · rename_i i j
    cases hg
    obtain ⟨v, u, rfl⟩ := call2 hl rfl
    have h : z.A σ A ((v, .int i) :: (u, .int j) :: ts) H := h
    rw [h.int, h.drop.int]
    exact ⟨i, j, rfl, q _ _ (h.drop.drop.pint _)⟩
  · cases hg
theorem cd_max2 : CallD z (fun xs H Q => ∃ i j, xs = [.int i, .int j] ∧ Q (.int (if j > i then j else i)) H) gMax2 := by
  intro σ A ts H vs ds d' hl h hg Q q
  unfold gMax2 at hg
  split at hg
  · rename_i i j
    cases hg
    obtain ⟨v, u, rfl⟩ := call2 hl rfl
    have h : z.A σ A ((v, .int i) :: (u, .int j) :: ts) H := h
    rw [h.int, h.drop.int]
    exact ⟨i, j, rfl, q _ _ (h.drop.drop.pint _)⟩
  · cases hg
/-! isinstance against a built-in class -/
def tyN : D → Option String
  | .non => some "NoneType" | .bl _ => some "bool" | .int _ => some "int" | .str _ => some "str"
  | .tup _ => some "tuple" | .lst _ => some "list" | .mu _ => some "list"
  | _ => none
def gIsi (ds : List D) (A : Sl) : Option D := match ds with
  | [d, .ty n] => match tyN (see A d) with
    | some m => (kitB m n).map .bl
    | none => none
  | _ => none
theorem tyN_al {A : Sl} {d : D} {n : String} (h : tyN (see A d) = some n) : ∀ j, see A d ≠ .al j := fun j e => by rw [e] at h; cases h
theorem R.tyOf {K : PySem.W.Frag} {G H : Hp} {v : V} {d : D} {L : List Addr} {n : String} (g : Same G H) (r : R K G H v d L) (h : tyN d = some n) : TyOf K H v (.type n) := by
  cases r <;> simp only [tyN] at h <;> cases h
  · exact .non
  · exact .bl _
  · exact .int _
  · exact .str _
  · rename_i q _; exact .tup (g _ _ q)
  · rename_i q _; exact .lst (g _ _ q)
  · rename_i e _ _; exact .lst e
theorem cd_isi : CallD z (rIsi z.K) gIsi := by
  intro σ A ts H vs ds d' hl h hg Q q
  unfold gIsi at hg
  split at hg
  · rename_i d n
    obtain ⟨v, u, rfl⟩ := call2 hl rfl
    have h : z.A σ A ((v, d) :: (u, .ty n) :: ts) H := h
    split at hg
    · rename_i m hm
      cases hk : kitB m n with
      | none => rw [hk] at hg; cases hg
      | some b =>
        rw [hk] at hg
        cases hg
        obtain ⟨G, L, gh, r, f⟩ := h.open (tyN_al hm)
        obtain ⟨G2, L2', gh2, r2, f2⟩ := h.drop.open (fun j z => by cases z)
        cases r2
        exact ⟨v, _, _, _, b, rfl, .ty n, .base (r.tyOf gh hm), kit_ty hk, q _ _ (f2.known gh2 (.bl _))⟩
    · cases hg
  · cases hg

/-! ### what a def does: by a plain function of told values -/
inductive Ro where
  | ok (d : D) | exc (c : Str) | stuck
/-- the promise: known arguments ds, the outcome F ds; what comes is new where it is not known -/
def spF (K : PySem.W.Frag) (cl : Str → Value) (n : Nat) (F : List D → Ro) : Sp := fun vs H Q E => ∃ G ds, Same G H ∧ ds.length = n ∧ Rs K G G vs ds [] ∧ match F ds with
  | .ok r => ∀ v H' G' L, Same H H' → Same G G' → Same G' H' → (∀ a, H a ≠ none → G a = none → G' a = none) → R K G' H' v r L → L.Nodup → (∀ a ∈ L, H a = none) → Q v H'
  | .exc c => ∀ H', Same H H' → E (cl c) none H'
  | .stuck => False
/-- all aliases and all that is owned frozen -/
def isScal : D → Bool
  | .non => true | .bl _ => true | .int _ => true | .str _ => true
  | _ => false
/-- .. but where the answer is a scalar, slots keep what they own -/
def fCall (F : List D → Ro) (fa : FA) : FE := fun A => (fa A).bind fun ds A1 => match closeL ds A1 with
  | some (es, A2) => match F (fzs es) with
    | .ok r => if isScal r = true then .ok r A1 else .ok r A2
    | .exc c => .exc c A1
    | .stuck => .stuck
  | none => .stuck
theorem R.scal {K : PySem.W.Frag} {G H : Hp} {v : V} {d : D} {L : List Addr} (r : R K G H v d L) (h : isScal d = true) : ∀ G' H', R K G' H' v d [] := by
  cases r <;> first | exact fun _ _ => .non | exact fun _ _ => .bl _ | exact fun _ _ => .int _ | exact fun _ _ => .str _ | (simp [isScal] at h)
theorem Rs.unown {K : PySem.W.Frag} {G H H' : Hp} {vs : List V} {ds : List D} (r : Rs K G H vs ds []) : Rs K G H' vs ds [] := r.free fun _ _ e => e
theorem fzs_length (ds : List D) : (fzs ds).length = ds.length := by rw [fzs_map, List.length_map]
/-- the arguments of a call, all frozen: what they are and how one goes on -/
theorem Abs.args {K : PySem.W.Frag} {B : Bs} {σ : L2.St} {A : Sl} {ts : Ts} {H : Hp} {vs : List V} {es : List D} (hl : vs.length = es.length) (hn : noAl es = true) (h : Abs K B σ A (vs.zip es ++ ts) H) :
    ∃ G, Same G H ∧ Rs K G H vs (fzs es) [] ∧ Fin K B σ A ts H G ∧ Abs K B σ A ts H := by
  obtain ⟨G, L1, L2, gd, tm, sl, nd, ow⟩ := h
  obtain ⟨La, Lb, rs, t, rfl⟩ := tm.split hl hn
  have oa : ∀ a ∈ La, G a = none ∧ H a ≠ none := rs.own
  have g1 : Same G (grab G H La) := grab_same fun a ha => (oa a ha).1
  have ap : ∀ a ∈ Lb ++ L2, a ∉ La := fun a ha hb => by
    rw [List.append_assoc] at nd
    exact (List.nodup_append.mp nd).2.2 a hb a ha rfl
  have gd' := gd.grab oa fun a ha => ow a (List.mem_append_left _ (List.mem_append_left _ ha))
  have t' : Tms K σ (grab G H La) H ts Lb := t.mono g1 fun a ha => ⟨rfl, grab_keep (ap a (List.mem_append_left _ ha)) (t.own a ha).1⟩
  have s' : Sls K (grab G H La) H σ A L2 := sl.mono g1 fun a ha => ⟨rfl, grab_keep (ap a (List.mem_append_right _ ha)) (sl.own a ha).1⟩
  have nd' : (Lb ++ L2).Nodup := by rw [List.append_assoc] at nd; exact (List.nodup_append.mp nd).2.1
  have ow' : ∀ a ∈ Lb ++ L2, Own B a := fun a ha => ow a (by rw [List.append_assoc]; exact List.mem_append_right _ ha)
  exact ⟨grab G H La, gd'.gh, Rs.fzs g1 rs fun a ha => grab_in ha, fun w e H' G' L' he g1 g2 g3 r rn rf => step_core gd' t' s' nd' ow' he g1 g2 g3 r rn rf, grab G H La, Lb, L2, gd', t', s', nd', ow'⟩
/-- the reading of a call, for a wish about exceptions W -/
theorem call_go {n : Nat} {F : List D → Ro} {fa : FA} (hlen : ∀ ds, F ds ≠ .stuck → ds.length = n) {σ : L2.St} {H : Hp} {Q : VK} (h : tE z (fCall F fa) σ H Q) : tCallS (spF z.K z.cl n F) (WE z.W) (tA z fa) σ H Q := by
  obtain ⟨A, ts, hA, hp⟩ := h
  refine ⟨A, ts, hA, ?_⟩
  unfold fCall at hp
  cases ea : fa A with
  | stuck => rw [ea] at hp; exact hp.elim
  | exc c A1 => rw [ea] at hp; exact hp
  | ok ds A1 =>
    rw [ea] at hp
    simp only [Ou.bind_ok] at hp
    intro vs H1 hl h1
    split at hp
    · rename_i es A2 ec
      obtain ⟨h2, l2, n2⟩ := h1.close hl ec
      obtain ⟨G, gh, rs, f, ab⟩ := h2.args l2 n2
      cases eF : F (fzs es) with
      | stuck => rw [eF] at hp; exact hp.elim
      | exc c =>
        rw [eF] at hp
        refine ⟨G, fzs es, gh, hlen _ (by rw [eF]; exact fun z => nomatch z), rs.unown, ?_⟩
        rw [eF]
        exact fun H' he => hp H' (h1.dropn.same he)
      | ok r =>
        rw [eF] at hp
        refine ⟨G, fzs es, gh, hlen _ (by rw [eF]; exact fun z => nomatch z), rs.unown, ?_⟩
        rw [eF]
        intro v H' G' L he g1 g2 g3 rr rn rf
        simp only at hp
        split at hp
        · rename_i hs
          exact hp v H' ((h1.dropn.same he).scal fun G2 => rr.scal hs G2 H')
        · exact hp v H' (f v r H' G' L he g1 g2 g3 rr rn rf)
    · exact hp.elim
theorem qe_call {k n : Nat} {f : Addr} {fd : FuncData} {ps : List Str} {F : List D → Ro} {fa : FA} {x : Str} {e : Expr} {es : List Expr} {p pos : Pos} (hlen : ∀ ds, F ds ≠ .stuck → ds.length = n) (hK : X.K = z.K) (tk : Takes X z.W)
    (Fk : FnOk X.prog X.w X.K X.mg X.base (L2.CX X.prog X.w) k f fd ps (spF X.K z.cl n F)) (hr : Room k X.A) (hg : Gl X x) (hm : X.mg x = some (.ref f)) (hk : PySem.W.keepIn X.K (.ref f) = true) (hb : L2.Binds X.K fd ps [])
    (ha : PA X (e :: es) (tA z fa)) (hdb : (x == ("__debug__" : Str)) = false := by decide) (he : starEach (e :: es) X.env = (false, eval e X.env) :: starEach es X.env := by rfl) (hpl : (backTo pos (starEach es X.env)).any (·.1) = false := by rfl) :
    PE X (.Call (.Name x p) (e :: es) [] pos) (tE z (fCall F fa)) :=
  PE.imp (pe_callS Fk hr hg hm hk hb (fun σ => passAt tk σ) ha hdb he hpl) fun σ H Q h => by rw [hK]; exact call_go hlen h
end
end Ab
end
section
namespace Ab
open PySem PySem.Spec PyProof.Rows L2

/-! ### tests -/
def fB (f : FE) : FT := fun A => (f A).bind fun d A1 => match d with
  | .bl b => .ok b A1
  | _ => .stuck
def fAnd (f g : FT) : FT := fun A => (f A).bind fun b A1 => if b = true then g A1 else .ok false A1
def fOr (f g : FT) : FT := fun A => (f A).bind fun b A1 => if b = true then .ok true A1 else g A1
def fNot (f : FT) : FT := fun A => (f A).bind fun b A1 => .ok (!b) A1
def fAndV (f g : FE) : FE := fun A => (f A).bind fun d A1 => match d with
  | .bl b => if b = true then g A1 else .ok (.bl false) A1
  | _ => .stuck
def fOrV (f g : FE) : FE := fun A => (f A).bind fun d A1 => match d with
  | .bl b => if b = true then .ok (.bl true) A1 else g A1
  | _ => .stuck
def fNotV (f : FE) : FE := fun A => (f A).bind fun d A1 => match d with
  | .bl b => .ok (.bl (!b)) A1
  | _ => .stuck
section
variable {z : Z} {X : Cx} {a b : Expr} {rest : List Expr} {pos : Pos} {fa fb : FE} {ga gb : FT}
theorem b_go {σ : L2.St} {H : Hp} {Q : Bool → Hp → Prop} (h : tT z (fB fa) σ H Q) : tB (tE z fa) σ H Q := by
  obtain ⟨A, ts, hA, hp⟩ := h
  refine ⟨A, ts, hA, ?_⟩
  unfold fB at hp
  cases ea : fa A with
  | stuck => rw [ea] at hp; exact hp.elim
  | exc c A1 => rw [ea] at hp; exact hp
  | ok d A1 =>
    rw [ea] at hp
    simp only [Ou.bind_ok] at hp
    intro v H1 h1
    cases d <;> first | exact hp.elim | exact ⟨_, h1.bl, hp _ h1.drop⟩
theorem qt_val (h : PE X a (tE z fa)) (he : ∀ whole, isTrue a X.env whole = (do let v ← whole; standAt a.pos; holding [v] (truthy v)) := by intro _; rfl) : PT X a (tT z (fB fa)) := PT.imp (pt_val h he) fun _ _ _ h => b_go h
/-- a comparison as a test -/
theorem qt_cmp {op : CmpOp} {r : R2} {g : D → D → Sl → Option D} (ho : OpR X (compareOp op) r) (hd : OpD z r g) (ha : PE X a (tE z fa)) (hb : PE X b (tE z fb)) (hm : behindInMarks op b = false) : PT X (.Compare a [op] [b] pos) (tT z (fB (fBin g fa fb))) := by
  refine PT.imp (pt_cmpR ho ha hb hm) fun σ H Q h => ?_
  have h2 := b_go h
  exact bin_go (Q := fun x H' => ∃ k, x = .bl k ∧ Q k H') hd (show tE z (fBin g fa fb) σ H fun x H' => ∃ k, x = .bl k ∧ Q k H' from h2)
theorem qt_not (h : PT X a (tT z ga)) : PT X (.UnaryOp .Not a pos) (tT z (fNot ga)) := PT.imp (pt_not h) fun σ H Q ⟨A, ts, hA, hp⟩ => ⟨A, ts, hA, by
  unfold fNot at hp
  cases ea : ga A with
  | stuck => rw [ea] at hp; exact hp.elim
  | exc c A1 => rw [ea] at hp; exact hp
  | ok d A1 => rw [ea] at hp; exact hp⟩
theorem and_go {σ : L2.St} {H : Hp} {Q : Bool → Hp → Prop} (h : tT z (fAnd ga gb) σ H Q) : tAnd (tT z ga) (tT z gb) σ H Q := by
  obtain ⟨A, ts, hA, hp⟩ := h
  refine ⟨A, ts, hA, ?_⟩
  unfold fAnd at hp
  cases ea : ga A with
  | stuck => rw [ea] at hp; exact hp.elim
  | exc c A1 => rw [ea] at hp; exact hp
  | ok d A1 =>
    rw [ea] at hp
    intro H1 h1
    cases d with
    | true => exact ⟨A1, ts, h1, hp⟩
    | false => exact hp _ h1
theorem or_go {σ : L2.St} {H : Hp} {Q : Bool → Hp → Prop} (h : tT z (fOr ga gb) σ H Q) : tOr (tT z ga) (tT z gb) σ H Q := by
  obtain ⟨A, ts, hA, hp⟩ := h
  refine ⟨A, ts, hA, ?_⟩
  unfold fOr at hp
  cases ea : ga A with
  | stuck => rw [ea] at hp; exact hp.elim
  | exc c A1 => rw [ea] at hp; exact hp
  | ok d A1 =>
    rw [ea] at hp
    intro H1 h1
    cases d with
    | true => exact hp _ h1
    | false => exact ⟨A1, ts, h1, hp⟩
theorem PW.imp {e : Expr} {t t' : TT} (h : PW X e t) (hi : ∀ σ H Q, t' σ H Q → t σ H Q) : PW X e t' := ⟨fun wh pins s σ H Q I w => h.run wh pins s σ H Q I (hi σ H Q w)⟩
theorem qw_and1 (h : PT X a (tT z ga)) : PW X (.BoolOp .And [a] pos) (tT z ga) := pw_and1 h
theorem qw_or1 (h : PT X a (tT z ga)) : PW X (.BoolOp .Or [a] pos) (tT z ga) := pw_or1 h
theorem qw_and (h : PT X a (tT z ga)) (hb : PW X (.BoolOp .And (b :: rest) pos) (tT z gb)) : PW X (.BoolOp .And (a :: b :: rest) pos) (tT z (fAnd ga gb)) := PW.imp (pw_and h hb) fun _ _ _ h => and_go h
theorem qw_or (h : PT X a (tT z ga)) (hb : PW X (.BoolOp .Or (b :: rest) pos) (tT z gb)) : PW X (.BoolOp .Or (a :: b :: rest) pos) (tT z (fOr ga gb)) := PW.imp (pw_or h hb) fun _ _ _ h => or_go h
theorem qe_one {op} (h : PE X a (tE z fa)) : PE X (.BoolOp op [a] pos) (tE z fa) := pe_one h
theorem qe_and (h : PE X a (tE z fa)) (hb : PE X (.BoolOp .And (b :: rest) pos) (tE z fb)) : PE X (.BoolOp .And (a :: b :: rest) pos) (tE z (fAndV fa fb)) := PE.imp (pe_and h hb) fun σ H Q ⟨A, ts, hA, hp⟩ => ⟨A, ts, hA, by
  unfold fAndV at hp
  cases ea : fa A with
  | stuck => rw [ea] at hp; exact hp.elim
  | exc c A1 => rw [ea] at hp; exact hp
  | ok d A1 =>
    rw [ea] at hp
    simp only [Ou.bind_ok] at hp
    intro v H1 h1
    cases d <;> try exact hp.elim
    rename_i b
    refine ⟨b, h1.bl, ?_⟩
    cases b with
    | true => exact ⟨A1, ts, h1.drop, hp⟩
    | false => exact hp _ _ (h1.drop.pbl _)⟩
theorem qe_or (h : PE X a (tE z fa)) (hb : PE X (.BoolOp .Or (b :: rest) pos) (tE z fb)) : PE X (.BoolOp .Or (a :: b :: rest) pos) (tE z (fOrV fa fb)) := PE.imp (pe_or h hb) fun σ H Q ⟨A, ts, hA, hp⟩ => ⟨A, ts, hA, by
  unfold fOrV at hp
  cases ea : fa A with
  | stuck => rw [ea] at hp; exact hp.elim
  | exc c A1 => rw [ea] at hp; exact hp
  | ok d A1 =>
    rw [ea] at hp
    simp only [Ou.bind_ok] at hp
    intro v H1 h1
    cases d <;> try exact hp.elim
    rename_i b
    refine ⟨b, h1.bl, ?_⟩
    cases b with
    | true => exact hp _ _ (h1.drop.pbl _)
    | false => exact ⟨A1, ts, h1.drop, hp⟩⟩
theorem qe_not (h : PE X a (tE z fa)) : PE X (.UnaryOp .Not a pos) (tE z (fNotV fa)) := PE.imp (pe_not h) fun σ H Q ⟨A, ts, hA, hp⟩ => ⟨A, ts, hA, by
  unfold fNotV at hp
  cases ea : fa A with
  | stuck => rw [ea] at hp; exact hp.elim
  | exc c A1 => rw [ea] at hp; exact hp
  | ok d A1 =>
    rw [ea] at hp
    simp only [Ou.bind_ok] at hp
    intro v H1 h1
    cases d <;> try exact hp.elim
    exact ⟨_, h1.bl, hp _ _ (h1.drop.pbl _)⟩⟩
end

/-! ### statements -/
def pS (z : Z) (o : Ou Fl) (D : Ends) (ts : Ts) : Prop := match o with
  | .ok .next A' => ∀ σ' H', z.A σ' A' ts H' → D.nx σ' H'
  | .ok .brk A' => ∀ σ' H', z.A σ' A' ts H' → D.bk σ' H'
  | .ok .cont A' => ∀ σ' H', z.A σ' A' ts H' → D.ct σ' H'
  | .ok (.ret d) A' => ∀ v σ' H', z.A σ' A' ((v, d) :: ts) H' → D.rt v H'
  | .exc c A' => ∀ σ' H', z.A σ' A' ts H' → z.W (z.cl c) none σ' H'
  | .stuck => False
def tS (z : Z) (f : FS) : TS := fun D σ H => ∃ A ts, z.A σ A ts H ∧ Cl ts ∧ pS z (f A) D ts
def fSeq (f g : FS) : FS := fun A => (f A).bind fun r A1 => match r with
  | .next => g A1
  | r => .ok r A1
def fNext : FS := fun A => .ok .next A
def fBrk : FS := fun A => .ok .brk A
def fCont : FS := fun A => .ok .cont A
def fIf (c : FT) (f g : FS) : FS := fun A => (c A).bind fun b A1 => if b = true then f A1 else g A1
def fDrop (f : FE) : FS := fun A => (f A).bind fun _ A1 => .ok .next A1
/-- a value for a slot: an alias is frozen -/
def closeD (d : D) (A : Sl) : Option (D × Sl) := match d with
  | .al i => match A[i]? with
    | some (some t) => some (fz t, A.set i (some (fz t)))
    | _ => none
  | d => some (d, A)
def fAsg (i : Nat) (f : FE) : FS := fun A => (f A).bind fun d A1 => match closeD d A1 with
  | some (e, A2) => .ok .next (A2.set i (some e))
  | none => .stuck
/-- .. and what comes new is frozen at once -/
def fAsgF (i : Nat) (f : FE) : FS := fun A => (f A).bind fun d A1 => match closeD d A1 with
  | some (e, A2) => .ok .next (A2.set i (some (fz e)))
  | none => .stuck
/-- x = y, y's own handed over -/
def fAsgM (i : Nat) (f : FE) : FS := fun A => (f A).bind fun d A1 => match d with
  | .al j => match A1[j]? with
    | some (some t) => .ok .next ((A1.set j none).set i (some t))
    | _ => .stuck
  | d => .ok .next (A1.set i (some d))
def fRet (f : FE) : FS := fun A => (f A).bind fun d A1 => match d with
  | .al i => match A1[i]? with
    | some (some t) => .ok (.ret t) (A1.set i none)
    | _ => .stuck
  | d => .ok (.ret d) A1
def fRetN : FS := fun A => .ok (.ret .non) A
section
variable {z : Z} {X : Cx} {st : Stmt} {rest : List Stmt} {e : Expr} {pos : Pos} {f g : FS} {fe : FE} {ft : FT}
theorem pS_stuck {D : Ends} {ts : Ts} (h : pS z .stuck D ts) : False := h
theorem qs_nil : PSs X [] (tS z fNext) := PSs.imp pss_nil fun D σ H ⟨A, ts, hA, c, hp⟩ => hp _ _ hA
theorem qs_cons (h1 : PS X st (tS z f)) (h2 : PSs X rest (tS z g)) : PSs X (st :: rest) (tS z (fSeq f g)) := by
  refine PSs.imp (pss_cons h1 h2) fun D σ H ⟨A, ts, hA, c, hp⟩ => ⟨A, ts, hA, c, ?_⟩
  unfold fSeq at hp
  cases ea : f A with
  | stuck => rw [ea] at hp; exact (pS_stuck hp).elim
  | exc c A1 => rw [ea] at hp; exact hp
  | ok r A1 =>
    rw [ea] at hp
    simp only [Ou.bind_ok] at hp
    cases r with
    | next => exact fun σ' H' h' => ⟨A1, ts, h', c, hp⟩
    | brk => exact hp
    | cont => exact hp
    | ret d => exact hp
theorem qs_one (h1 : PS X st (tS z f)) : PSs X [st] (tS z f) := pss_one h1
theorem qs_pass : PS X (.Pass pos) (tS z fNext) := PS.imp ps_pass fun D σ H ⟨A, ts, hA, c, hp⟩ => hp _ _ hA
theorem qs_brk : PS X (.Break pos) (tS z fBrk) := PS.imp ps_break fun D σ H ⟨A, ts, hA, c, hp⟩ => hp _ _ hA
theorem qs_cont : PS X (.Continue pos) (tS z fCont) := PS.imp ps_continue fun D σ H ⟨A, ts, hA, c, hp⟩ => hp _ _ hA
theorem qs_doc {x j pos pos'} : PS X (.Expr (.Constant (.str x) j pos) pos') (tS z fNext) := PS.imp ps_doc fun D σ H ⟨A, ts, hA, c, hp⟩ => hp _ _ hA
theorem qs_if {c : Expr} {a b : List Stmt} (hc : PT X c (tT z ft)) (ha : PSs X a (tS z f)) (hb : PSs X b (tS z g)) : PS X (.If c a b pos) (tS z (fIf ft f g)) := by
  refine PS.imp (ps_if hc ha hb) fun D σ H ⟨A, ts, hA, cl, hp⟩ => ⟨A, ts, hA, ?_⟩
  unfold fIf at hp
  cases ea : ft A with
  | stuck => rw [ea] at hp; exact (pS_stuck hp).elim
  | exc c A1 => rw [ea] at hp; exact fun H' h' => hp σ H' h'
  | ok b A1 =>
    rw [ea] at hp
    simp only [Ou.bind_ok] at hp
    intro H1 h1
    cases b with
    | true => exact ⟨A1, ts, h1, cl, hp⟩
    | false => exact ⟨A1, ts, h1, cl, hp⟩
theorem qs_expr (he : PE X e (tE z fe)) (hs : swapsWith e none pos.line X.env = pure false := by rfl) : PS X (.Expr e pos) (tS z (fDrop fe)) := by
  refine PS.imp (ps_expr he hs) fun D σ H ⟨A, ts, hA, c, hp⟩ => ⟨A, ts, hA, ?_⟩
  unfold fDrop at hp
  cases ea : fe A with
  | stuck => rw [ea] at hp; exact (pS_stuck hp).elim
  | exc c A1 => rw [ea] at hp; exact fun H' h' => hp σ H' h'
  | ok d A1 => rw [ea] at hp; exact fun v H' h' => hp σ H' h'.drop
theorem Abs.closeD {K : PySem.W.Frag} {B : Bs} {σ : L2.St} {A A' : Sl} {ts : Ts} {H : Hp} {v : V} {d d' : D} (h : Abs K B σ A ((v, d) :: ts) H) (hc : Ab.closeD d A = some (d', A')) : Abs K B σ A' ((v, d') :: ts) H ∧ ∀ i, d' ≠ .al i := by
  unfold Ab.closeD at hc
  split at hc
  · split at hc
    · rename_i et
      cases hc
      exact ⟨h.frz et, fz_al _ (h.slot_al et)⟩
    · cases hc
  · rename_i hna
    cases hc
    exact ⟨h, fun i q => hna i q⟩
theorem asg_go {i : Nat} {D : Ends} {σ : L2.St} {H : Hp} (h : tS z (fAsg i fe) D σ H) : tAsg (tE z fe) (gName i) D σ H := by
  obtain ⟨A, ts, hA, c, hp⟩ := h
  refine ⟨A, ts, hA, ?_⟩
  unfold fAsg at hp
  cases ea : fe A with
  | stuck => rw [ea] at hp; exact (pS_stuck hp).elim
  | exc c A1 => rw [ea] at hp; exact fun H' h' => hp σ H' h'
  | ok d A1 =>
    rw [ea] at hp
    simp only [Ou.bind_ok] at hp
    intro v H1 h1
    split at hp
    · rename_i e A2 ec
      obtain ⟨h2, n2⟩ := h1.closeD ec
      exact hp _ _ (h2.set n2 c)
    · exact (pS_stuck hp).elim
theorem asgF_go {i : Nat} {D : Ends} {σ : L2.St} {H : Hp} (h : tS z (fAsgF i fe) D σ H) : tAsg (tE z fe) (gName i) D σ H := by
  obtain ⟨A, ts, hA, c, hp⟩ := h
  refine ⟨A, ts, hA, ?_⟩
  unfold fAsgF at hp
  cases ea : fe A with
  | stuck => rw [ea] at hp; exact (pS_stuck hp).elim
  | exc c A1 => rw [ea] at hp; exact fun H' h' => hp σ H' h'
  | ok d A1 =>
    rw [ea] at hp
    simp only [Ou.bind_ok] at hp
    intro v H1 h1
    split at hp
    · rename_i e A2 ec
      obtain ⟨h2, n2⟩ := h1.closeD ec
      exact hp _ _ ((h2.fz n2).set (fz_al _ n2) c)
    · exact (pS_stuck hp).elim
theorem asgM_go {i : Nat} {D : Ends} {σ : L2.St} {H : Hp} (h : tS z (fAsgM i fe) D σ H) : tAsg (tE z fe) (gName i) D σ H := by
  obtain ⟨A, ts, hA, c, hp⟩ := h
  refine ⟨A, ts, hA, ?_⟩
  unfold fAsgM at hp
  cases ea : fe A with
  | stuck => rw [ea] at hp; exact (pS_stuck hp).elim
  | exc c A1 => rw [ea] at hp; exact fun H' h' => hp σ H' h'
  | ok d A1 =>
    rw [ea] at hp
    simp only [Ou.bind_ok] at hp
    intro v H1 h1
    split at hp
    · split at hp
      · rename_i et
        exact hp _ _ ((h1.move et).set (h1.slot_al et) c)
      · exact (pS_stuck hp).elim
    · rename_i hna
      exact hp _ _ (h1.set (fun j q => hna j q) c)
theorem qs_setM {i : Nat} {x : Str} {pos' : Pos} (hN : X.N.Nodup) (hi : X.N[i]? = some x) (hx : Loc X.env.scope x) (he : PE X e (tE z fe)) (hs : swapsWith e (some (.Name x pos')) pos.line X.env = pure false := by rfl) (hf : X.fn x = true ∨ X.env.scope.names.lookup x = some .local := by first | exact .inl rfl | exact .inr rfl | assumption) :
    PS X (.Assign [.Name x pos'] e pos) (tS z (fAsgM i fe)) := PS.imp (ps_set hN hi hx he hs hf) fun _ _ _ h => asgM_go h
theorem qs_set {i : Nat} {x : Str} {pos' : Pos} (hN : X.N.Nodup) (hi : X.N[i]? = some x) (hx : Loc X.env.scope x) (he : PE X e (tE z fe)) (hs : swapsWith e (some (.Name x pos')) pos.line X.env = pure false := by rfl) (hf : X.fn x = true ∨ X.env.scope.names.lookup x = some .local := by first | exact .inl rfl | exact .inr rfl | assumption) :
    PS X (.Assign [.Name x pos'] e pos) (tS z (fAsg i fe)) := PS.imp (ps_set hN hi hx he hs hf) fun _ _ _ h => asg_go h
theorem qs_setF {i : Nat} {x : Str} {pos' : Pos} (hN : X.N.Nodup) (hi : X.N[i]? = some x) (hx : Loc X.env.scope x) (he : PE X e (tE z fe)) (hs : swapsWith e (some (.Name x pos')) pos.line X.env = pure false := by rfl) (hf : X.fn x = true ∨ X.env.scope.names.lookup x = some .local := by first | exact .inl rfl | exact .inr rfl | assumption) :
    PS X (.Assign [.Name x pos'] e pos) (tS z (fAsgF i fe)) := PS.imp (ps_set hN hi hx he hs hf) fun _ _ _ h => asgF_go h
theorem qs_ret (he : PE X e (tE z fe)) : PS X (.Return (some e) pos) (tS z (fRet fe)) := by
  refine PS.imp (ps_ret he) fun D σ H ⟨A, ts, hA, c, hp⟩ => ⟨A, ts, hA, ?_⟩
  unfold fRet at hp
  cases ea : fe A with
  | stuck => rw [ea] at hp; exact (pS_stuck hp).elim
  | exc c A1 => rw [ea] at hp; exact fun H' h' => hp σ H' h'
  | ok d A1 =>
    rw [ea] at hp
    simp only [Ou.bind_ok] at hp
    intro v H1 h1
    split at hp
    · split at hp
      · rename_i et
        exact hp _ _ _ (h1.move et)
      · exact (pS_stuck hp).elim
    · exact hp _ _ _ h1
theorem qs_retN : PS X (.Return none pos) (tS z fRetN) := PS.imp ps_retN fun D σ H ⟨A, ts, hA, c, hp⟩ => hp _ _ _ hA.pnon
end

/-! ### targets -/
inductive Tg where
  | nm (i : Nat) | tu (is : List Nat)
def gNames : List Nat → TGs
  | [] => gNil
  | i :: r => gCons (gName i) (gNames r)
def Tg.read (K : PySem.W.Frag) : Tg → TG
  | .nm i => gName i
  | .tu is => gTup K is.length (gNames is)
def Tg.own : Tg → List Nat
  | .nm i => [i]
  | .tu is => is
def setAll : List Nat → List D → Sl → Option Sl
  | [], [], A => some A
  | i :: is, d :: ds, A => setAll is ds (A.set i (some d))
  | _, _, _ => none
def Tg.set : Tg → D → Sl → Option Sl
  | .nm i, d, A => match d with
    | .al _ => none
    | d => some (A.set i (some d))
  | .tu is, .tup ds, A => if isFs ds = true then setAll is ds A else none
  | .tu _, _, _ => none
/-- what a target stores: the slots outside stay -/
def SameOff (own : List Nat) (σ σ' : L2.St) : Prop := σ'.length = σ.length ∧ ∀ i, i ∉ own → σ'[i]? = σ[i]?
theorem SameOff.refl {own : List Nat} {σ : L2.St} : SameOff own σ σ := ⟨rfl, fun _ _ => rfl⟩
theorem SameOff.set {own : List Nat} {σ σ' : L2.St} {i : Nat} {o : Option V} (h : SameOff own σ σ') (hi : i ∈ own) : SameOff own σ (σ'.set i o) :=
  ⟨by simp [h.1], fun j hj => by
    have ne : i ≠ j := fun e => hj (by rw [← e]; exact hi)
    rw [List.getElem?_set_ne ne]; exact h.2 j hj⟩
section
variable {z : Z} {X : Cx}
theorem names_go : ∀ {is : List Nat} {ds : List D} {vs : List V} {A A' : Sl} {ts : Ts} {H : Hp} {σ : L2.St} {Q : L2.St → Hp → Prop}, vs.length = ds.length → isFs ds = true → z.A σ A (vs.zip ds ++ ts) H → Cl ts → setAll is ds A = some A' →
    (∀ σ', z.A σ' A' ts H → SameOff is σ σ' → Q σ' H) → gNames is vs σ H Q
  | [], [], vs, A, A', ts, H, σ, Q, hl, hf, h, c, hs, q => by
    have e : vs = [] := by simpa using hl
    subst e
    simp only [setAll] at hs
    cases hs
    exact ⟨rfl, q σ h .refl⟩
  | i :: is, d :: ds, v :: vs, A, A', ts, H, σ, Q, hl, hf, h, c, hs, q => by
    simp only [setAll] at hs
    rw [isFs, Bool.and_eq_true] at hf
    have nd : ∀ j, d ≠ .al j := fun j e => by rw [e] at hf; simp [isF] at hf
    refine ⟨v, vs, rfl, ?_⟩
    have cl : Cl (vs.zip ds ++ ts) := fun p hp => by
      rcases List.mem_append.mp hp with m | m
      · intro j e
        have := List.of_mem_zip m
        have fs := isFs_noAl hf.2
        unfold noAl at fs
        have := List.all_eq_true.mp fs _ this.2
        rw [e] at this
        exact nomatch this
      · exact c p m
    have h1 := Abs.set (i := i) (d := d) (v := v) (ts := vs.zip ds ++ ts) h nd cl
    refine names_go (by simpa using hl) hf.2 h1 c hs fun σ' h' so => q σ' h' ?_
    refine ⟨so.1.trans (by simp), fun j hj => ?_⟩
    rw [so.2 j (fun m => hj (List.mem_cons_of_mem _ m)), List.getElem?_set_ne (fun e : i = j => hj (by rw [← e]; exact List.mem_cons_self))]
  | _ :: _, [], _, _, _, _, _, _, _, _, _, _, _, hs, _ => by simp [setAll] at hs
  | [], _ :: _, _, _, _, _, _, _, _, _, _, _, _, hs, _ => by simp [setAll] at hs
  | _ :: _, _ :: _, [], _, _, _, _, _, _, hl, _, _, _, _, _ => by simp at hl
theorem tg_go {t : Tg} {d : D} {v : V} {A A' : Sl} {ts : Ts} {H : Hp} {σ : L2.St} {Q : L2.St → Hp → Prop} (h : z.A σ A ((v, d) :: ts) H) (c : Cl ts) (hs : t.set d A = some A') (q : ∀ σ', z.A σ' A' ts H → SameOff t.own σ σ' → Q σ' H) : t.read z.K v σ H Q := by
  cases t with
  | nm i =>
    have nd : ∀ j, d ≠ .al j := fun j e => by rw [e] at hs; simp [Tg.set] at hs
    have e : A' = A.set i (some d) := by
      unfold Tg.set at hs
      cases d <;> first | exact (Option.some.inj hs).symm | exact nomatch hs
    subst e
    exact q _ (h.set nd c) (SameOff.refl.set (by simp [Tg.own]))
  | tu is =>
    cases d <;> simp only [Tg.set] at hs <;> try cases hs
    rename_i ds
    split at hs
    · rename_i hf
      obtain ⟨G, L1, L2, gd, tm, sl, nd, ow⟩ := id h
      cases tm with
      | cons r t =>
        rename_i La Lb
        cases r with
        | tup q1 s1 =>
          rename_i a xs
          have e1 := s1.isFs hf
          subst e1
          have hlen : ∀ {is : List Nat} {ds : List D} {A A' : Sl}, setAll is ds A = some A' → is.length = ds.length := by
            intro is
            induction is with
            | nil => intro ds A A' h; cases ds <;> simp_all [setAll]
            | cons i is ih => intro ds A A' h; cases ds with
              | nil => simp [setAll] at h
              | cons d ds => simp only [setAll] at h; simp [ih h]
          refine ⟨_, xs, rfl, .inl (.inl (gd.gh _ _ q1)), by rw [s1.length]; exact (hlen hs).symm, ?_⟩
          have h2 : z.A σ A (xs.zip ds ++ ts) H := by
            have join : ∀ {vs : List V} {ds : List D}, isFs ds = true → Rs z.K G H vs ds [] → Tms z.K σ G H ts Lb → Tms z.K σ G H (vs.zip ds ++ ts) Lb := by
              intro vs
              induction vs with
              | nil => intro ds _ r t; simpa using t
              | cons v vs ih =>
                intro ds hf r t
                generalize hL : ([] : List Addr) = L0 at r
                cases r with
                | cons r rs =>
                  obtain ⟨e1, e2⟩ := List.append_eq_nil_iff.mp hL.symm
                  subst e1; subst e2
                  rw [isFs, Bool.and_eq_true] at hf
                  have := Tms.cons r (ih hf.2 rs t)
                  simpa using this
            exact ⟨G, Lb, L2, gd, join hf s1 t, sl, by simpa using nd, fun a ha => ow a (by simpa using ha)⟩
          exact names_go s1.length hf h2 c hs q
    · cases hs
theorem qg_name {i : Nat} {x : Str} {pos : Pos} (hN : X.N.Nodup) (hi : X.N[i]? = some x) (hx : Loc X.env.scope x) (hf : X.fn x = true ∨ X.env.scope.names.lookup x = some .local := by first | exact .inl rfl | exact .inr rfl | assumption) : PG X (.Name x pos) ((Tg.nm i).read X.K) := pg_name hN hi hx hf
theorem qgs_nil : PGs X [] (gNames []) := pgs_nil
theorem qgs_cons {i : Nat} {is : List Nat} {x : Str} {pos : Pos} {es : List Expr} (hN : X.N.Nodup) (hi : X.N[i]? = some x) (hx : Loc X.env.scope x) (h2 : PGs X es (gNames is)) (hf : X.fn x = true ∨ X.env.scope.names.lookup x = some .local := by first | exact .inl rfl | exact .inr rfl | assumption)
    (hs : (assignEach (.Name x pos :: es) X.env).map (·.2) = assign (.Name x pos) X.env :: (assignEach es X.env).map (·.2) := by rfl) : PGs X (.Name x pos :: es) (gNames (i :: is)) := pgs_cons (pg_name hN hi hx hf) h2 hs
theorem qg_tup {es : List Expr} {k : Nat} {pos : Pos} {is : List Nat} (hc : X.calm = true) (h : PGs X es (gNames is)) (hn : (assignEach es X.env).length = is.length := by rfl) (hst : (assignEach es X.env).findIdx? (·.1) = none := by rfl) : PG X (.Tuple es k pos) ((Tg.tu is).read X.K) := pg_tup hc h hn hst
/-- a, b = e -/
def fAsgT (t : Tg) (f : FE) : FS := fun A => (f A).bind fun d A1 => match closeD d A1 with
  | some (e, A2) => match t.set (fz e) A2 with
    | some A3 => .ok .next A3
    | none => .stuck
  | none => .stuck
theorem qs_asgT {tg e : Expr} {t : Tg} {fe : FE} {pos : Pos} (hK : X.K = z.K) (he : PE X e (tE z fe)) (hg : PG X tg (t.read X.K)) (hs : swapsWithSole [tg] e pos.line X.env = pure false := by rfl) (hw : swappedStores [tg] e X.env = pure none := by rfl)
    (h1 : (assignEach [tg] X.env).map (·.2) = [assign tg X.env] := by rfl) : PS X (.Assign [tg] e pos) (tS z (fAsgT t fe)) := by
  refine PS.imp (ps_asg he hg hs hw h1) fun D σ H ⟨A, ts, hA, c, hp⟩ => ⟨A, ts, hA, ?_⟩
  unfold fAsgT at hp
  cases ea : fe A with
  | stuck => rw [ea] at hp; exact (pS_stuck hp).elim
  | exc c A1 => rw [ea] at hp; exact fun H' h' => hp σ H' h'
  | ok d A1 =>
    rw [ea] at hp
    simp only [Ou.bind_ok] at hp
    intro v H1 h1
    split at hp
    · rename_i e A2 ec
      obtain ⟨h2, n2⟩ := h1.closeD ec
      split at hp
      · rename_i A3 es
        rw [hK]
        exact tg_go (h2.fz n2) c es fun σ' h' _ => hp _ _ h'
      · exact (pS_stuck hp).elim
    · exact (pS_stuck hp).elim
end
end Ab
end
section
namespace Ab
open PySem PySem.Spec PyProof.Rows L2

/-! ### what is walked -/
structure ItD (z : Z) (J : It) (tmp : Ts) (ds : List D) : Prop where
  go : ∀ (σ : L2.St) (A : Sl) (ts : Ts) (H : Hp) (i : Nat), z.A σ A (tmp ++ ts) H → i < ds.length → J.go i H
  yld : ∀ (σ : L2.St) (A : Sl) (ts : Ts) (H : Hp) (i : Nat) (x : V) (H' : Hp) (d : D), z.A σ A (tmp ++ ts) H → ds[i]? = some d → J.yld i H x H' → z.A σ A ((x, d) :: (tmp ++ ts)) H'
  stop : ∀ (σ : L2.St) (A : Sl) (ts : Ts) (H : Hp) (i : Nat), z.A σ A (tmp ++ ts) H → ds.length ≤ i → J.stop i H
abbrev FI := Sl → Ou (List D)
def pI (z : Z) (o : Ou (List D)) (σ : L2.St) (ts : Ts) (R : It → Hp → Prop) : Prop := match o with
  | .ok ds A' => ∀ J tmp H', Cl tmp → ItD z J tmp ds → z.A σ A' (tmp ++ ts) H' → R J H'
  | .exc c A' => ∀ H', z.A σ A' ts H' → z.W (z.cl c) none σ H'
  | .stuck => False
def tI (z : Z) (f : FI) : TI := fun σ H R => ∃ A ts, z.A σ A ts H ∧ pI z (f A) σ ts R
def iterOf : D → Option (List D)
  | .lst ds => some ds | .fro ds => some ds
  | .tup ds => if isFs ds = true then some ds else none
  | .str x => some (x.cps.toList.map fun c => .str ⟨#[c]⟩)
  | _ => none
/-- the items of a value: it is frozen -/
def fIt (fe : FE) : FI := fun A => (fe A).bind fun d A1 => match closeD d A1 with
  | some (e, A2) => match iterOf (fz e) with
    | some ds => .ok ds A2
    | none => .stuck
  | none => .stuck
section
variable {z : Z} {X : Cx}
theorem itd_list {a : Addr} {d : D} {ds : List D} (hd : d = .lst ds ∨ d = .fro ds) : ItD z (Itl z.K a) [(.ref a, d)] ds := by
  have key : ∀ (σ : L2.St) (A : Sl) (ts : Ts) (H : Hp), z.A σ A ([(.ref a, d)] ++ ts) H → ∃ G xs, Same G H ∧ SqL z.K H a xs ∧ Rs z.K G H xs ds [] ∧ Fin z.K z.B σ A ([(.ref a, d)] ++ ts) H G := by
    intro σ A ts H h
    obtain ⟨G, L1, L2, gd, tm, sl, nd, ow⟩ := id h
    refine ⟨G, ?_⟩
    have f : Fin z.K z.B σ A ([(.ref a, d)] ++ ts) H G := fun w e H' G' L' he g1 g2 g3 r rn rf => step_core gd tm sl nd ow he g1 g2 g3 r rn rf
    cases tm with
    | cons r t =>
      rcases hd with rfl | rfl
      · cases r with | lst q rs => exact ⟨_, gd.gh, .inl (.inl (gd.gh _ _ q)), rs, f⟩
      · cases r with | fro q rs => exact ⟨_, gd.gh, sq_l gd.gh q, rs, f⟩
    | al e t => rcases hd with q | q <;> cases q
  refine ⟨fun σ A ts H i h hi => ?_, fun σ A ts H i x H' e h he hy => ?_, fun σ A ts H i h hi => ?_⟩
  · obtain ⟨G, xs, gh, sq, rs, f⟩ := key σ A ts H h
    have hl : i < xs.length := by rw [rs.length]; exact hi
    exact ⟨xs, xs[i], sq, List.getElem?_eq_getElem hl⟩
  · obtain ⟨G, xs, gh, sq, rs, f⟩ := key σ A ts H h
    obtain ⟨rfl, hx⟩ := hy
    exact f.known gh (rs.nil_get (hx xs sq) he)
  · obtain ⟨G, xs, gh, sq, rs, f⟩ := key σ A ts H h
    exact ⟨xs, sq, by rw [rs.length]; exact hi⟩
theorem itd_tup {a : Addr} {ds : List D} (hf : isFs ds = true) : ItD z (Itt z.K a) [(.ref a, .tup ds)] ds := by
  have key : ∀ (σ : L2.St) (A : Sl) (ts : Ts) (H : Hp), z.A σ A ([(.ref a, .tup ds)] ++ ts) H → ∃ G xs, Same G H ∧ SqT z.K H a xs ∧ Rs z.K G H xs ds [] ∧ Fin z.K z.B σ A ([(.ref a, .tup ds)] ++ ts) H G := by
    intro σ A ts H h
    obtain ⟨G, L1, L2, gd, tm, sl, nd, ow⟩ := id h
    refine ⟨G, ?_⟩
    have f : Fin z.K z.B σ A ([(.ref a, .tup ds)] ++ ts) H G := fun w e H' G' L' he g1 g2 g3 r rn rf => step_core gd tm sl nd ow he g1 g2 g3 r rn rf
    cases tm with
    | cons r t =>
      cases r with
      | tup q rs =>
        have e1 := rs.isFs hf
        subst e1
        exact ⟨_, gd.gh, .inl (.inl (gd.gh _ _ q)), rs, f⟩
  refine ⟨fun σ A ts H i h hi => ?_, fun σ A ts H i x H' e h he hy => ?_, fun σ A ts H i h hi => ?_⟩
  · obtain ⟨G, xs, gh, sq, rs, f⟩ := key σ A ts H h
    have hl : i < xs.length := by rw [rs.length]; exact hi
    exact ⟨xs, xs[i], sq, List.getElem?_eq_getElem hl⟩
  · obtain ⟨G, xs, gh, sq, rs, f⟩ := key σ A ts H h
    obtain ⟨rfl, hx⟩ := hy
    exact f.known gh (rs.nil_get (hx xs sq) he)
  · obtain ⟨G, xs, gh, sq, rs, f⟩ := key σ A ts H h
    exact ⟨xs, sq, by rw [rs.length]; exact hi⟩
theorem itd_str {x : Str} : ItD z (Its x) [] (x.cps.toList.map fun c => .str ⟨#[c]⟩) := by
  refine ⟨fun σ A ts H i h hi => ?_, fun σ A ts H i v H' e h he hy => ?_, fun σ A ts H i h hi => ?_⟩
  · show i < x.cps.size
    simpa using hi
  · obtain ⟨rfl, c, hc, rfl⟩ := hy
    have e2 : e = .str ⟨#[c]⟩ := by
      rw [List.getElem?_map, Array.getElem?_toList, hc] at he
      exact (Option.some.inj he).symm
    subst e2
    exact h.pstr _
  · show x.cps.size ≤ i
    simpa using hi
theorem itd_range {lo : Int} {n : Nat} : ItD z (Itr lo n) [] ((List.range n).map fun i => .int (lo + (i : Nat))) := by
  refine ⟨fun σ A ts H i h hi => ?_, fun σ A ts H i v H' e h he hy => ?_, fun σ A ts H i h hi => ?_⟩
  · show i < n
    simpa using hi
  · obtain ⟨rfl, rfl⟩ := hy
    have hi : i < n := by
      have := (List.getElem?_eq_some_iff.mp he).1
      simpa using this
    have e2 : e = .int (lo + (i : Nat)) := by
      rw [List.getElem?_map, List.getElem?_range hi] at he
      exact (Option.some.inj he).symm
    subst e2
    exact h.pint _
  · show n ≤ i
    simpa using hi
theorem qi_it {tg l : Expr} {fe : FE} (hK : X.K = z.K) (hl : PE X l (tE z fe)) : PI X tg l (tI z (fIt fe)) := by
  refine ⟨fun pins s σ H R I w => ?_⟩
  obtain ⟨A, ts, hA, hp⟩ := w
  unfold fIt at hp
  cases ea : fe A with
  | stuck => rw [ea] at hp; exact (show False from hp).elim
  | exc c A1 =>
    rw [ea] at hp
    refine (pi_list hl).run pins s σ H R I ⟨A, ts, hA, ?_⟩
    rw [ea]; exact hp
  | ok d A1 =>
    rw [ea] at hp
    simp only [Ou.bind_ok] at hp
    split at hp
    · rename_i e A2 ec
      split at hp
      · rename_i ds ei
        have fin : ∀ v H1, z.A σ A1 ((v, d) :: ts) H1 → z.A σ A2 ((v, fz e) :: ts) H1 := fun v H1 h1 => by
          obtain ⟨h2, n2⟩ := h1.closeD ec
          exact h2.fz n2
        cases ef : fz e <;> rw [ef] at ei fin <;> simp only [iterOf] at ei <;> try cases ei
        · -- a text
          rename_i x
          refine (pi_str hl).run pins s σ H R I ⟨A, ts, hA, ?_⟩
          rw [ea]
          intro v H1 h1
          have h2 := fin v H1 h1
          exact ⟨x, h2.str, hp _ [] _ (fun _ m => nomatch m) itd_str h2.drop⟩
        · -- a tuple
          rename_i es
          split at ei
          · rename_i hf
            cases ei
            refine (pi_tup hl).run pins s σ H R I ⟨A, ts, hA, ?_⟩
            rw [ea]
            intro v H1 h1
            have h2 := fin v H1 h1
            obtain ⟨G, L, gh, r, _⟩ := h2.open (fun j q => by cases q)
            cases r with
            | tup q rs =>
              rw [hK]
              exact ⟨_, rfl, ⟨_, .inl (.inl (gh _ _ q))⟩, hp _ [(_, .tup ds)] _ (fun p m j e => by rw [List.mem_singleton.mp m] at e; cases e) (itd_tup hf) h2⟩
          · cases ei
        · -- a list
          refine (pi_list hl).run pins s σ H R I ⟨A, ts, hA, ?_⟩
          rw [ea]
          intro v H1 h1
          have h2 := fin v H1 h1
          obtain ⟨G, L, gh, r, _⟩ := h2.open (fun j q => by cases q)
          cases r with
          | lst q rs =>
            rw [hK]
            exact ⟨_, rfl, ⟨_, .inl (.inl (gh _ _ q))⟩, hp _ [(_, .lst ds)] _ (fun p m j e => by rw [List.mem_singleton.mp m] at e; cases e) (itd_list (.inl rfl)) h2⟩
        · -- the script
          refine (pi_list hl).run pins s σ H R I ⟨A, ts, hA, ?_⟩
          rw [ea]
          intro v H1 h1
          have h2 := fin v H1 h1
          obtain ⟨G, L, gh, r, _⟩ := h2.open (fun j q => by cases q)
          cases r with
          | fro q rs =>
            rw [hK]
            exact ⟨_, rfl, ⟨_, sq_l gh q⟩, hp _ [(_, .fro ds)] _ (fun p m j e => by rw [List.mem_singleton.mp m] at e; cases e) (itd_list (.inr rfl)) h2⟩
      · exact (show False from hp).elim
    · exact (show False from hp).elim
/-- range(n) -/
def fRange (fa : FE) : FI := fun A => (fa A).bind fun d A1 => match d with
  | .int n => if n.natAbs < 2 ^ 62 then .ok ((List.range n.toNat).map fun i => .int (i : Nat)) A1 else .stuck
  | _ => .stuck
theorem qi_range {tg a : Expr} {fa : FE} {p pos : Pos} (hg : Gl X "range") (hm : X.mg "range" = none) (ha : PE X a (tE z fa)) (hs : starEach [a] X.env = [(false, eval a X.env)] := by rfl) (hs2 : starEach [a] X.env = (false, eval a X.env) :: starEach [] X.env := by rfl) :
    PI X tg (.Call (.Name "range" p) [a] [] pos) (tI z (fRange fa)) := by
  refine ⟨fun pins s σ H R I w => (pi_range1 hg hm (pa_cons ha pa_nil hs2) hs).run pins s σ H R I ?_⟩
  obtain ⟨A, ts, hA, hp⟩ := w
  refine ⟨A, ts, hA, ?_⟩
  unfold fRange at hp
  cases ea : fa A with
  | stuck => rw [ea] at hp; exact (show False from hp).elim
  | exc c A1 => rw [ea] at hp; exact hp
  | ok d A1 =>
    rw [ea] at hp
    simp only [Ou.bind_ok] at hp
    intro v H1 h1
    cases d <;> try exact (show False from hp).elim
    rename_i n
    simp only at hp
    split at hp
    · rename_i hn
      refine ⟨n, by rw [h1.int], by omega, by omega, hp _ [] _ (fun _ m => nomatch m) ?_ h1.drop⟩
      have := itd_range (z := z) (lo := 0) (n := n.toNat)
      simpa using this
    · exact (show False from hp).elim

/-! ### for -/
def forL (t : Tg) (fb : FS) : List D → Sl → Ou Fl
  | [], A => .ok .next A
  | d :: ds, A => match t.set d A with
    | none => .stuck
    | some A1 => match fb A1 with
      | .ok .next A2 => forL t fb ds A2
      | .ok .cont A2 => forL t fb ds A2
      | .ok .brk A2 => .ok .next A2
      | .ok (.ret d) A2 => .ok (.ret d) A2
      | .exc c A2 => .exc c A2
      | .stuck => .stuck
def fFor (fi : FI) (t : Tg) (fb : FS) : FS := fun A => (fi A).bind fun ds A1 => forL t fb ds A1
theorem Abs.dropMid {K : PySem.W.Frag} {B : Bs} {σ : L2.St} {A : Sl} {tmp ts : Ts} {H : Hp} {p : V × D} (h : Abs K B σ A (p :: (tmp ++ ts)) H) : Abs K B σ A (p :: ts) H :=
  (h.perm (by simpa using (List.perm_middle (l₁ := tmp) (a := p) (l₂ := ts)).symm) : Abs K B σ A (tmp ++ p :: ts) H).dropn
theorem Cl.app {tmp ts : Ts} (c1 : Cl tmp) (c2 : Cl ts) : Cl (tmp ++ ts) := fun p hp => (List.mem_append.mp hp).elim (c1 p) (c2 p)
theorem qs_for {tg iter : Expr} {body : List Stmt} {t : Tg} {fi : FI} {fb : FS} {pos : Pos} (hp : PassesOwn (model X.prog X.w) X.A X.env X.xe) (hc : X.calm = true) (hK : X.K = z.K) (hi : PI X tg iter (tI z fi)) (hg : PG X tg (t.read X.K)) (hb : PSs X body (tS z fb))
    (hs : ∀ x, foldedSetIterable iter X.env x = pure x := by intro _; rfl) : PS X (.For tg iter body [] pos) (tS z (fFor fi t fb)) := by
  refine PS.imp (ps_for hp hc hi hg hb hs) fun D σ H ⟨A, ts, hA, c, hq⟩ => ⟨A, ts, hA, ?_⟩
  unfold fFor at hq
  cases ea : fi A with
  | stuck => rw [ea] at hq; exact (pS_stuck hq).elim
  | exc c A1 => rw [ea] at hq; exact fun H' h' => hq σ H' h'
  | ok ds A1 =>
    rw [ea] at hq
    simp only [Ou.bind_ok] at hq
    intro J tmp H1 ctmp it h1
    refine ⟨fun i m σ' H' => ∃ A', z.A σ' A' (tmp ++ ts) H' ∧ m = ds.length - i ∧ i ≤ ds.length ∧ pS z (forL t fb (ds.drop i) A') D ts, ⟨_, A1, h1, rfl, Nat.zero_le _, hq⟩, fun i m σ' H' hW => ?_⟩
    obtain ⟨A', h', rfl, hi, hpost⟩ := hW
    by_cases hlt : i < ds.length
    · refine .inr ⟨it.go σ' A' ts H' i h' hlt, fun σ2 H2 => ∃ A2, z.A σ2 A2 (tmp ++ ts) H2 ∧ pS z (forL t fb (ds.drop (i + 1)) A2) D ts, fun σ2 H2 ⟨A2, h2, q2⟩ => ⟨ds.length - (i + 1), by omega, A2, h2, rfl, hlt, q2⟩, fun x H2 hy => ?_⟩
      have hget : ds[i]? = some ds[i] := List.getElem?_eq_getElem hlt
      have h2 := it.yld σ' A' ts H' i x H2 ds[i] h' hget hy
      have hdrop : ds.drop i = ds[i] :: ds.drop (i + 1) := List.drop_eq_getElem_cons hlt
      rw [hdrop] at hpost
      unfold forL at hpost
      cases es : t.set ds[i] A' with
      | none => rw [es] at hpost; exact (pS_stuck hpost).elim
      | some A3 =>
        rw [es] at hpost
        simp only at hpost
        rw [hK]
        refine tg_go h2 (ctmp.app c) es fun σ3 h3 _ => ⟨A3, tmp ++ ts, h3, ctmp.app c, ?_⟩
        cases eb : fb A3 with
        | stuck => rw [eb] at hpost; exact (pS_stuck hpost).elim
        | exc c4 A4 => rw [eb] at hpost; exact fun σ5 H5 h5 => hpost σ5 H5 h5.dropn
        | ok r A4 =>
          rw [eb] at hpost
          cases r with
          | next => exact fun σ5 H5 h5 => ⟨A4, h5, hpost⟩
          | cont => exact fun σ5 H5 h5 => ⟨A4, h5, hpost⟩
          | brk => exact fun σ5 H5 h5 => hpost σ5 H5 h5.dropn
          | ret d => exact fun v σ5 H5 h5 => hpost v σ5 H5 h5.dropMid
    · have e : i = ds.length := by omega
      subst e
      rw [List.drop_length] at hpost
      exact .inl ⟨it.stop σ' A' ts H' _ h' (Nat.le_refl _), hpost σ' H' h'.dropn⟩

/-! ### while -/
def whileN (c : FT) (fb : FS) : Nat → Sl → Ou Fl
  | 0, _ => .stuck
  | n + 1, A => match c A with
    | .ok true A1 => match fb A1 with
      | .ok .next A2 => whileN c fb n A2
      | .ok .cont A2 => whileN c fb n A2
      | .ok .brk A2 => .ok .next A2
      | .ok (.ret d) A2 => .ok (.ret d) A2
      | .exc c A2 => .exc c A2
      | .stuck => .stuck
    | .ok false A1 => .ok .next A1
    | .exc c A1 => .exc c A1
    | .stuck => .stuck
def fWhile (n : Nat) (c : FT) (fb : FS) : FS := fun A => whileN c fb n A
theorem qs_while {n : Nat} {c : Expr} {body : List Stmt} {ft : FT} {fb : FS} {pos : Pos} (hp : PassesOwn (model X.prog X.w) X.A X.env X.xe) (hc : PT X c (tT z ft)) (hb : PSs X body (tS z fb)) : PS X (.While c body [] pos) (tS z (fWhile n ft fb)) := by
  refine PS.imp (ps_while hp hc hb) fun D σ H ⟨A, ts, hA, cl, hq⟩ => ?_
  refine ⟨fun m σ' H' => ∃ A', z.A σ' A' ts H' ∧ pS z (whileN ft fb m A') D ts, ⟨n, A, hA, hq⟩, fun m σ' H' ⟨A', h', hpost⟩ => ⟨A', ts, h', ?_⟩⟩
  cases m with
  | zero => exact (pS_stuck hpost).elim
  | succ m =>
    unfold whileN at hpost
    cases ea : ft A' with
    | stuck => rw [ea] at hpost; exact (pS_stuck hpost).elim
    | exc c A1 => rw [ea] at hpost; exact fun H1 h1 => hpost σ' H1 h1
    | ok b A1 =>
      rw [ea] at hpost
      intro H1 h1
      cases b with
      | false => exact hpost σ' H1 h1
      | true =>
        simp only at hpost
        refine ⟨fun σ2 H2 => ∃ A2, z.A σ2 A2 ts H2 ∧ pS z (whileN ft fb m A2) D ts, fun σ2 H2 ⟨A2, h2, q2⟩ => ⟨m, Nat.lt_succ_self m, A2, h2, q2⟩, A1, ts, h1, cl, ?_⟩
        cases eb : fb A1 with
        | stuck => rw [eb] at hpost; exact (pS_stuck hpost).elim
        | exc c4 A4 => rw [eb] at hpost; exact hpost
        | ok r A4 =>
          rw [eb] at hpost
          cases r with
          | next => exact fun σ5 H5 h5 => ⟨A4, h5, hpost⟩
          | cont => exact fun σ5 H5 h5 => ⟨A4, h5, hpost⟩
          | brk => exact hpost
          | ret d => exact hpost
end
end Ab
end
section
namespace Ab
open PySem PySem.Spec PyProof.Rows L2

/-! ### an owned list rewritten -/
section
variable {K : PySem.W.Frag} {B : Bs} {G H : Hp} {σ : L2.St} {A : Sl} {ts : Ts} {p : Addr} {v y : V} {xs xs' : List V} {ds es : List D} {e : D} {Lt L2 L' : List Addr}
theorem mut_core (gd : Gd B G H) (tm : Tms K σ G H ts Lt) (sl : Sls K G H σ A L2) (hp : H p = some (.lst xs)) (gp : G p = none) (rs : Rs K G H xs' es L') (nd : (((p :: L') ++ Lt) ++ L2).Nodup) (ow : ∀ a ∈ ((p :: L') ++ Lt) ++ L2, Own B a) :
    Abs K B σ A ((.ref p, .mu es) :: ts) (upd H p (.lst xs')) := by
  have np : p ∉ (L' ++ Lt) ++ L2 := (List.nodup_cons.mp nd).1
  have old : ∀ a ∈ (L' ++ Lt) ++ L2, G a = none := fun a ha => by
    rcases List.mem_append.mp ha with m | m
    · exact ((List.mem_append.mp m).elim (rs.own a) (tm.own a)).1
    · exact (sl.own a m).1
  have keep : ∀ a ∈ (L' ++ Lt) ++ L2, upd H p (.lst xs') a = H a ∧ G a = none := fun a ha => ⟨upd_ne (fun q => np (by rw [← q]; exact ha)), old a ha⟩
  have ownp : Own B p := ow p List.mem_cons_self
  refine ⟨G, (p :: L') ++ Lt, L2, ⟨fun a o h => ?_, gd.bg, fun a o hx h => ?_, gd.sep, fun a ha => ?_⟩, .cons (.mu upd_same gp (rs.mono (fun _ _ e => e) fun a ha => keep a (by simp [ha]))) (tm.mono (fun _ _ e => e) fun a ha => keep a (by simp [ha])), sl.mono (fun _ _ e => e) fun a ha => keep a (by simp [ha]), nd, ow⟩
  · have : a ≠ p := fun q => by rw [q, gp] at h; cases h
    rw [upd_ne this]; exact gd.gh a o h
  · have : a ≠ p := fun q => by
      subst q
      rcases ownp with n | n
      · rw [n] at h; cases h
      · exact hx n
    rw [upd_ne this]; exact gd.bh a o hx h
  · by_cases q : a = p
    · rw [q, upd_same]; exact fun z => nomatch z
    · rw [upd_ne q]; exact gd.alive a ha
/-- an item more -/
theorem Abs.app (h : Abs K B σ A ((y, e) :: (v, .mu ds) :: ts) H) (he : ∀ i, e ≠ .al i) : ∃ p xs, v = .ref p ∧ H p = some (.lst xs) ∧ xs.length = ds.length ∧ Abs K B σ A ((v, .mu (ds ++ [e])) :: ts) (upd H p (.lst (xs ++ [y]))) := by
  obtain ⟨G, L1, L2, gd, tm, sl, nd, ow⟩ := h
  cases tm with
  | al _ _ => exact absurd rfl (he _)
  | cons r tm =>
    cases tm with
    | cons r2 t =>
      rename_i Le Lp Lt
      cases r2 with
      | mu q gp rs =>
        rename_i p xs L
        have pp : ((Le ++ ((p :: L) ++ Lt)) ++ L2).Perm (((p :: (L ++ Le)) ++ Lt) ++ L2) := by
          refine List.Perm.append_right _ ?_
          rw [List.cons_append, List.cons_append]
          refine List.perm_middle.trans (List.Perm.cons _ ?_)
          rw [← List.append_assoc]
          exact List.Perm.append_right _ List.perm_append_comm
        refine ⟨p, xs, rfl, q, rs.length, mut_core gd t sl q gp (L' := L ++ Le) (rs.app (by simpa using Rs.one r)) (nodup_perm pp nd) fun a ha => ow a (pp.mem_iff.mpr ha)⟩
/-- the items of another list more (it is read; its items are known) -/
theorem Abs.ext (h : Abs K B σ A ((y, .lst es) :: (v, .mu ds) :: ts) H) : ∃ p xs b zs, v = .ref p ∧ y = .ref b ∧ H p = some (.lst xs) ∧ H b = some (.lst zs) ∧ xs.length = ds.length ∧ zs.length = es.length ∧ Abs K B σ A ((v, .mu (ds ++ es)) :: ts) (upd H p (.lst (xs ++ zs))) := by
  obtain ⟨G, L1, L2, gd, tm, sl, nd, ow⟩ := h
  cases tm with
  | cons r tm =>
    cases r with
    | lst qb rb =>
      rename_i b zs
      cases tm with
      | cons r2 t =>
        rename_i Lp Lt
        cases r2 with
        | mu q gp rs =>
          rename_i p xs L
          exact ⟨p, xs, b, zs, rfl, rfl, q, gd.gh _ _ qb, rs.length, rb.length, mut_core gd t sl q gp (L' := L) (by simpa using rs.app rb) (by simpa using nd) (by simpa using ow)⟩
/-- emptied -/
theorem Abs.clr (h : Abs K B σ A ((v, .mu ds) :: ts) H) : ∃ p xs, v = .ref p ∧ H p = some (.lst xs) ∧ Abs K B σ A ((v, .mu []) :: ts) (upd H p (.lst [])) := by
  obtain ⟨G, L1, L2, gd, tm, sl, nd, ow⟩ := h
  cases tm with
  | cons r2 t =>
    rename_i Lp Lt
    cases r2 with
    | mu q gp rs =>
      rename_i p xs L
      have sb : (((p :: []) ++ Lt) ++ L2).Sublist (((p :: L) ++ Lt) ++ L2) := List.Sublist.append_right (List.Sublist.append_right ((List.nil_sublist L).cons₂ p) _) _
      exact ⟨p, xs, rfl, q, mut_core gd t sl q gp (L' := []) .nil (sb.nodup nd) fun a ha => ow a (sb.subset ha)⟩
theorem Rs.setAt : ∀ {xs : List V} {ds : List D} {L : List Addr} {j : Nat}, Rs K G H xs ds L → R K G H y e L' → j < ds.length → ∃ M N, Rs K G H (xs.set j y) (ds.set j e) M ∧ M.Perm (L' ++ N) ∧ N.Sublist L
  | _, _, _, j, .nil, _, hj => by simp at hj
  | _, _, _, 0, .cons (L := La) (L' := Lb) r t, re, _ => ⟨L' ++ Lb, Lb, .cons re t, .refl _, List.sublist_append_right _ _⟩
  | _, _, _, j + 1, .cons (L := La) (L' := Lb) r t, re, hj => by
    obtain ⟨M, N, h1, h2, h3⟩ := Rs.setAt (j := j) t re (by simpa using hj)
    refine ⟨La ++ M, La ++ N, .cons r h1, ?_, List.Sublist.append_left h3 _⟩
    refine (List.Perm.append_left _ h2).trans ?_
    rw [← List.append_assoc, ← List.append_assoc]
    exact List.Perm.append_right _ List.perm_append_comm
/-- an item replaced -/
theorem Abs.setAt {j : Nat} (h : Abs K B σ A ((y, e) :: (v, .mu ds) :: ts) H) (he : ∀ i, e ≠ .al i) (hj : j < ds.length) : ∃ p xs, v = .ref p ∧ H p = some (.lst xs) ∧ xs.length = ds.length ∧ Abs K B σ A ((v, .mu (ds.set j e)) :: ts) (upd H p (.lst (xs.set j y))) := by
  obtain ⟨G, L1, L2, gd, tm, sl, nd, ow⟩ := h
  cases tm with
  | al _ _ => exact absurd rfl (he _)
  | cons r tm =>
    cases tm with
    | cons r2 t =>
      rename_i Le Lp Lt
      cases r2 with
      | mu q gp rs =>
        rename_i p xs L
        obtain ⟨M, N, h1, h2, h3⟩ := rs.setAt r hj
        have pp : ((Le ++ ((p :: L) ++ Lt)) ++ L2).Perm (((p :: (Le ++ L)) ++ Lt) ++ L2) := by
          refine List.Perm.append_right _ ?_
          rw [List.cons_append, List.cons_append]
          refine List.perm_middle.trans (List.Perm.cons _ ?_)
          rw [List.append_assoc]
        have sb : (((p :: (Le ++ N)) ++ Lt) ++ L2).Sublist (((p :: (Le ++ L)) ++ Lt) ++ L2) := List.Sublist.append_right (List.Sublist.append_right ((List.Sublist.append_left h3 _).cons₂ p) _) _
        have p2 : (((p :: M) ++ Lt) ++ L2).Perm (((p :: (Le ++ N)) ++ Lt) ++ L2) := List.Perm.append_right _ (List.Perm.append_right _ (List.Perm.cons _ h2))
        exact ⟨p, xs, rfl, q, rs.length, mut_core gd t sl q gp h1 (nodup_perm p2.symm (sb.nodup (nodup_perm pp nd))) fun a ha => ow a (pp.mem_iff.mpr (sb.subset (p2.mem_iff.mp ha)))⟩
/-- back into the slot -/
theorem Abs.put {i : Nat} {d : D} (h : Abs K B σ A ((v, d) :: ts) H) (hd : ∀ j, d ≠ .al j) (e : A[i]? = some none) (ev : σ[i]? = some (some v)) : Abs K B σ (A.set i (some d)) ts H := by
  obtain ⟨G, L1, L2, gd, tm, sl, nd, ow⟩ := h
  cases tm with
  | al _ _ => exact absurd rfl (hd _)
  | cons r t =>
    rename_i La Lb
    obtain ⟨L', s, p⟩ := sl.put e ev r
    have pp : (Lb ++ L').Perm ((La ++ Lb) ++ L2) := by
      refine (List.Perm.append_left _ p).trans ?_
      rw [← List.append_assoc]
      exact List.Perm.append_right _ List.perm_append_comm
    exact ⟨G, Lb, L', gd, t, s, nodup_perm pp.symm nd, fun a ha => ow a (pp.mem_iff.mp ha)⟩
theorem Abs.al_at {i : Nat} (h : Abs K B σ A ((v, .al i) :: ts) H) : σ[i]? = some (some v) := by
  obtain ⟨G, L1, L2, gd, tm, sl, nd, ow⟩ := h
  cases tm with
  | al e _ => exact e
  | cons r _ => exact r.not_al.elim
end

/-! ### methods that change a slot's list: x.append(e), x.extend(e), x.clear(); x[i] = e -/
def slotL (i : Nat) (A : Sl) : Option (List D) := match A[i]? with
  | some (some (.mu ds)) => some ds
  | _ => none
theorem slotL_get {i : Nat} {A : Sl} {ds : List D} (h : slotL i A = some ds) : A[i]? = some (some (.mu ds)) := by
  unfold slotL at h
  split at h
  · rename_i e; cases h; exact e
  · cases h
def fApp (i : Nat) (fe : FE) : FE := fun A => match slotL i A with
  | none => .stuck
  | some _ => (fe A).bind fun e A2 => match closeD e A2 with
    | none => .stuck
    | some (e', A3) => match slotL i A3 with
      | some ds => if ds.length < sizeLine then .ok .non (A3.set i (some (.mu (ds ++ [e'])))) else .stuck
      | none => .stuck
/-- extend by a list whose items are known -/
def fExt (i : Nat) (fe : FE) : FE := fun A => match slotL i A with
  | none => .stuck
  | some _ => (fe A).bind fun e A2 => match closeD e A2 with
    | none => .stuck
    | some (e', A3) => match slotL i A3, fz e' with
      | some ds, .lst es => if ds.length + es.length ≤ sizeLine then .ok .non (A3.set i (some (.mu (ds ++ es)))) else .stuck
      | _, _ => .stuck
def fClr (i : Nat) : FE := fun A => match slotL i A with
  | some _ => .ok .non (A.set i (some (.mu [])))
  | none => .stuck
/-- x[k] = e -/
def fSetI (i : Nat) (fk fe : FE) : FS := fun A => (fe A).bind fun e A1 => match closeD e A1 with
  | none => .stuck
  | some (e', A2) => match slotL i A2 with
    | none => .stuck
    | some _ => (fk A2).bind fun k A3 => match k, slotL i A3 with
      | .int k, some ds => match ixN ds.length k with
        | some j => .ok .next (A3.set i (some (.mu (ds.set j e'))))
        | none => .stuck
      | _, _ => .stuck
section
variable {z : Z} {X : Cx} {o e : Expr} {fo fe : FE}
theorem tyV_lst {K : PySem.W.Frag} {H : Hp} {p : Addr} {xs : List V} (h : H p = some (.lst xs)) : tyV K "list" (.ref p) H := .inl ⟨rfl, xs, .inl (.inl h)⟩
/-- the owned list of a slot -/
theorem Abs.alList {K : PySem.W.Frag} {B : Bs} {σ : L2.St} {A : Sl} {ts : Ts} {H : Hp} {v : V} {i : Nat} {ds : List D} (h : Abs K B σ A ((v, .al i) :: ts) H) (e : A[i]? = some (some (.mu ds))) : ∃ p xs, v = .ref p ∧ H p = some (.lst xs) ∧ xs.length = ds.length := by
  obtain ⟨G, L, gh, r, _⟩ := h.open (d := .al i) (by rw [see_al e]; exact fun j q => nomatch q)
  rw [see_al e] at r
  cases r with
  | mu q _ rs => exact ⟨_, _, rfl, q, rs.length⟩
theorem Abs.slotAl {K : PySem.W.Frag} {B : Bs} {σ : L2.St} {A : Sl} {ts : Ts} {H : Hp} {i : Nat} {ds : List D} (h : Abs K B σ A ts H) (e : A[i]? = some (some (.mu ds))) : ∃ p xs, σ[i]? = some (some (.ref p)) ∧ H p = some (.lst xs) ∧ xs.length = ds.length ∧ Abs K B σ A ((.ref p, .al i) :: ts) H := by
  obtain ⟨v, ev, h1⟩ := h.var e
  have h2 : Abs K B σ A ((v, .al i) :: ts) H := by simpa [isF] using h1
  obtain ⟨p, xs, rfl, hp, hl⟩ := h2.alList e
  exact ⟨p, xs, ev, hp, hl, h2⟩
theorem set_none_get {A : Sl} {i : Nat} {o : Option D} (e : A[i]? = some o) : (A.set i none)[i]? = some none := by
  have := (List.getElem?_eq_some_iff.mp e).1
  simp [this]
/-- where a slot's own list is, another temporary ahead -/
theorem Abs.swapMove {K : PySem.W.Frag} {B : Bs} {σ : L2.St} {A : Sl} {ts : Ts} {H : Hp} {v y : V} {i : Nat} {e d : D} (h : Abs K B σ A ((y, e) :: (v, .al i) :: ts) H) (ed : A[i]? = some (some d)) : Abs K B σ (A.set i none) ((y, e) :: (v, d) :: ts) H :=
  ((h.perm (List.Perm.swap _ _ _)).move ed).perm (List.Perm.swap _ _ _)
theorem app_go {i : Nat} {σ : L2.St} {H : Hp} {Q : VK} (h : tE z (fApp i fe) σ H Q) : tBM z.K "list" rAppend (tVar i) (L2.tCons (tE z fe) L2.tNil) σ H Q := by
  obtain ⟨A, ts, hA, hp⟩ := h
  unfold fApp at hp
  split at hp
  · exact (show False from hp).elim
  · rename_i ds0 e0
    obtain ⟨p0, xs0, ev, hp0, _, h1⟩ := hA.slotAl (slotL_get e0)
    refine ⟨.ref p0, ev, tyV_lst hp0, A, (.ref p0, .al i) :: ts, h1, ?_⟩
    cases eb : fe A with
    | stuck => rw [eb] at hp; exact (show False from hp).elim
    | exc c A2 => rw [eb] at hp; exact fun H' h' => hp H' h'.drop
    | ok e A2 =>
      rw [eb] at hp
      simp only [Ou.bind_ok] at hp
      intro y H2 h2
      split at hp
      · exact (show False from hp).elim
      · rename_i e' A3 ec
        obtain ⟨h3, n3⟩ := h2.closeD ec
        split at hp
        · rename_i ds e3
          split at hp
          · rename_i hl
            obtain ⟨p, xs, q, hp2, hlen, h5⟩ := (h3.swapMove (slotL_get e3)).app n3
            cases q
            have h6 := h5.put (fun j q => nomatch q) (set_none_get (slotL_get e3)) ev
            rw [List.set_set] at h6
            exact ⟨p0, xs, y, rfl, rfl, hp2, by rw [hlen]; exact hl, hp _ _ h6.pnon⟩
          · exact (show False from hp).elim
        · exact (show False from hp).elim
theorem ext_go {i : Nat} {σ : L2.St} {H : Hp} {Q : VK} (h : tE z (fExt i fe) σ H Q) : tBM z.K "list" rExtend (tVar i) (L2.tCons (tE z fe) L2.tNil) σ H Q := by
  obtain ⟨A, ts, hA, hp⟩ := h
  unfold fExt at hp
  split at hp
  · exact (show False from hp).elim
  · rename_i ds0 e0
    obtain ⟨p0, xs0, ev, hp0, _, h1⟩ := hA.slotAl (slotL_get e0)
    refine ⟨.ref p0, ev, tyV_lst hp0, A, (.ref p0, .al i) :: ts, h1, ?_⟩
    cases eb : fe A with
    | stuck => rw [eb] at hp; exact (show False from hp).elim
    | exc c A2 => rw [eb] at hp; exact fun H' h' => hp H' h'.drop
    | ok e A2 =>
      rw [eb] at hp
      simp only [Ou.bind_ok] at hp
      intro y H2 h2
      split at hp
      · exact (show False from hp).elim
      · rename_i e' A3 ec
        obtain ⟨h3, n3⟩ := h2.closeD ec
        split at hp
        · rename_i ds es e3 ef
          split at hp
          · rename_i hl
            have h4 := (h3.swapMove (slotL_get e3)).fz n3
            rw [ef] at h4
            obtain ⟨p, xs, b, zs, q2, rfl, hp2, hb2, hlen, hlz, h5⟩ := h4.ext
            cases q2
            have h6 := h5.put (fun j q => nomatch q) (set_none_get (slotL_get e3)) ev
            rw [List.set_set] at h6
            exact ⟨p0, b, xs, zs, rfl, rfl, hp2, hb2, by rw [hlen, hlz]; exact hl, hp _ _ h6.pnon⟩
          · exact (show False from hp).elim
        · exact (show False from hp).elim
theorem clr_go {i : Nat} {σ : L2.St} {H : Hp} {Q : VK} (h : tE z (fClr i) σ H Q) : tBM0 z.K "list" rClear (tVar i) σ H Q := by
  obtain ⟨A, ts, hA, hp⟩ := h
  unfold fClr at hp
  split at hp
  · rename_i ds e
    obtain ⟨p0, xs0, ev, hp0, _, h1⟩ := hA.slotAl (slotL_get e)
    obtain ⟨p, xs, q, hp2, h5⟩ := (h1.move (slotL_get e)).clr
    cases q
    have h6 := h5.put (fun j q => nomatch q) (set_none_get (slotL_get e)) ev
    rw [List.set_set] at h6
    exact ⟨.ref p0, ev, tyV_lst hp0, p0, xs, rfl, rfl, hp2, hp _ _ h6.pnon⟩
  · exact (show False from hp).elim
theorem ixN_lt {n : Nat} {i : Int} {j : Nat} (h : ixN n i = some j) : j < n := (ixN_seq h).2.1
theorem setI_go {i : Nat} {fk : FE} {D : Ends} {σ : L2.St} {H : Hp} (h : tS z (fSetI i fk fe) D σ H) : tAsg (tE z fe) (gSub (tVar i) (tE z fk) rSetL) D σ H := by
  obtain ⟨A, ts, hA, c, hp⟩ := h
  refine ⟨A, ts, hA, ?_⟩
  unfold fSetI at hp
  cases ea : fe A with
  | stuck => rw [ea] at hp; exact (pS_stuck hp).elim
  | exc c A1 => rw [ea] at hp; exact fun H' h' => hp σ H' h'
  | ok e A1 =>
    rw [ea] at hp
    simp only [Ou.bind_ok] at hp
    intro y H1 h1
    split at hp
    · exact (pS_stuck hp).elim
    · rename_i e' A2 ec
      obtain ⟨h2, n2⟩ := h1.closeD ec
      split at hp
      · exact (pS_stuck hp).elim
      · rename_i ds0 e0
        obtain ⟨p0, xs0, ev, hp0, _, h3⟩ := h2.slotAl (slotL_get e0)
        refine ⟨.ref p0, ev, A2, (.ref p0, .al i) :: (y, e') :: ts, h3, ?_⟩
        cases ek : fk A2 with
        | stuck => rw [ek] at hp; exact (pS_stuck hp).elim
        | exc c A3 => rw [ek] at hp; exact fun H' h' => hp σ H' h'.drop.drop
        | ok k A3 =>
          rw [ek] at hp
          simp only [Ou.bind_ok] at hp
          intro u H3 h4
          split at hp
          · rename_i k ds es
            split at hp
            · rename_i j ej
              have eu := h4.int
              have h5 : z.A σ A3 ((y, e') :: (.ref p0, .al i) :: ts) H3 := h4.drop.perm (List.Perm.swap _ _ _)
              obtain ⟨p, xs, q, hp2, hlen, h6⟩ := (h5.swapMove (slotL_get es)).setAt n2 (ixN_lt ej)
              cases q
              have h7 := h6.put (fun j q => nomatch q) (set_none_get (slotL_get es)) ev
              rw [List.set_set] at h7
              exact ⟨p0, xs, k, j, rfl, eu, hp2, by rw [hlen]; exact ej, hp σ _ h7⟩
            · exact (pS_stuck hp).elim
          · exact (pS_stuck hp).elim
theorem qe_app {i : Nat} {o e : Expr} {apos cpos : Pos} (hK : X.K = z.K) (ho : PE X o (tVar i)) (he : PE X e (tE z fe))
    (hbase : attributeBase o "append" X.env (eval o X.env) = eval o X.env := by rfl)
    (hfew : ((backTo cpos (starEach [e] X.env)).all (fun x => !x.1) && (backToKw cpos (keywordEach [] X.env)).all (fun x => x.1.isSome)
      && decide ([e].length + ([] : List Keyword).length + (if ([] : List Keyword).isEmpty then 0 else 1) < 30)) = true := by rfl)
    (hline : (apos.endLine == cpos.line) = true := by rfl) (hs : starEach [e] X.env = (false, eval e X.env) :: starEach [] X.env := by rfl) (hplain : (backTo cpos (starEach [] X.env)).any (·.1) = false := by rfl) :
    PE X (.Call (.Attribute o "append" apos) [e] [] cpos) (tE z (fApp i fe)) :=
  PE.imp (pe_bm PySem.F.plainAttrs_list PySem.F.slot_list_append PySem.F.type_list_append mt_append ho (pa_cons he pa_nil hs) hbase hfew hline hs hplain) fun _ _ _ h => by rw [hK]; exact app_go h
theorem qe_ext {i : Nat} {o e : Expr} {apos cpos : Pos} (hK : X.K = z.K) (ho : PE X o (tVar i)) (he : PE X e (tE z fe))
    (hbase : attributeBase o "extend" X.env (eval o X.env) = eval o X.env := by rfl)
    (hfew : ((backTo cpos (starEach [e] X.env)).all (fun x => !x.1) && (backToKw cpos (keywordEach [] X.env)).all (fun x => x.1.isSome)
      && decide ([e].length + ([] : List Keyword).length + (if ([] : List Keyword).isEmpty then 0 else 1) < 30)) = true := by rfl)
    (hline : (apos.endLine == cpos.line) = true := by rfl) (hs : starEach [e] X.env = (false, eval e X.env) :: starEach [] X.env := by rfl) (hplain : (backTo cpos (starEach [] X.env)).any (·.1) = false := by rfl) :
    PE X (.Call (.Attribute o "extend" apos) [e] [] cpos) (tE z (fExt i fe)) :=
  PE.imp (pe_bm PySem.F.plainAttrs_list PySem.F.slot_list_extend PySem.F.type_list_extend mt_extend ho (pa_cons he pa_nil hs) hbase hfew hline hs hplain) fun _ _ _ h => by rw [hK]; exact ext_go h
theorem qe_clr {i : Nat} {o : Expr} {apos cpos : Pos} (hK : X.K = z.K) (ho : PE X o (tVar i)) (hbase : attributeBase o "clear" X.env (eval o X.env) = eval o X.env := by rfl) (hline : (apos.endLine == cpos.line) = true := by rfl) :
    PE X (.Call (.Attribute o "clear" apos) [] [] cpos) (tE z (fClr i)) :=
  PE.imp (pe_bm0 PySem.F.plainAttrs_list PySem.F.slot_list_clear PySem.F.type_list_clear mt_clear ho hbase hline) fun _ _ _ h => by rw [hK]; exact clr_go h
theorem qs_setI {i : Nat} {o k e : Expr} {fk : FE} {p pos : Pos} (ho : PE X o (tVar i)) (hk : PE X k (tE z fk)) (he : PE X e (tE z fe))
    (ha : ∀ v, assign (.Subscript o k p) X.env v = (do
      let ov ← holding [v] (eval o X.env)
      let iv ← holding [v, ov] (eval k X.env)
      standAt p
      holding [v, ov, iv] (setItem ov iv v)
      release [v, ov, iv] []) := by intro _; rfl)
    (hs : swapsWithSole [.Subscript o k p] e pos.line X.env = pure false := by rfl) (hw : swappedStores [.Subscript o k p] e X.env = pure none := by rfl)
    (h1 : (assignEach [.Subscript o k p] X.env).map (·.2) = [assign (.Subscript o k p) X.env] := by rfl) : PS X (.Assign [.Subscript o k p] e pos) (tS z (fSetI i fk fe)) :=
  PS.imp (ps_asg he (pg_sub ho hk set_list ha) hs hw h1) fun _ _ _ h => setI_go h
end

/-! ### comprehensions -/
def wipeA (A : Sl) : List Nat → Sl
  | [] => A
  | i :: is => (wipeA A is).set i none
def compL (t : Tg) (ft : FT) (fe : FE) : List D → List D → Sl → Ou (List D)
  | [], acc, A => .ok acc A
  | d :: ds, acc, A => match t.set d A with
    | none => .stuck
    | some A1 => match ft A1 with
      | .ok true A2 => match fe A2 with
        | .ok e A3 => match closeD e A3 with
          | some (e', A4) => if acc.length < sizeLine then compL t ft fe ds (acc ++ [e']) (wipeA A4 t.own) else .stuck
          | none => .stuck
        | _ => .stuck
      | .ok false A2 => compL t ft fe ds acc (wipeA A2 t.own)
      | _ => .stuck
/-- [e for t in .. if c]: behind it the slots of t are told nothing of -/
def fComp (fi : FI) (t : Tg) (ft : FT) (fe : FE) : FE := fun A => (fi A).bind fun ds A1 => match compL t ft fe ds [] (wipeA A1 t.own) with
  | .ok es A2 => .ok (.mu es) (wipeA A2 t.own)
  | _ => .stuck
def fYes : FT := fun A => .ok true A
/-- the temporaries that are no aliases -/
def clsd (ts : Ts) : Ts := ts.filter fun p => match p.2 with | .al _ => false | _ => true
section
variable {K : PySem.W.Frag} {B : Bs} {G H : Hp} {σ σ' : L2.St} {A : Sl} {ts : Ts} {L : List Addr}
theorem clsd_cl : Cl (clsd ts) := fun p hp i e => by
  have := (List.mem_filter.mp hp).2
  rw [e] at this
  exact nomatch this
theorem Tms.clsd (t : Tms K σ G H ts L) : Tms K σ' G H (Ab.clsd ts) L := by
  induction t with
  | nil => exact .nil
  | @cons v d L L' ts r t ih =>
    have : Ab.clsd ((v, d) :: ts) = (v, d) :: Ab.clsd ts := by
      unfold Ab.clsd
      rw [List.filter_cons_of_pos]
      cases d <;> first | rfl | exact r.not_al.elim
    rw [this]
    exact .cons r ih
  | @al v i L ts e t ih =>
    have : Ab.clsd ((v, .al i) :: ts) = Ab.clsd ts := by
      unfold Ab.clsd
      rw [List.filter_cons_of_neg]
      intro z; exact nomatch z
    rw [this]
    exact ih
/-- the aliases of ts speak of σ -/
def AlAt (σ : L2.St) (ts : Ts) : Prop := ∀ v i, (v, D.al i) ∈ ts → σ[i]? = some (some v)
theorem Tms.alAt (t : Tms K σ G H ts L) : AlAt σ ts := by
  induction t with
  | nil => exact fun _ _ h => nomatch h
  | cons r _ ih =>
    intro v i h
    rcases List.mem_cons.mp h with h | h
    · cases h; exact r.not_al.elim
    · exact ih v i h
  | al e _ ih =>
    intro v i h
    rcases List.mem_cons.mp h with h | h
    · cases h; exact e
    · exact ih v i h
theorem Tms.unclsd : ∀ {ts : Ts} {L : List Addr}, Tms K σ' G H (Ab.clsd ts) L → AlAt σ ts → Tms K σ G H ts L
  | [], L, t, _ => by cases t; exact .nil
  | (v, d) :: ts, L, t, a => by
    have a' : AlAt σ ts := fun v i h => a v i (List.mem_cons_of_mem _ h)
    by_cases hd : ∃ i, d = .al i
    · obtain ⟨i, rfl⟩ := hd
      have e : Ab.clsd ((v, .al i) :: ts) = Ab.clsd ts := by
        unfold Ab.clsd
        rw [List.filter_cons_of_neg]
        intro z; exact nomatch z
      rw [e] at t
      exact .al (a v i List.mem_cons_self) (Tms.unclsd t a')
    · have e : Ab.clsd ((v, d) :: ts) = (v, d) :: Ab.clsd ts := by
        unfold Ab.clsd
        rw [List.filter_cons_of_pos]
        cases d <;> first | rfl | exact absurd ⟨_, rfl⟩ hd
      rw [e] at t
      cases t with
      | cons r t => exact .cons r (Tms.unclsd t a')
      | al _ _ => exact absurd ⟨_, rfl⟩ hd
theorem Sls.congr (s : Sls K G H σ A L) : ∀ {σ' : L2.St}, σ'.length = σ.length → (∀ (i : Nat) d, A[i]? = some (some d) → σ'[i]? = σ[i]?) → Sls K G H σ' A L := by
  induction s with
  | nil => intro σ' hl _; have : σ' = [] := by simpa using hl
           subst this; exact .nil
  | skip s ih =>
    intro σ' hl h
    cases σ' with
    | nil => simp at hl
    | cons o σ' => exact .skip (ih (by simpa using hl) fun i d e => by simpa using h (i + 1) d (by simpa using e))
  | cons r s ih =>
    intro σ' hl h
    cases σ' with
    | nil => simp at hl
    | cons o σ' =>
      have e0 := h 0 _ rfl
      simp at e0
      subst e0
      exact .cons r (ih (by simpa using hl) fun i d e => by simpa using h (i + 1) d (by simpa using e))
theorem wipeA_len : ∀ (is : List Nat) (A : Sl), (wipeA A is).length = A.length
  | [], _ => rfl
  | i :: is, A => by simp [wipeA, wipeA_len is A]
theorem wipeA_in : ∀ {is : List Nat} {A : Sl} {i : Nat} {d : D}, (wipeA A is)[i]? = some (some d) → i ∉ is
  | [], _, _, _, _ => fun h => nomatch h
  | j :: is, A, i, d, h => fun m => by
    rcases List.mem_cons.mp m with e | m
    · subst e
      unfold wipeA at h
      rw [List.getElem?_set] at h
      simp at h
    · unfold wipeA at h
      rw [List.getElem?_set] at h
      split at h
      · split at h <;> simp at h
      · exact wipeA_in h m
theorem wipe_off : ∀ (is : List Nat) (σ : L2.St), SameOff is σ (wipe σ is)
  | [], σ => .refl
  | i :: is, σ => by
    have ih := wipe_off is σ
    refine SameOff.set ⟨ih.1, fun j hj => ih.2 j fun m => hj (List.mem_cons_of_mem _ m)⟩ List.mem_cons_self
theorem Abs.wipeA (is : List Nat) (h : Abs K B σ A ts H) : Abs K B σ (Ab.wipeA A is) ts H := by
  induction is with
  | nil => exact h
  | cons i is ih => exact ih.forget
/-- into a block: its own slots told nothing of, no aliases -/
theorem Abs.block {is : List Nat} (h : Abs K B σ A ts H) (so : SameOff is σ σ') : Abs K B σ' (Ab.wipeA A is) (Ab.clsd ts) H := by
  obtain ⟨G, L1, L2, gd, tm, sl, nd, ow⟩ := h.wipeA is
  exact ⟨G, L1, L2, gd, tm.clsd, sl.congr so.1 fun i d e => so.2 i (wipeA_in e), nd, ow⟩
/-- .. and out of it -/
theorem Abs.unblock {is : List Nat} {tmp : Ts} (h : Abs K B σ' A (tmp ++ Ab.clsd ts) H) (ct : Cl tmp) (so : SameOff is σ σ') (al : AlAt σ ts) : Abs K B σ (Ab.wipeA A is) (tmp ++ ts) H := by
  obtain ⟨G, L1, L2, gd, tm, sl, nd, ow⟩ := h.wipeA is
  have e : Ab.clsd (tmp ++ ts) = tmp ++ Ab.clsd ts := by
    unfold Ab.clsd
    rw [List.filter_append]
    congr 1
    refine List.filter_eq_self.mpr fun p hp => ?_
    have := ct p hp
    cases p with
    | mk v d => cases d <;> first | rfl | exact absurd rfl (this _)
  refine ⟨G, L1, L2, gd, Tms.unclsd (by rw [e]; exact tm) fun v i h => ?_, sl.congr so.1.symm fun i d e => (so.2 i (wipeA_in e)).symm, nd, ow⟩
  rcases List.mem_append.mp h with m | m
  · exact absurd rfl (ct _ m i)
  · exact al v i m
theorem SameOff.symm {is : List Nat} (h : SameOff is σ σ') : SameOff is σ' σ := ⟨h.1.symm, fun i hi => (h.2 i hi).symm⟩
theorem SameOff.trans {is : List Nat} {τ : L2.St} (h : SameOff is σ σ') (k : SameOff is σ' τ) : SameOff is σ τ := ⟨k.1.trans h.1, fun i hi => (k.2 i hi).trans (h.2 i hi)⟩
theorem clsd_id {tmp : Ts} (ct : Cl tmp) : Ab.clsd tmp = tmp := List.filter_eq_self.mpr fun p hp => by
  have := ct p hp
  cases p with
  | mk v d => cases d <;> first | rfl | exact absurd rfl (this _)
theorem clsd_app {tmp : Ts} (ct : Cl tmp) : Ab.clsd (tmp ++ ts) = tmp ++ Ab.clsd ts := by
  have e := clsd_id ct
  unfold Ab.clsd at e ⊢
  rw [List.filter_append, e]
theorem wipe_in : ∀ {is : List Nat} {σ : L2.St} {i : Nat}, i ∈ is → i < σ.length → (wipe σ is)[i]? = some none
  | j :: is, σ, i, m, h => by
    unfold wipe
    rw [List.getElem?_set]
    split
    · rename_i e
      subst e
      rw [wipe_length, if_pos h]
    · rename_i ne
      exact wipe_in ((List.mem_cons.mp m).resolve_left fun e => ne e.symm) h
theorem wipe_ext {is : List Nat} {σ σ' : L2.St} (so : SameOff is σ σ') : wipe σ' is = wipe σ is := by
  apply List.ext_getElem?
  intro i
  by_cases hi : i ∈ is
  · by_cases hl : i < σ.length
    · rw [wipe_in hi hl, wipe_in hi (by rw [so.1]; exact hl)]
    · rw [List.getElem?_eq_none (by rw [wipe_length, so.1]; omega), List.getElem?_eq_none (by rw [wipe_length]; omega)]
  · rw [(wipe_off is σ').2 i hi, (wipe_off is σ).2 i hi, so.2 i hi]
end
section
variable {z : Z} {X : Cx}
/-- within a block nothing is raised -/
abbrev Z.q (z : Z) : Z := { z with W := fun _ _ _ _ => False }
theorem comp_go {t : Tg} {fi : FI} {ft : FT} {fe : FE} {σ : L2.St} {H : Hp} {Q : VK} (h : tE z (fComp fi t ft fe) σ H Q) : tLc (tI z fi) (t.read z.K) (tT z.q ft) (tE z.q fe) t.own σ H Q := by
  obtain ⟨A, ts, hA, hp⟩ := h
  refine ⟨A, ts, hA, ?_⟩
  unfold fComp at hp
  cases ea : fi A with
  | stuck => rw [ea] at hp; exact (show False from hp).elim
  | exc c A1 => rw [ea] at hp; exact hp
  | ok ds A1 =>
    rw [ea] at hp
    simp only [Ou.bind_ok] at hp
    intro J tmp H1 ctmp it h1 Dl hD
    have al : AlAt σ ts := by
      obtain ⟨_, _, _, _, tm, _⟩ := h1.dropn
      exact tm.alAt
    have so : SameOff t.own σ (wipe σ t.own) := wipe_off _ _
    -- what a turn's start bears, what is wanted
    let Post : Ou (List D) → Prop := fun o => match o with
      | .ok es A2 => ∀ H', z.A (wipe σ t.own) A2 ((.ref Dl, .mu es) :: (tmp ++ Ab.clsd ts)) H' → Q (.ref Dl) H'
      | _ => False
    have hpost : Post (compL t ft fe ds [] (Ab.wipeA A1 t.own)) := by
      cases ec : compL t ft fe ds [] (Ab.wipeA A1 t.own) with
      | stuck => rw [ec] at hp; exact (show False from hp).elim
      | exc c A2 => rw [ec] at hp; exact (show False from hp).elim
      | ok es A2 =>
        rw [ec] at hp
        intro H' h'
        have h2 : z.A (wipe σ t.own) A2 ([(.ref Dl, .mu es)] ++ Ab.clsd ts) H' := h'.dropMid
        exact hp _ _ (h2.unblock (fun p m j e => by rw [List.mem_singleton.mp m] at e; cases e) so al)
    have h0 : z.A (wipe σ t.own) (Ab.wipeA A1 t.own) (tmp ++ Ab.clsd ts) H1 := by
      have := h1.block so
      rw [clsd_app ctmp] at this
      exact this
    have cT : Cl (tmp ++ Ab.clsd ts) := ctmp.app clsd_cl
    have cTD : ∀ es, Cl (tmp ++ (V.ref Dl, D.mu es) :: Ab.clsd ts) := fun es p hp => by
      rcases List.mem_append.mp hp with m | m
      · exact ctmp p m
      · rcases List.mem_cons.mp m with m | m
        · intro j e; rw [m] at e; cases e
        · exact clsd_cl p m
    refine ⟨fun i m H' => ∃ A' es, z.A (wipe σ t.own) A' ((.ref Dl, .mu es) :: (tmp ++ Ab.clsd ts)) H' ∧ m = ds.length - i ∧ i ≤ ds.length ∧ Post (compL t ft fe (ds.drop i) es A'), ⟨_, Ab.wipeA A1 t.own, [], Abs.lst (vs := []) (ds := []) rfl rfl h0 hD, rfl, Nat.zero_le _, hpost⟩, fun i m H' hW => ?_⟩
    obtain ⟨A', es, h', rfl, hi, hq⟩ := hW
    have hm : z.A (wipe σ t.own) A' (tmp ++ (.ref Dl, .mu es) :: Ab.clsd ts) H' := h'.perm (by simpa using (List.perm_middle (l₁ := tmp) (a := (V.ref Dl, D.mu es)) (l₂ := Ab.clsd ts)).symm)
    by_cases hlt : i < ds.length
    · refine .inr ⟨it.go _ A' _ H' i hm hlt, fun H2 => ∃ A2 es2, z.A (wipe σ t.own) A2 ((.ref Dl, .mu es2) :: (tmp ++ Ab.clsd ts)) H2 ∧ Post (compL t ft fe (ds.drop (i + 1)) es2 A2), fun H2 ⟨A2, es2, h2, q2⟩ => ⟨ds.length - (i + 1), by omega, A2, es2, h2, rfl, hlt, q2⟩, fun x H2 hy => ?_⟩
      have h2 := it.yld _ A' _ H' i x H2 ds[i] hm (List.getElem?_eq_getElem hlt) hy
      have hdrop : ds.drop i = ds[i] :: ds.drop (i + 1) := List.drop_eq_getElem_cons hlt
      rw [hdrop] at hq
      unfold compL at hq
      cases eset : t.set ds[i] A' with
      | none => rw [eset] at hq; exact (show False from hq).elim
      | some A3 =>
        rw [eset] at hq
        simp only at hq
        refine tg_go h2 (cTD es) eset fun σ3 h3 so3 => ⟨wipe_ext (so.trans so3), A3, _, h3, ?_⟩
        have soB : SameOff t.own σ3 (wipe σ t.own) := so3.symm
        cases et : ft A3 with
        | stuck => rw [et] at hq; exact (show False from hq).elim
        | exc c A4 => rw [et] at hq; exact (show False from hq).elim
        | ok b A4 =>
          rw [et] at hq
          intro H3 h4
          cases b with
          | false =>
            rw [if_neg Bool.false_ne_true]
            have h5 : z.A σ3 A4 ((.ref Dl, .mu es) :: (tmp ++ Ab.clsd ts)) H3 := h4.perm List.perm_middle
            have h6 := h5.block soB
            rw [clsd_id (fun p hp => (List.mem_cons.mp hp).elim (fun e j q => by rw [e] at q; cases q) (cT p))] at h6
            exact ⟨_, es, h6, hq⟩
          | true =>
            rw [if_pos rfl]
            simp only at hq
            refine ⟨A4, _, h4, ?_⟩
            cases ee : fe A4 with
            | stuck => rw [ee] at hq; exact (show False from hq).elim
            | exc c A5 => rw [ee] at hq; exact (show False from hq).elim
            | ok e A5 =>
              rw [ee] at hq
              simp only at hq
              intro y H4 h5
              split at hq
              · rename_i e' A6 ecl
                obtain ⟨h6, n6⟩ := h5.closeD ecl
                split at hq
                · rename_i hl
                  have h7 : z.A σ3 A6 ((y, e') :: (.ref Dl, .mu es) :: (tmp ++ Ab.clsd ts)) H4 := h6.perm (List.Perm.cons _ List.perm_middle)
                  obtain ⟨p, xs, q, hp2, hlen, h8⟩ := h7.app n6
                  cases q
                  have h9 := h8.block soB
                  rw [clsd_id (fun p hp => (List.mem_cons.mp hp).elim (fun e j q => by rw [e] at q; cases q) (cT p))] at h9
                  exact ⟨xs, hp2, by rw [hlen]; exact hl, _, _, h9, hq⟩
                · exact (show False from hq).elim
              · exact (show False from hq).elim
    · have e : i = ds.length := by omega
      subst e
      rw [List.drop_length] at hq
      exact .inl ⟨it.stop _ A' _ H' _ hm (Nat.le_refl _), hq H' h'⟩
theorem qe_comp {elt tg iter : Expr} {ifs : List Expr} {scope : Scope} {own : List (Str × Nat)} {pos : Pos} {t : Tg} {fi : FI} {ft : FT} {fe : FE} (hc : X.calm = true) (hN : X.N.Nodup) (hK : X.K = z.K) (ho : own.map (·.2) = t.own) (hi : PI X tg iter (tI z fi)) (ok : BlkOk X.N X.env.scope scope own)
    (hg : ∀ (s : Shared) (H : Hp) (C : Addr) (cl : List (Str × Addr)) (fp : List Addr), PG (X.blk s H scope (compEnvC scope cl C X.env) fp) tg (t.read X.K)) (ht : ∀ (s : Shared) (H : Hp) (C : Addr) (cl : List (Str × Addr)) (fp : List Addr), PTs (X.blk s H scope (compEnvC scope cl C X.env) fp) ifs (tT z.q ft))
    (he : ∀ (s : Shared) (H : Hp) (C : Addr) (cl : List (Str × Addr)) (fp : List Addr), PE (X.blk s H scope (compEnvC scope cl C X.env) fp) elt (tE z.q fe)) (hs : ∀ x, foldedSetIterable iter X.env x = pure x := by intro _; rfl) :
    PE X (.ListComp elt [⟨tg, iter, ifs, 0⟩] scope pos) (tE z (fComp fi t ft fe)) :=
  PE.imp (pe_lc hc hN hi ok hg ht he hs) fun _ _ _ h => by rw [hK, ho]; exact comp_go h
theorem qs_comp {i : Nat} {y : Str} {py : Pos} {elt tg iter : Expr} {ifs : List Expr} {scope : Scope} {own : List (Str × Nat)} {pos spos : Pos} {t : Tg} {fi : FI} {ft : FT} {fe : FE} (hc : X.calm = true) (hN : X.N.Nodup) (hK : X.K = z.K) (ho : own.map (·.2) = t.own) (hy : X.N[i]? = some y) (hyl : X.env.scope.names.lookup y = some .local)
    (hsw : swapsWith (.ListComp elt [⟨tg, iter, ifs, 0⟩] scope pos) (some (.Name y py)) spos.line X.env = pure true) (hi : PI X tg iter (tI z fi)) (ok : BlkOk X.N X.env.scope scope own)
    (hg : ∀ (s : Shared) (H : Hp) (C : Addr) (cl : List (Str × Addr)) (fp : List Addr), PG (X.blk s H scope (compEnvC scope cl C X.env) fp) tg (t.read X.K)) (ht : ∀ (s : Shared) (H : Hp) (C : Addr) (cl : List (Str × Addr)) (fp : List Addr), PTs (X.blk s H scope (compEnvC scope cl C X.env) fp) ifs (tT z.q ft))
    (he : ∀ (s : Shared) (H : Hp) (C : Addr) (cl : List (Str × Addr)) (fp : List Addr), PE (X.blk s H scope (compEnvC scope cl C X.env) fp) elt (tE z.q fe)) (hs : ∀ x, foldedSetIterable iter X.env x = pure x := by intro _; rfl) :
    PS X (.Assign [.Name y py] (.ListComp elt [⟨tg, iter, ifs, 0⟩] scope pos) spos) (tS z (fAsg i (fComp fi t ft fe))) :=
  PS.imp (ps_setLc hc hN hy hyl hsw hi ok hg ht he hs) fun D σ H h => by
    have := asg_go h
    obtain ⟨A, ts, hA, hp⟩ := this
    rw [hK, ho]
    exact comp_go ⟨A, ts, hA, hp⟩
theorem qs_compF {i : Nat} {y : Str} {py : Pos} {elt tg iter : Expr} {ifs : List Expr} {scope : Scope} {own : List (Str × Nat)} {pos spos : Pos} {t : Tg} {fi : FI} {ft : FT} {fe : FE} (hc : X.calm = true) (hN : X.N.Nodup) (hK : X.K = z.K) (ho : own.map (·.2) = t.own) (hy : X.N[i]? = some y) (hyl : X.env.scope.names.lookup y = some .local)
    (hsw : swapsWith (.ListComp elt [⟨tg, iter, ifs, 0⟩] scope pos) (some (.Name y py)) spos.line X.env = pure true) (hi : PI X tg iter (tI z fi)) (ok : BlkOk X.N X.env.scope scope own)
    (hg : ∀ (s : Shared) (H : Hp) (C : Addr) (cl : List (Str × Addr)) (fp : List Addr), PG (X.blk s H scope (compEnvC scope cl C X.env) fp) tg (t.read X.K)) (ht : ∀ (s : Shared) (H : Hp) (C : Addr) (cl : List (Str × Addr)) (fp : List Addr), PTs (X.blk s H scope (compEnvC scope cl C X.env) fp) ifs (tT z.q ft))
    (he : ∀ (s : Shared) (H : Hp) (C : Addr) (cl : List (Str × Addr)) (fp : List Addr), PE (X.blk s H scope (compEnvC scope cl C X.env) fp) elt (tE z.q fe)) (hs : ∀ x, foldedSetIterable iter X.env x = pure x := by intro _; rfl) :
    PS X (.Assign [.Name y py] (.ListComp elt [⟨tg, iter, ifs, 0⟩] scope pos) spos) (tS z (fAsgF i (fComp fi t ft fe))) :=
  PS.imp (ps_setLc hc hN hy hyl hsw hi ok hg ht he hs) fun D σ H h => by
    have := asgF_go h
    obtain ⟨A, ts, hA, hp⟩ := this
    rw [hK, ho]
    exact comp_go ⟨A, ts, hA, hp⟩
theorem qts_nil : PTs X [] (tT z fYes) := ⟨fun pins s σ H Q I ⟨A, ts, hA, hp⟩ => pts_nil.run pins s σ H Q I (hp _ hA)⟩
theorem qts_one {c : Expr} {ft : FT} (h : PT X c (tT z ft)) : PTs X [c] (tT z ft) := pts_one h
end

/-! ### a def -/
def runF (n : Nat) (fb : FS) (ds : List D) : Ro := match fb (ds.map some ++ List.replicate (n - ds.length) none) with
  | .ok (.ret (.al _)) _ => .stuck
  | .ok (.ret d) _ => .ok d
  | .ok .next _ => .ok .non
  | .ok _ _ => .stuck
  | .exc c _ => .exc c
  | .stuck => .stuck
/-- .. for so many parameters alone -/
def defF (k n : Nat) (fb : FS) (ds : List D) : Ro := if ds.length = k then runF n fb ds else .stuck
theorem defF_len {k n : Nat} {fb : FS} (ds : List D) (h : defF k n fb ds ≠ .stuck) : ds.length = k := by
  unfold defF at h
  split at h
  · assumption
  · exact absurd rfl h
section
variable {P : Program} {w : World} {K : PySem.W.Frag} {mg : Str → Option Value} {base : Heap}
theorem sls_start {G H : Hp} : ∀ {vs : List V} {ds : List D} (m : Nat), Rs K G H vs ds [] → Sls K G H (vs.map some ++ List.replicate m none) (ds.map some ++ List.replicate m none) []
  | [], [], 0, _ => .nil
  | [], [], m + 1, r => by
    rw [List.replicate_succ]
    exact .skip (sls_start m r)
  | v :: vs, d :: ds, m, r => by
    generalize hL : ([] : List Addr) = L0 at r
    cases r with
    | cons r t =>
      obtain ⟨e1, e2⟩ := List.append_eq_nil_iff.mp hL.symm
      subst e1; subst e2
      exact Sls.cons r (sls_start m t)
/-- THE RULE for a def: its body as a term of rules over what is told -/
theorem ok_def {x qual : Str} {st : Stmt} {f : Addr} {fd : FuncData} {N ps : List Str} {k np nn : Nat} {cl : Str → Value} {fb : FS} (hnp : ps.length = np) (hnn : N.length = nn) (F : Fun K x qual st f fd) (S : FnScope N ps (defScope st))
    (hbody : ∀ (cdv : Value) (A : Around) (outer : List Env) (s : Shared) (H : Hp) (E : XK) (B : Bs), Room k (A.deeper (envOfC qual (defScope st) s.heap.objs.size f cdv)) →
      Takes (cxOf (L2.CX P w) P w K mg base N qual (defScope st) f cdv A outer s H E) (fun cls d _ H => E cls d H) →
      PassesOwn (model P w) (cxOf (L2.CX P w) P w K mg base N qual (defScope st) f cdv A outer s H E).A (cxOf (L2.CX P w) P w K mg base N qual (defScope st) f cdv A outer s H E).env (cxOf (L2.CX P w) P w K mg base N qual (defScope st) f cdv A outer s H E).xe →
      PSs (cxOf (L2.CX P w) P w K mg base N qual (defScope st) f cdv A outer s H E) (defBody st) (tS ⟨K, B, cl, fun cls d _ H => E cls d H⟩ fb)) :
    FnOk P w K mg base (L2.CX P w) (k + 1) f fd ps (spF K cl np (defF np nn fb)) := by
  subst hnp; subst hnn
  refine F.okX S (fun vs H Q E h => ?_) (fun cdv A outer s H vs Q E hr h => ?_)
  · obtain ⟨G, ds, _, hl, rs, _⟩ := h
    rw [rs.length]; exact hl
  · obtain ⟨G, ds, gh, hl, rs, h⟩ := h
    refine ⟨_, hbody cdv A outer s H E ⟨G, H, []⟩ hr (takes_of rfl rfl rfl rfl) (passes_of rfl), ds.map some ++ List.replicate (N.length - ds.length) none, [], ?_, (fun _ m => nomatch m), ?_⟩
    · refine ⟨G, [], [], ⟨gh, fun _ _ e => e, fun _ _ _ e => e, fun _ _ _ e => e, (fun _ m => nomatch m)⟩, .nil, ?_, List.nodup_nil, (fun _ m => nomatch m)⟩
      unfold L2.start
      rw [rs.length]
      exact sls_start _ rs.unown
    · unfold defF at h
      rw [if_pos hl] at h
      unfold runF at h
      cases eb : fb (ds.map some ++ List.replicate (N.length - ds.length) none) with
      | stuck => rw [eb] at h; exact (show False from h).elim
      | exc c A' =>
        rw [eb] at h
        intro σ' H' h'
        obtain ⟨G', L1, L2, gd, _⟩ := h'
        exact h H' fun a o e => gd.bh a o (fun m => nomatch m) e
      | ok r A' =>
        rw [eb] at h
        have fin : ∀ {d : D} {v : V} {σ' : L2.St} {H' : Hp}, (∀ v H' G' L, Same H H' → Same G G' → Same G' H' → (∀ a, H a ≠ none → G a = none → G' a = none) → R K G' H' v d L → L.Nodup → (∀ a ∈ L, H a = none) → Q v H') →
            Abs K ⟨G, H, []⟩ σ' A' ((v, d) :: []) H' → (∀ j, d ≠ .al j) → Q v H' := by
          intro d v σ' H' hq h' nd
          obtain ⟨G', L1, L2, gd, tm, sl, ndp, ow⟩ := h'
          cases tm with
          | al _ _ => exact absurd rfl (nd _)
          | cons r t =>
            rename_i La Lb
            refine hq v H' G' La (fun a o e => gd.bh a o (fun m => nomatch m) e) gd.bg gd.gh (fun a e1 e2 => gd.sep a (fun m => nomatch m) e1 e2) r ?_ fun a ha => ?_
            · rw [List.append_assoc] at ndp; exact (List.nodup_append.mp ndp).1
            · exact (ow a (List.mem_append_left _ (List.mem_append_left _ ha))).resolve_right fun m => nomatch m
        cases r with
        | next => exact fun σ' H' h' => fin h h'.pnon fun j q => nomatch q
        | brk => exact (show False from h).elim
        | cont => exact (show False from h).elim
        | ret d =>
          intro v σ' H' h'
          cases d <;> first | exact (show False from h).elim | exact fin h h' fun j q => nomatch q
end
end Ab
end
section
namespace Ab
open PySem PySem.Spec PyProof.Rows L2

/-! ### methods by values that change nothing -/
def fMt (g : D → List D → Sl → Option D) (fo : FE) (fa : FA) : FE := fun A => (fo A).bind fun d A1 => (fa A1).bind fun ds A2 => match g d ds A2 with
  | some r => .ok r A2
  | none => .stuck
/-- what the receiver must be, seen ahead of the arguments -/
def fMtL (g : D → List D → Sl → Option D) (fo : FE) (fa : FA) : FE := fun A => (fo A).bind fun d A1 => match lsOf (see A1 d) with
  | none => .stuck
  | some _ => (fa A1).bind fun ds A2 => match g d ds A2 with
    | some r => .ok r A2
    | none => .stuck
def MtD (z : Z) (r : V → List V → Hp → VK → Prop) (g : D → List D → Sl → Option D) : Prop :=
  ∀ (σ : L2.St) (A : Sl) (ts : Ts) (H : Hp) (v : V) (d : D) (vs : List V) (ds : List D) (d' : D), vs.length = ds.length → z.A σ A (vs.zip ds ++ (v, d) :: ts) H → g d ds A = some d' → ∀ Q : VK, (∀ w H', z.A σ A ((w, d') :: ts) H' → Q w H') → r v vs H Q
section
variable {z : Z} {X : Cx}
theorem mtL_go {r : V → List V → Hp → VK → Prop} {g : D → List D → Sl → Option D} {fo : FE} {fa : FA} (hd : MtD z r g) {σ : L2.St} {H : Hp} {Q : VK} (h : tE z (fMtL g fo fa) σ H Q) : tBM z.K "list" r (tE z fo) (tA z fa) σ H Q := by
  obtain ⟨A, ts, hA, hp⟩ := h
  refine ⟨A, ts, hA, ?_⟩
  unfold fMtL at hp
  cases ea : fo A with
  | stuck => rw [ea] at hp; exact (show False from hp).elim
  | exc c A1 => rw [ea] at hp; exact hp
  | ok d A1 =>
    rw [ea] at hp
    simp only [Ou.bind_ok] at hp
    intro v H1 h1
    split at hp
    · exact (show False from hp).elim
    · rename_i ls els
      obtain ⟨G, L, gh, rr, _⟩ := h1.open (lsOf_al els)
      obtain ⟨a, xs, _, rfl, sq, _⟩ := rr.list gh els
      refine ⟨.inl ⟨rfl, xs, sq⟩, A1, _, h1, ?_⟩
      cases eb : fa A1 with
      | stuck => rw [eb] at hp; exact (show False from hp).elim
      | exc c A2 => rw [eb] at hp; exact fun H' h' => hp H' h'.drop
      | ok ds A2 =>
        rw [eb] at hp
        simp only [Ou.bind_ok] at hp
        intro vs H2 hl h2
        split at hp
        · rename_i d' eg
          exact hd _ _ _ _ _ _ _ _ _ hl h2 eg Q hp
        · exact (show False from hp).elim
/-! x.index(e) -/
def idxOf (x : PyData) : List PyData → Nat → Option Nat
  | [], _ => none
  | y :: ys, k => if PyData.eqv y x = true then some k else idxOf x ys (k + 1)
theorem idxOf_spec {x : PyData} : ∀ {ys : List PyData} {k j : Nat}, idxOf x ys k = some j → ∃ m y, j = k + m ∧ ys[m]? = some y ∧ PyData.eqv y x = true ∧ ∀ (m' : Nat) y', m' < m → ys[m']? = some y' → PyData.eqv y' x = false
  | [], _, _, h => by simp [idxOf] at h
  | y :: ys, k, j, h => by
    unfold idxOf at h
    split at h
    · rename_i e
      cases h
      exact ⟨0, y, rfl, rfl, e, fun m' _ h => absurd h (Nat.not_lt_zero _)⟩
    · rename_i e
      obtain ⟨m, y', h1, h2, h3, h4⟩ := idxOf_spec h
      refine ⟨m + 1, y', by omega, by simpa using h2, h3, fun m' y2 hm hy => ?_⟩
      cases m' with
      | zero =>
        simp at hy; subst hy
        simpa using e
      | succ m' => exact h4 m' y2 (by omega) (by simpa using hy)
def gIndex (d : D) (ds : List D) (A : Sl) : Option D := match ds with
  | [e] => match lsOf (see A d) with
    | some es => if (okD (see A d) && okD (see A e)) = true then (idxOf (dat (see A e)) (dats es) 0).map fun j => .int (j : Nat) else none
    | none => none
  | _ => none
theorem dat_ls {d : D} {ds : List D} (h : lsOf d = some ds) : dat d = .list (dats ds) := by
  cases d <;> simp only [lsOf] at h <;> cases h <;> simp [dat]
theorem md_index : MtD z (rIndexD z.K) gIndex := by
  intro σ A ts H v d vs ds d' hl h hg Q q
  unfold gIndex at hg
  split at hg
  · rename_i e
    obtain ⟨u, rfl⟩ := call1 hl rfl
    have h : z.A σ A ((u, e) :: (v, d) :: ts) H := h
    split at hg
    · rename_i es hs
      by_cases hk : (okD (see A d) && okD (see A e)) = true
      · rw [if_pos hk] at hg
        rw [Bool.and_eq_true] at hk
        cases hi : idxOf (dat (see A e)) (dats es) 0 with
        | none => rw [hi] at hg; cases hg
        | some j =>
          rw [hi] at hg
          cases hg
          obtain ⟨m, y, e1, h2, h3, h4⟩ := idxOf_spec hi
          obtain ⟨G, L, L', gh, r1, r2, f⟩ := h.open2 (okD_al hk.2) (okD_al hk.1)
          obtain ⟨a, xs, _, rfl, _, _⟩ := r2.list gh hs
          have d2 := r2.dp gh (okD_lay hk.1)
          have s2 : SeqAt.shaped (dat (see A d)) = true := hk.1
          rw [dat_ls hs] at d2 s2
          have e2 : j = m := by omega
          subst e2
          exact ⟨a, u, _, _, j, y, rfl, rfl, d2, r1.dp gh (okD_lay hk.2), s2, hk.2, h2, h3, h4, q _ _ (f.known gh (.int _))⟩
      · rw [if_neg hk] at hg; cases hg
    · cases hg
  · cases hg
theorem qe_index {o e : Expr} {fo : FE} {fa : FA} {apos cpos : Pos} (hu : X.A.units + 65 < cLine) (hK : X.K = z.K) (ho : PE X o (tE z fo)) (he : PA X [e] (tA z fa))
    (hbase : attributeBase o "index" X.env (eval o X.env) = eval o X.env := by rfl)
    (hfew : ((backTo cpos (starEach [e] X.env)).all (fun x => !x.1) && (backToKw cpos (keywordEach [] X.env)).all (fun x => x.1.isSome)
      && decide ([e].length + ([] : List Keyword).length + (if ([] : List Keyword).isEmpty then 0 else 1) < 30)) = true := by rfl)
    (hline : (apos.endLine == cpos.line) = true := by rfl) (hs : starEach [e] X.env = (false, eval e X.env) :: starEach [] X.env := by rfl) (hplain : (backTo cpos (starEach [] X.env)).any (·.1) = false := by rfl) :
    PE X (.Call (.Attribute o "index" apos) [e] [] cpos) (tE z (fMtL gIndex fo fa)) :=
  PE.imp (pe_bm PySem.F.plainAttrs_list PySem.F.slot_list_index PySem.F.type_list_index (mt_indexD hu) ho he hbase hfew hline hs hplain) fun _ _ _ h => by rw [hK]; exact mtL_go (by rw [← hK]; rw [hK]; exact md_index) h

/-! ### sugar for printed terms -/
theorem qv (i : Nat) {x : Str} {pos : Pos} (hN : X.N[i]? = some x := by rfl) (hv : Vis X.env.scope x := by first | exact Or.inl rfl | exact Or.inr (Or.inl rfl) | exact Or.inr (Or.inr rfl)) (hd : (x == ("__debug__" : Str)) = false := by decide)
    (hcd : (x == ("__classdict__" : Str)) = false := by decide) : PE X (.Name x pos) (tE z (fVar i)) := qe_var (pv i hN hv hd hcd)
theorem hu64 {k : Nat} {A : Around} (r : Room k A) : A.units + 64 < cLine := r.units
theorem hu65 {k : Nat} {A : Around} (r : Room k A) : A.units + 65 < cLine := by have := r.un; omega
end
/-- the law's end, from its plain function -/
theorem law_sp {K : PySem.W.Frag} {cl : Str → Value} {F : List D → Ro} {H : Hp} {a : Addr} {ns : List Int} (hF : F [.fro (ns.map D.int)] = .ok (.bl true)) (hS : SqL K H a (ns.map V.int)) : spF K cl 1 F [.ref a] H (fun v _ => v = .bl true) fun _ _ _ => False := by
  have allI : ∀ ns : List Int, Rs K H H (ns.map V.int) (ns.map D.int) [] := by
    intro ns
    induction ns with
    | nil => exact .nil
    | cons n ns ih => exact Rs.cons (.int n) ih
  refine ⟨H, [.fro (ns.map D.int)], fun _ _ e => e, rfl, by simpa using Rs.one (.fro hS (allI ns)), ?_⟩
  rw [hF]
  intro v H' G' L _ _ _ _ r _ _
  cases r
  rfl
theorem law_cx {P : Program} {w : World} {H : Hp} {s : Shared} {e : Value} {s' : Shared} (h : L2.CX P w [] H s (fun _ _ _ => False) e s') : False := by
  obtain ⟨_, _, _, _, _, _, _, _, _, _, _, _, h⟩ := h
  exact h
end Ab
end
section
namespace Ab
open PySem PySem.Spec PyProof.Rows L2

/-! ### slices with a step -/
def pickAt {α : Type} (js : List Nat) (xs : List α) : List α := js.filterMap (xs[·]?)
def pickJs (lo hi st : Option Int) (n : Nat) : List Nat := sliceRange (sliceBounds lo hi st n).1 (sliceBounds lo hi st n).2.1 (sliceBounds lo hi st n).2.2
def pickG {α : Type} (xs : List α) (lo hi st : Option Int) : List α := pickAt (pickJs lo hi st xs.length) xs
theorem slicePick_G (xs : List Value) (lo hi st : Option Int) : slicePick xs.toArray lo hi st = (pickG xs lo hi st).toArray := by
  unfold slicePick pickG pickAt pickJs
  simp only [List.size_toArray, List.getElem?_toArray]
theorem valsPick {xs : List V} {us : List Value} (r : Vals xs us) : ∀ js : List Nat, Vals (pickAt js xs) (pickAt js us)
  | [] => .nil
  | j :: js => by
    have ih := valsPick r js
    unfold pickAt at ih ⊢
    cases e : xs[j]? with
    | none => rw [List.filterMap_cons_none e, List.filterMap_cons_none (r.none_of e)]; exact ih
    | some x =>
      obtain ⟨u, h1, h2⟩ := r.get e
      rw [List.filterMap_cons_some e, List.filterMap_cons_some h1]
      exact .cons h2 ih
theorem rsPick {K : PySem.W.Frag} {G H : Hp} {xs : List V} {ds : List D} (r : Rs K G H xs ds []) : ∀ js : List Nat, Rs K G H (pickAt js xs) (pickAt js ds) []
  | [] => .nil
  | j :: js => by
    have ih := rsPick r js
    unfold pickAt at ih ⊢
    cases e : xs[j]? with
    | none =>
      have l := r.length
      have h2 : xs.length ≤ j := List.getElem?_eq_none_iff.mp e
      rw [List.filterMap_cons_none e, List.filterMap_cons_none (List.getElem?_eq_none_iff.mpr (by omega))]
      exact ih
    | some x =>
      obtain ⟨d, Li, h1, h2, h3⟩ := r.get e
      have e3 := List.sublist_nil.mp h3
      subst e3
      rw [List.filterMap_cons_some e, List.filterMap_cons_some h1]
      exact .cons h2 ih
theorem pickG_le (xs : List V) (us : List Value) (r : Vals xs us) (lo hi st : Option Int) : (pickG xs lo hi st).length ≤ us.length := by
  have h := slicePick_size_le us.toArray lo hi st
  rw [slicePick_G, List.size_toArray, List.size_toArray] at h
  have e : (pickG xs lo hi st).length = (pickG us lo hi st).length := by
    have := (valsPick r (pickJs lo hi st us.length)).length
    unfold pickG
    rw [r.length]
    exact this
  omega
def SlR3 (X : Cx) (r : V → Option Int → Option Int → Option Int → Hp → VK → Prop) : Prop :=
  ∀ (pins : List (Addr × Obj)) (s : Shared) (σ : L2.St) (H : Hp) (x : V) (v vl vu vt : Value) (lo hi st : Option Int) (sl : Addr) (Q : VK), Inv X pins σ H s → RelV x v → s.heap.IsSliceOf sl vl vu vt → IsPart vl lo → IsPart vu hi → IsPart vt st → r x lo hi st H Q →
    ∃ T id, typeLookup (.type T) "__getitem__" = pure (some (.builtin id)) ∧ s.TypeIs v T ∧ wpAny (model X.prog X.w) X.A (getItem v (.ref sl)) (EP X pins σ Q) X.xe s
section
variable {X : Cx}
theorem SlR3.or {r r' : V → Option Int → Option Int → Option Int → Hp → VK → Prop} (h : SlR3 X r) (h' : SlR3 X r') : SlR3 X (fun x lo hi st H Q => r x lo hi st H Q ∨ r' x lo hi st H Q) := by
  intro pins s σ H x v vl vu vt lo hi st sl Q I rx hs pl pu pt q
  rcases q with q | q
  · exact h pins s σ H x v vl vu vt lo hi st sl Q I rx hs pl pu pt q
  · exact h' pins s σ H x v vl vu vt lo hi st sl Q I rx hs pl pu pt q
def tSl3 (r : V → Option Int → Option Int → Option Int → Hp → VK → Prop) (te : TE) (tl th tt : TO) : TE := fun σ H Q => te σ H fun x H1 => tl σ H1 fun l H2 => th σ H2 fun u H3 => tt σ H3 fun t H4 => r x l u t H4 Q
theorem pe_slice3 {e st : Expr} {te : TE} {lo hi : Option Expr} {tl th tt : TO} {pos p2 : Pos} {r : V → Option Int → Option Int → Option Int → Hp → VK → Prop} (hr : SlR3 X r) (he : PE X e te) (hl : PO X lo tl) (hu : PO X hi th) (ht : PO X (some st) tt) : PE X (.Subscript e (.Slice lo hi (some st) p2) pos) (tSl3 r te tl th tt) := by
  refine ⟨fun pins s σ H Q I h => ?_⟩
  refine Subscript_ (thn (he.run pins s σ H _ I h) fun v s1 ⟨x, H1, I1, r1, q1⟩ => ?_)
  refine wpAny_Slice (thn (hl.run pins s1 σ H1 _ I1 q1) fun vl s2 ⟨l, H2, I2, pl, q2⟩ => thn (hu.run pins s2 σ H2 _ I2 q2) fun vu s3 ⟨u, H3, I3, pu, q3⟩ => thn (ht.run pins s3 σ H3 _ I3 q3) fun vt s4 ⟨t, H4, I4, pt, q4⟩ => ?_)
  have I5 : Inv X pins σ H4 { s4 with heap := s4.heap.push { cls := .type "slice", data := .fields #[vl, vu, vt] } } := I4.kept (t' := s4.toks) fun b ob q => Heap.get?_push_of_some _ q
  obtain ⟨T, id, hT, hh, hg⟩ := hr pins { s4 with heap := s4.heap.push { cls := .type "slice", data := .fields #[vl, vu, vt] } } σ H4 x v vl vu vt l u t s4.heap.objs.size Q I5 r1 (Heap.IsSliceOf.new ..) pl pu pt q4
  show wpAny (model X.prog X.w) X.A (subscriptTail e (.Slice lo hi (some st) p2) v (.ref s4.heap.objs.size)) (EP X pins σ Q) X.xe { s4 with heap := s4.heap.push { cls := .type "slice", data := .fields #[vl, vu, vt] } }
  exact tail_any (ops := [v, .ref s4.heap.objs.size]) hh hT hg (by with_unfolding_all rfl)
def rSl3L (K : PySem.W.Frag) : V → Option Int → Option Int → Option Int → Hp → VK → Prop := fun x lo hi st H Q => ∃ a xs, x = .ref a ∧ SqL K H a xs ∧ st ≠ some 0 ∧ ∀ p, H p = none → Q (.ref p) (upd H p (.lst (pickG xs lo hi st)))
theorem sl3_list : SlR3 X (rSl3L X.K) := by
  intro pins s σ H x v vl vu vt lo hi st sl Q I rx hs pl pu pt h
  obtain ⟨a, xs, rfl, hx, h0, q⟩ := h
  cases rx
  obtain ⟨its, r, ht, hz⟩ := I.list hx
  have hlen := r.length
  refine ⟨"list", _, slot_list_getitem.lookup, ht.isList.typeIs, ?_⟩
  refine wpAny_getItem_list_slice ht.isList hs pl pu pt h0 ?_ (by rw [List.size_toArray] <;> omega)
  rw [slicePick_G]
  refine ⟨.ref s.heap.objs.size, _, I.laid (t' := s.toks) (o := .lst (pickG xs lo hi st)) (fun b ob q => Heap.get?_push_of_some _ q) (Nat.le_refl _) ?_, rfl, q _ (I.hok.fresh (Nat.le_refl _))⟩
  refine ⟨Nat.le_trans (pickG_le xs its r lo hi st) (hlen ▸ hz), _, 0, ?_, Heap.get?_push_size _ rfl⟩
  unfold pickG
  rw [hlen]
  exact valsPick r _

/-! t[::-1] -/
theorem filterMap_same {α β : Type} {f g : α → Option β} : ∀ {xs : List α}, (∀ x ∈ xs, f x = g x) → xs.filterMap f = xs.filterMap g
  | [], _ => rfl
  | x :: xs, h => by
    rw [List.filterMap_cons, List.filterMap_cons, h x (List.mem_cons_self), filterMap_same fun y hy => h y (List.mem_cons_of_mem _ hy)]
theorem revPick (xs : List Value) : ((List.range xs.length).filterMap fun (m : Nat) => xs.toArray[(((xs.length : Int) - 1) + (m : Int) * (-1)).toNat]?).toArray = xs.reverse.toArray := by
  congr 1
  rw [filterMap_same (g := fun m => xs.reverse[m]?)]
  · have := pick_run xs.reverse.toArray 0 xs.length
    simp only [Nat.zero_add, List.getElem?_toArray] at this
    rw [List.map_id'] at this
    rw [this]
    simp only [List.drop_zero]
    rw [List.take_of_length_le (by simp)]
  · intro m hm
    have h1 : m < xs.length := List.mem_range.mp hm
    rw [List.getElem?_toArray, List.getElem?_reverse h1]
    congr 1
    omega
theorem adjust_rev (n : Nat) : Builtin.Slice.sliceAdjust none none (-1) (n : Int) = ((n : Int) - 1, -1) := by
  unfold Builtin.Slice.sliceAdjust
  simp only [show ((-1 : Int) < 0) from by decide, if_true]
theorem places_rev (n : Nat) : Builtin.Slice.slicePlaces ((n : Int) - 1) (-1) (-1) = n := by
  unfold Builtin.Slice.slicePlaces
  simp only [show ¬ ((-1 : Int) > 0) from by decide, if_false, show (-(-1) : Int) = 1 from by decide, Int.ediv_one]
  split <;> omega
section
variable {prog : Program} {w : World} {A : Around} {E : Value → Shared → Prop} {s : Shared}
theorem sliceApplied_rev {sl : Addr} {t : Tok} {n : Nat} {Q : Int × Int × Nat → Shared → Prop} (hs : s.heap.IsSliceOf sl .none .none (.int (-1) t))
    (h : Q ((n : Int) - 1, -1, n) s) : wpAny (model prog w) A (Builtin.Slice.sliceApplied (.ref sl) (pure (n : Int))) Q E s := by
  obtain ⟨os, hos, hcs, hds⟩ := id hs
  unfold Builtin.Slice.sliceApplied Builtin.Slice.sliceFields
  refine wpAny_bind (wpAny_bind (wpAny_field hos hds (x := .none) rfl (wpAny_bind (wpAny_field hos hds (x := .none) rfl (wpAny_bind (wpAny_field hos hds (x := .int (-1) t) rfl (wpAny_pure ?_)))))))
  refine wpAny_bind (slicePart_int ?_)
  show wpAny _ _ (if ((-1 : Int) == 0) = true then _ else _) _ _ s
  rw [if_neg (by decide)]
  refine wpAny_bind (slicePart_none (wpAny_bind (slicePart_none (wpAny_bind (wpAny_pure ?_)))))
  show wpAny _ _ (match Builtin.Slice.sliceAdjust none none (-1) (n : Int) with | (lo, hi) => pure (lo, (-1 : Int), Builtin.Slice.slicePlaces lo hi (-1))) _ _ s
  rw [adjust_rev n]
  show wpAny _ _ (pure ((n : Int) - 1, (-1 : Int), Builtin.Slice.slicePlaces ((n : Int) - 1) (-1) (-1))) _ _ s
  rw [places_rev]
  exact wpAny_pure h
theorem getItem_tuple_rev {t sl : Addr} {xs : List Value} {tk : Tok} {Q : Value → Shared → Prop} (ht : IsTup s.heap t xs.toArray) (hs : s.heap.IsSliceOf sl .none .none (.int (-1) tk))
    (h : Q (.ref s.heap.objs.size) { s with heap := s.heap.push { cls := .type "tuple", data := .seq xs.reverse.toArray } })
    (hsz : xs.toArray.size ≤ sizeLine) : wpAny (model prog w) A (getItem (.ref t) (.ref sl)) Q E s := by
  have htake : sizeOk (.seq xs.reverse.toArray) := by
    show xs.reverse.toArray.size ≤ sizeLine
    rw [List.size_toArray, List.length_reverse]
    rw [List.size_toArray] at hsz
    exact hsz
  obtain ⟨os, hos, hcs, hds⟩ := id hs
  have hTs : s.TypeIs (.ref sl) "slice" := ⟨os, hos, hcs⟩
  unfold getItem
  try with_reducible refine wpAny_holding ?_
  first | refine wpAny_bind (wpAny_pure ?_) | skip
  refine wpAny_bind (wpAny_sequenceKey ht.typeIs (by decide) ?_)
  refine wpAny_bind (wpAny_callSpecial?_slot (name := Str.ofString "__getitem__") ht.typeIs PyProof.Rows.slot_tuple_getitem
    (wpAny_call_entry PyProof.Rows.slot_tuple_getitem ht.typeIs PyProof.Rows.entry_tuple_getitem ?_ (PyProof.Rows.args_tuple_getitem _ _)))
  show wpAny _ _ (Builtin.Tuple.tupleItemsOf (.ref t) >>= _) _ _ s
  refine wpAny_bind (PyProof.Rows.tupleItemsOf_ ht ?_)
  refine wpAny_bind (wpAny_typeOf hTs ?_)
  rw [if_pos (by decide)]
  refine wpAny_bind (sliceApplied_rev (n := xs.toArray.size) hs ?_)
  have hno : ¬ ((((xs.toArray.size : Int) - 1) == 0 && (-1 : Int) == 1 && xs.toArray.size == xs.toArray.size) = true) := by
    intro q
    rw [Bool.and_eq_true, Bool.and_eq_true] at q
    exact absurd q.1.2 (by decide)
  show wpAny _ _ (if (((xs.toArray.size : Int) - 1) == 0 && (-1 : Int) == 1 && xs.toArray.size == xs.toArray.size) = true then _ else _) _ _ s
  rw [if_neg hno, List.size_toArray, revPick]
  first
    | exact wpAny_bind (m := Builtin.Tuple.tupleExact _) (wpAny_newObj_type (wpAny_pure ⟨_, rfl, wpAny_pure h⟩) htake)
    | exact wpAny_bind (m := Builtin.Tuple.tupleExact _) (wpAny_newObj_type (wpAny_bind (wpAny_pure (wpAny_pure ⟨_, rfl, wpAny_pure h⟩))) htake)
    | exact wpAny_bind (wpAny_bind (m := Builtin.Tuple.tupleExact _) (wpAny_newObj_type (wpAny_pure (wpAny_pure ⟨_, rfl, wpAny_pure h⟩)) htake))
    | exact wpAny_bind (wpAny_bind (m := Builtin.Tuple.tupleExact _) (wpAny_newObj_type (wpAny_pure ⟨_, rfl, wpAny_pure h⟩) htake))
end
theorem valsRev : ∀ {xs : List V} {us : List Value}, Vals xs us → Vals xs.reverse us.reverse
  | _, _, .nil => .nil
  | _, _, .cons r t => by rw [List.reverse_cons, List.reverse_cons]; exact Vals.append (valsRev t) (.cons r .nil)
def rSl3T (K : PySem.W.Frag) : V → Option Int → Option Int → Option Int → Hp → VK → Prop := fun x lo hi st H Q => ∃ a xs, x = .ref a ∧ SqT K H a xs ∧ lo = none ∧ hi = none ∧ st = some (-1) ∧ ∀ p, H p = none → Q (.ref p) (upd H p (.tup xs.reverse))
theorem sl3_tup : SlR3 X (rSl3T X.K) := by
  intro pins s σ H x v vl vu vt lo hi st sl Q I rx hs pl pu pt h
  obtain ⟨a, xs, rfl, hx, rfl, rfl, rfl, q⟩ := h
  cases rx
  cases pl
  cases pu
  cases pt
  obtain ⟨its, r, ht, hz⟩ := I.tuple hx
  have hlen := r.length
  refine ⟨"tuple", _, PyProof.Rows.slot_tuple_getitem.lookup, ht.typeIs, ?_⟩
  refine getItem_tuple_rev ht hs ?_ (by rw [List.size_toArray] <;> omega)
  refine ⟨.ref s.heap.objs.size, _, I.laid (t' := s.toks) (o := .tup xs.reverse) (fun b ob q => Heap.get?_push_of_some _ q) (Nat.le_refl _) ?_, rfl, q _ (I.hok.fresh (Nat.le_refl _))⟩
  exact ⟨by rw [List.length_reverse]; exact hz, _, valsRev r, IsTup.new _ _⟩
theorem rsRev {K : PySem.W.Frag} {G H : Hp} : ∀ {xs : List V} {ds : List D}, Rs K G H xs ds [] → Rs K G H xs.reverse ds.reverse [] := by
  intro xs ds r
  have h := r.length
  have e1 : xs.reverse = pickAt (List.range xs.length).reverse xs := by
    unfold pickAt
    rw [List.filterMap_reverse]
    congr 1
    have := pick_run xs.toArray 0 xs.length
    simp only [Nat.zero_add, List.getElem?_toArray] at this
    rw [List.map_id'] at this
    rw [this]
    simp
  have e2 : ds.reverse = pickAt (List.range xs.length).reverse ds := by
    unfold pickAt
    rw [List.filterMap_reverse]
    congr 1
    have := pick_run ds.toArray 0 xs.length
    simp only [Nat.zero_add, List.getElem?_toArray] at this
    rw [List.map_id'] at this
    rw [this, h]
    simp
  rw [e1, e2]
  exact rsPick r _
def gSlS (d : D) (lo hi st : Option Int) (A : Sl) : Option D := match see A d with
  | .tup ds => if isFs ds = true ∧ lo = none ∧ hi = none ∧ st = some (-1) then some (.tup ds.reverse) else none
  | s => match lsOf s with
    | some ds => if isFs ds = true ∧ st ≠ some 0 then some (.mu (pickG ds lo hi st)) else none
    | none => none
def fSlS (fe : FE) (fl fh ft : FO) : FE := fun A => (fe A).bind fun d A1 => (fl A1).bind fun l A2 => (fh A2).bind fun h A3 => (ft A3).bind fun t A4 => match gSlS d l h t A4 with
  | some r => .ok r A4
  | none => .stuck
def rSl3 (K : PySem.W.Frag) : V → Option Int → Option Int → Option Int → Hp → VK → Prop := fun x lo hi st H Q => rSl3L K x lo hi st H Q ∨ rSl3T K x lo hi st H Q
theorem sl3_any : SlR3 X (rSl3 X.K) := sl3_list.or sl3_tup
end
section
variable {z : Z} {X : Cx}
theorem sld3 {σ : L2.St} {A : Sl} {ts : Ts} {H : Hp} {v : V} {d d' : D} {lo hi st : Option Int} (h : z.A σ A ((v, d) :: ts) H) (hg : gSlS d lo hi st A = some d') (Q : VK) (q : ∀ w H', z.A σ A ((w, d') :: ts) H' → Q w H') : rSl3 z.K v lo hi st H Q := by
  unfold gSlS at hg
  split at hg
  · rename_i ds hx
    split at hg
    · rename_i hl
      obtain ⟨hl, rfl, rfl, rfl⟩ := hl
      cases hg
      obtain ⟨G, L, gh, r, f⟩ := h.open (fun j z => by rw [z] at hx; cases hx)
      rw [hx] at r
      cases r with | tup q1 s1 =>
      have e1 := s1.isFs hl
      subst e1
      exact .inr ⟨_, _, rfl, .inl (.inl (gh _ _ q1)), rfl, rfl, rfl, fun p hp => q _ _ (f.tup gh (rsRev s1) hp)⟩
    · cases hg
  · split at hg
    · rename_i ds hs
      split at hg
      · rename_i hl
        obtain ⟨hl, h0⟩ := hl
        cases hg
        obtain ⟨G, L, gh, r, f⟩ := h.open (lsOf_al hs)
        obtain ⟨a, xs, M, rfl, k1, s1⟩ := r.list gh hs
        have e1 := s1.isFs hl
        subst e1
        refine .inl ⟨a, xs, rfl, k1, h0, fun p hp => q _ _ (f.lst gh ?_ hp)⟩
        unfold pickG
        rw [s1.length]
        exact rsPick s1 _
      · cases hg
    · cases hg
theorem qe_sliceS {e st : Expr} {lo hi : Option Expr} {fe : FE} {fl fh ft : FO} {pos p2 : Pos} (hK : X.K = z.K) (he : PE X e (tE z fe)) (hl : PO X lo (tO z fl)) (hh : PO X hi (tO z fh)) (ht : PO X (some st) (tO z ft)) : PE X (.Subscript e (.Slice lo hi (some st) p2) pos) (tE z (fSlS fe fl fh ft)) := by
  refine PE.imp (pe_slice3 sl3_any he hl hh ht) fun σ H Q ⟨A, ts, ha, hp⟩ => ⟨A, ts, ha, ?_⟩
  unfold fSlS at hp
  cases ea : fe A with
  | stuck => rw [ea] at hp; exact hp.elim
  | exc c A1 => rw [ea] at hp; exact hp
  | ok d A1 =>
    rw [ea] at hp
    simp only [Ou.bind_ok] at hp
    intro v H1 h1
    refine ⟨A1, (v, d) :: ts, h1, ?_⟩
    cases eb : fl A1 with
    | stuck => rw [eb] at hp; exact hp.elim
    | exc c A2 => rw [eb] at hp; exact fun H' h' => hp H' h'.drop
    | ok l A2 =>
      rw [eb] at hp
      simp only [Ou.bind_ok] at hp
      intro H2 h2
      refine ⟨A2, (v, d) :: ts, h2, ?_⟩
      cases ec : fh A2 with
      | stuck => rw [ec] at hp; exact hp.elim
      | exc c A3 => rw [ec] at hp; exact fun H' h' => hp H' h'.drop
      | ok hh A3 =>
        rw [ec] at hp
        simp only [Ou.bind_ok] at hp
        intro H3 h3
        refine ⟨A3, (v, d) :: ts, h3, ?_⟩
        cases ed : ft A3 with
        | stuck => rw [ed] at hp; exact hp.elim
        | exc c A4 => rw [ed] at hp; exact fun H' h' => hp H' h'.drop
        | ok tt A4 =>
          rw [ed] at hp
          simp only [Ou.bind_ok] at hp
          intro H4 h4
          cases eg : gSlS d l hh tt A4 with
          | none => rw [eg] at hp; exact hp.elim
          | some d' =>
            rw [eg] at hp
            rw [hK]
            exact sld3 h4 eg Q hp
end
end Ab
end
section
namespace Ab
open PySem PySem.Spec PyProof.Rows L2

/-! ### a list inside an owned list, changed through another name -/
section
variable {K : PySem.W.Frag} {B : Bs} {G H : Hp} {σ : L2.St} {A : Sl} {ts : Ts}
theorem Rs.pick : ∀ {vs : List V} {ds : List D} {L : List Addr} {j : Nat} {es : List D}, Rs K G H vs ds L → ds[j]? = some (.mu es) → ∃ p ws Le N, vs[j]? = some (.ref p) ∧ H p = some (.lst ws) ∧ G p = none ∧ Rs K G H ws es Le ∧ L.Perm ((p :: Le) ++ N) ∧
    (∀ H' e' L', R K G H' (.ref p) e' L' → (∀ a ∈ N, H' a = H a ∧ G a = none) → ∃ M, Rs K G H' vs (ds.set j e') M ∧ M.Perm (L' ++ N))
  | _, _, _, _, _, .nil, e => by simp at e
  | _, _, _, 0, es, .cons (L := La) (L' := Lb) r t, e => by
    simp at e
    subst e
    cases r with
    | mu q gp rs => exact ⟨_, _, _, Lb, rfl, q, gp, rs, .refl _, fun H' e' L' r' h => ⟨L' ++ Lb, .cons r' (t.mono (fun _ _ e => e) h), .refl _⟩⟩
  | _, _, _, j + 1, es, .cons (L := La) (L' := Lb) r t, e => by
    obtain ⟨p, ws, Le, N, h1, h2, h3, h4, h5, h6⟩ := Rs.pick (j := j) t (by simpa using e)
    refine ⟨p, ws, Le, La ++ N, by simpa using h1, h2, h3, h4, ?_, fun H' e' L' r' h => ?_⟩
    · refine (List.Perm.append_left _ h5).trans ?_
      rw [← List.append_assoc, ← List.append_assoc]
      exact List.Perm.append_right _ List.perm_append_comm
    · obtain ⟨M, m1, m2⟩ := h6 H' e' L' r' fun a ha => h a (List.mem_append_right _ ha)
      refine ⟨La ++ M, .cons (r.mono (fun _ _ e => e) fun a ha => h a (List.mem_append_left _ ha)) m1, ?_⟩
      refine (List.Perm.append_left _ m2).trans ?_
      rw [← List.append_assoc, ← List.append_assoc]
      exact List.Perm.append_right _ List.perm_append_comm
theorem Abs.nest {v : V} {ds es : List D} {j : Nat} (h : Abs K B σ A ((v, .mu ds) :: ts) H) (hj : ds[j]? = some (.mu es)) (he : isFs es = true) : ∃ q vs p ws G, v = .ref q ∧ H q = some (.lst vs) ∧ vs.length = ds.length ∧ vs[j]? = some (.ref p) ∧ H p = some (.lst ws) ∧ Rs K G H ws es [] ∧
    ∀ (y : V) (e' : D) (u : Nat), (∀ G H, R K G H y e' []) → Abs K B σ A ((v, .mu (ds.set j (.mu (es.set u e')))) :: ts) (upd H p (.lst (ws.set u y))) := by
  obtain ⟨G, L1, L2, gd, tm, sl, nd, ow⟩ := h
  cases tm with
  | cons r2 t =>
    rename_i Lp Lt
    cases r2 with
    | mu hq gp rs =>
      rename_i q vs L
      obtain ⟨p, ws, Le, N, h1, h2, h3, h4, h5, h6⟩ := rs.pick hj
      have e0 := h4.isFs he
      subst e0
      refine ⟨q, vs, p, ws, G, rfl, hq, rs.length, h1, h2, h4, fun y e' u hr => ?_⟩
      have pm : L.Perm (p :: N) := by simpa using h5
      have pp : (((q :: L) ++ Lt) ++ L2).Perm (((q :: p :: N) ++ Lt) ++ L2) := List.Perm.append_right _ (List.Perm.append_right _ (List.Perm.cons _ pm))
      have nd2 := nodup_perm pp nd
      have ow2 : ∀ a ∈ ((q :: p :: N) ++ Lt) ++ L2, Own B a := fun a ha => ow a (pp.mem_iff.mpr ha)
      have qn : q ∉ (p :: N ++ Lt) ++ L2 := (List.nodup_cons.mp nd2).1
      have pn : p ∉ (N ++ Lt) ++ L2 := (List.nodup_cons.mp (List.nodup_cons.mp nd2).2).1
      have qp : q ≠ p := fun z => qn (by rw [z]; simp)
      have old : ∀ a ∈ (N ++ Lt) ++ L2, G a = none := fun a ha => by
        rcases List.mem_append.mp ha with m | m
        · rcases List.mem_append.mp m with m | m
          · exact (rs.own a (pm.mem_iff.mpr (List.mem_cons_of_mem _ m))).1
          · exact (t.own a m).1
        · exact (sl.own a m).1
      have keep : ∀ a ∈ (N ++ Lt) ++ L2, upd H p (.lst (ws.set u y)) a = H a ∧ G a = none := fun a ha => ⟨upd_ne (fun z => pn (by rw [← z]; exact ha)), old a ha⟩
      have wr : Rs K G (upd H p (.lst (ws.set u y))) (ws.set u y) (es.set u e') [] := by
        have h7 : Rs K G (upd H p (.lst (ws.set u y))) ws es [] := h4.mono (fun _ _ e => e) fun a ha => nomatch ha
        by_cases hu : u < es.length
        · obtain ⟨M, N', m1, m2, m3⟩ := Rs.setAt (j := u) h7 (hr G _) hu
          have n0 := List.sublist_nil.mp m3
          subst n0
          have m0 : M = [] := by simpa using m2
          subst m0
          exact m1
        · have e1 : ws.set u y = ws := List.set_eq_of_length_le (by rw [h4.length]; omega)
          have e2 : es.set u e' = es := List.set_eq_of_length_le (by omega)
          rw [e1] at h7 ⊢
          rw [e2]
          exact h7
      obtain ⟨M, m1, m2⟩ := h6 (upd H p (.lst (ws.set u y))) (.mu (es.set u e')) [p] (.mu upd_same h3 wr) fun a ha => keep a (by simp [ha])
      have ownp : Own B p := ow2 p (by simp)
      have pq : (((q :: M) ++ Lt) ++ L2).Perm (((q :: p :: N) ++ Lt) ++ L2) := List.Perm.append_right _ (List.Perm.append_right _ (List.Perm.cons _ (by simpa using m2)))
      refine ⟨G, (q :: M) ++ Lt, L2, ⟨fun a o h => ?_, gd.bg, fun a o hx h => ?_, gd.sep, fun a ha => ?_⟩, .cons (.mu ((upd_ne qp).trans hq) gp m1) (t.mono (fun _ _ e => e) fun a ha => keep a (by simp [ha])), sl.mono (fun _ _ e => e) fun a ha => keep a (by simp [ha]), nodup_perm pq.symm nd2, fun a ha => ow2 a (pq.mem_iff.mp ha)⟩
      · have : a ≠ p := fun z => by rw [z, h3] at h; cases h
        rw [upd_ne this]; exact gd.gh a o h
      · have : a ≠ p := fun z => by
          subst z
          rcases ownp with n | n
          · rw [n] at h; cases h
          · exact hx n
        rw [upd_ne this]; exact gd.bh a o hx h
      · by_cases z : a = p
        · rw [z, upd_same]; exact fun z => nomatch z
        · rw [upd_ne z]; exact gd.alive a ha
/-- a slot of which nothing is told may hold anything -/
theorem Abs.anySlot {i : Nat} {o : Option V} (h : Abs K B σ A ts H) (e : A[i]? = some none) (c : Cl ts) : Abs K B (σ.set i o) A ts H := by
  obtain ⟨G, L1, L2, gd, tm, sl, nd, ow⟩ := h
  exact ⟨G, L1, L2, gd, tm.any c, sl.any (.inl e), nd, ow⟩
theorem Abs.litInt {k : Int} (h : Abs K B σ A ts H) : Abs K B σ A ((.int k, .int k) :: ts) H := by
  obtain ⟨G, L1, L2, gd, tm, sl, nd, ow⟩ := h
  exact ⟨G, [] ++ L1, L2, gd, .cons (.int k) tm, sl, nd, ow⟩
theorem Abs.lens (h : Abs K B σ A ts H) : σ.length = A.length := by
  obtain ⟨G, L1, L2, gd, tm, sl, nd, ow⟩ := h
  exact sl.len
end
/-- b = xs[e]; a = m // c % len(ls); b[a] = 1 - b[a] -/
def fBag (i b a n l : Nat) (c : Int) (fe1 : FE) : FS := fun A => match slotL i A with
  | none => .stuck
  | some _ => (fe1 A).bind fun k A1 => match k, slotL i A1, A1[n]?, A1[l]? with
    | .int k, some ds, some (some (.int m)), some (some (.lst ls)) => match ixN ds.length k with
      | some j => match ds[j]? with
        | some (.mu es) => if isFs es = true ∧ cDiv m c = true ∧ 0 < ls.length ∧ b < A1.length ∧ a < A1.length then match ixN es.length (m / c % (ls.length : Int)) with
            | some u => match es[u]? with
              | some (.int w) => .ok .next (((A1.set i (some (.mu (ds.set j (.mu (es.set u (.int (1 - w)))))))).set b none).set a (some (.int (m / c % (ls.length : Int)))))
              | _ => .stuck
            | none => .stuck
          else .stuck
        | _ => .stuck
      | none => .stuck
    | _, _, _, _ => .stuck
section
variable {z : Z} {X : Cx} {fe : FE}
def rLenX (K : PySem.W.Frag) : List V → Hp → VK → Prop := fun xs H Q => ∃ x n, xs = [x] ∧ LenV K x H n ∧ Q (.int n) H
theorem bag_go {i b a n l : Nat} {c : Int} {D : Ends} {σ : L2.St} {H : Hp} (hd : n ≠ b ∧ l ≠ b ∧ a ≠ b ∧ i ≠ b ∧ i ≠ a) (h : tS z (fBag i b a n l c fe) D σ H) :
    tSeq (tAsg (tOp (rIxL z.K) (tVar i) (tE z fe)) (gName b)) (tSeq (tAsg (tOp (rI (fun _ j => 0 < j) fun i j => .int (i % j)) (tOp (rI CDivW fun i j => .int (i / j)) (tVar n) (L2.tC (.int c))) (tCB (rLenX z.K) (L2.tCons (tVar l) L2.tNil))) (gName a))
      (tAsg (tOp (rI0 fun i j => .int (i - j)) (L2.tC (.int 1)) (tOp (rIxL z.K) (tVar b) (tVar a))) (gSub (tVar b) (tVar a) rSetL))) D σ H := by
  obtain ⟨A, ts, hA, cl, hp⟩ := h
  unfold fBag at hp
  split at hp
  · exact (pS_stuck hp).elim
  · rename_i ds0 e0
    obtain ⟨p0, xs0, ev, hp0, _, h1⟩ := hA.slotAl (slotL_get e0)
    refine ⟨.ref p0, ev, A, (.ref p0, .al i) :: ts, h1, ?_⟩
    cases ea : fe A with
    | stuck => rw [ea] at hp; exact (pS_stuck hp).elim
    | exc c A1 => rw [ea] at hp; exact fun H' h' => hp σ H' h'.drop
    | ok k A1 =>
      rw [ea] at hp
      simp only [Ou.bind_ok] at hp
      intro y H1 h2
      split at hp
      · rename_i k ds m ls es_ en el
        split at hp
        · rename_i j ej
          split at hp
          · rename_i es ed
            split at hp
            · rename_i hc
              obtain ⟨he, hdv, hls, hb, ha⟩ := hc
              split at hp
              · rename_i u eu
                split at hp
                · rename_i w ew
                  have ey := h2.int
                  subst ey
                  have h3 := h2.drop
                  have hA1 := h3.drop
                  have h4 := h3.move (slotL_get es_)
                  obtain ⟨q, vs, p, ws, G, eq, hq, hl, hv, hw, rws, fin⟩ := h4.nest ed he
                  cases eq
                  obtain ⟨x, Li, hx, rx, _⟩ := rws.getD ew
                  cases rx
                  obtain ⟨vn, en1, h5⟩ := hA1.var en
                  rw [if_pos (by simp [isF])] at h5
                  have e5 := h5.int
                  subst e5
                  obtain ⟨vl, el1, h6⟩ := hA1.var el
                  rw [if_pos (by simp [isF])] at h6
                  obtain ⟨G6, L6, g6, r6, _⟩ := h6.open (d := .lst ls) (fun j q => nomatch q)
                  have hsl := hA1.lens
                  obtain ⟨tl, xl, _, rfl, hxl, rxl⟩ := R.list g6 r6 rfl
                  unfold cDiv at hdv
                  rw [Bool.and_eq_true, decide_eq_true_iff, decide_eq_true_iff] at hdv
                  refine ⟨p0, vs, k, .ref p, rfl, rfl, .inl (.inl hq), ?_, ?_⟩
                  · unfold atI
                    rw [hl, ej]
                    exact hv
                  refine ⟨.int m, ?_, m, c, rfl, rfl, wide_div hdv.1 hdv.2 (by decide) (by decide), .ref tl, ?_, .ref tl, ls.length, rfl, ?_, m / c, ls.length, rfl, rfl, by omega, ?_⟩
                  · rw [List.getElem?_set_ne (Ne.symm hd.1)]; exact en1
                  · rw [List.getElem?_set_ne (Ne.symm hd.2.1)]; exact el1
                  · exact .inl ⟨xl, hxl, rxl.length.symm⟩
                  have gb : (List.set (List.set σ b (some (V.ref p))) a (some (V.int (m / c % (ls.length : Int)))))[b]? = some (some (.ref p)) := by
                    rw [List.getElem?_set_ne hd.2.2.1, List.getElem?_set_self (by omega)]
                  have ga : (List.set (List.set σ b (some (V.ref p))) a (some (V.int (m / c % (ls.length : Int)))))[a]? = some (some (.int (m / c % (ls.length : Int)))) := by
                    rw [List.getElem?_set_self (by rw [List.length_set]; omega)]
                  have ewl : ixN ws.length (m / c % (ls.length : Int)) = some u := by rw [rws.length]; exact eu
                  refine ⟨.ref p, gb, .int _, ga, p, ws, _, .int w, rfl, rfl, .inl (.inl hw), ?_, 1, w, rfl, rfl, .ref p, gb, .int _, ga, p, ws, _, u, rfl, rfl, hw, ewl, ?_⟩
                  · unfold atI
                    rw [ewl]
                    exact hx
                  have h7 := fin (.int (1 - w)) (.int (1 - w)) u fun _ _ => .int _
                  have h8 := h7.put (fun j q => nomatch q) (set_none_get (slotL_get es_)) ev
                  rw [List.set_set] at h8
                  have h9 := (h8.forget (i := b)).anySlot (i := b) (o := some (.ref p)) (by simp [hb]) cl
                  have h10 := (h9.litInt (k := m / c % (ls.length : Int))).set (i := a) (fun j q => nomatch q) cl
                  exact hp _ _ h10
                · exact (pS_stuck hp).elim
              · exact (pS_stuck hp).elim
            · exact (pS_stuck hp).elim
          · exact (pS_stuck hp).elim
        · exact (pS_stuck hp).elim
      · exact (pS_stuck hp).elim
theorem qs_bag {i b a n l : Nat} {c : Int} {s1 s2 s3 : Stmt} (hK : X.K = z.K) (hd : n ≠ b ∧ l ≠ b ∧ a ≠ b ∧ i ≠ b ∧ i ≠ a) (h1 : PS X s1 (tAsg (tOp (rIxL X.K) (tVar i) (tE z fe)) (gName b)))
    (h2 : PS X s2 (tAsg (tOp (rI (fun _ j => 0 < j) fun i j => .int (i % j)) (tOp (rI CDivW fun i j => .int (i / j)) (tVar n) (L2.tC (.int c))) (tCB (rLenX X.K) (L2.tCons (tVar l) L2.tNil))) (gName a)))
    (h3 : PS X s3 (tAsg (tOp (rI0 fun i j => .int (i - j)) (L2.tC (.int 1)) (tOp (rIxL X.K) (tVar b) (tVar a))) (gSub (tVar b) (tVar a) rSetL))) : PSs X [s1, s2, s3] (tS z (fBag i b a n l c fe)) :=
  PSs.imp (pss_cons h1 (pss_cons h2 (pss_one h3))) fun D σ H h => by rw [hK]; exact bag_go hd h
end
end Ab
end
section
/-! plain reasoning over told values: no program in sight -/
namespace Ab
open PySem L2

/-! ### steps -/
section
variable {A A1 A2 : Sl} {f g : FS} {fe fa fb : FE} {ft : FT} {i : Nat} {d e : D}
theorem seq_next (h : f A = .ok .next A1) : fSeq f g A = g A1 := by unfold fSeq; rw [h]; rfl
theorem seq_n {o : Ou Fl} (h : f A = .ok .next A1) (k : g A1 = o) : fSeq f g A = o := (seq_next h).trans k
theorem seq_ret {v : D} (h : f A = .ok (.ret v) A1) : fSeq f g A = .ok (.ret v) A1 := by unfold fSeq; rw [h]; rfl
theorem seq_cont (h : f A = .ok .cont A1) : fSeq f g A = .ok .cont A1 := by unfold fSeq; rw [h]; rfl
theorem seq_exc {c : Str} (h : f A = .exc c A1) : fSeq f g A = .exc c A1 := by unfold fSeq; rw [h]; rfl
theorem fif_t (h : ft A = .ok true A1) : fIf ft f g A = f A1 := by unfold fIf; rw [h]; rfl
theorem fif_f (h : ft A = .ok false A1) : fIf ft f g A = g A1 := by unfold fIf; rw [h]; rfl
end
theorem see_isF {A : Sl} {d : D} (h : isF d = true) : see A d = d := by
  cases d <;> first | rfl | (simp [isF] at h)
/-! ### multiplication's bounds -/
theorem cMul_l {a b : Int} (h : -18446744073709551616 < a ∧ a < 18446744073709551616) : cMul a b = true := by
  unfold cMul
  rw [Bool.or_eq_true, decide_eq_true_iff]
  left
  have : (2 : Nat) ^ 64 = 18446744073709551616 := by decide
  omega
theorem cMul_r {a b : Int} (h : -18446744073709551616 < b ∧ b < 18446744073709551616) : cMul a b = true := by
  unfold cMul
  rw [Bool.or_eq_true, decide_eq_true_iff, decide_eq_true_iff]
  right
  have : (2 : Nat) ^ 64 = 18446744073709551616 := by decide
  omega
/-! ### loops -/
theorem forL_ind {t : Tg} {fb : FS} (I : Nat → Sl → Prop) : ∀ (xs : List D) (k : Nat) (A : Sl), I k A → (∀ j d A, xs[j]? = some d → I (k + j) A → ∃ A1 A2, t.set d A = some A1 ∧ (fb A1 = .ok .next A2 ∨ fb A1 = .ok .cont A2) ∧ I (k + j + 1) A2) →
    ∃ A', forL t fb xs A = .ok .next A' ∧ I (k + xs.length) A'
  | [], k, A, h0, _ => ⟨A, rfl, h0⟩
  | x :: xs, k, A, h0, hs => by
    obtain ⟨A1, A2, h1, h2, h3⟩ := hs 0 x A rfl h0
    obtain ⟨A', h4, h5⟩ := forL_ind I xs (k + 1) A2 h3 fun j d A e h => by
      have := hs (j + 1) d A (by simpa using e) (by rw [show k + (j + 1) = k + 1 + j by omega]; exact h)
      rw [show k + (j + 1) + 1 = k + 1 + j + 1 by omega] at this
      exact this
    refine ⟨A', ?_, by rw [List.length_cons, show k + (xs.length + 1) = k + 1 + xs.length by omega]; exact h5⟩
    unfold forL
    simp only [h1]
    rcases h2 with h2 | h2 <;> simp only [h2] <;> exact h4
/-- a for whose turns all go on -/
theorem for_ind {fi : FI} {t : Tg} {fb : FS} {A A0 : Sl} {xs : List D} (I : Nat → Sl → Prop) (hi : fi A = .ok xs A0) (h0 : I 0 A0) (hs : ∀ j d A, xs[j]? = some d → I j A → ∃ A1 A2, t.set d A = some A1 ∧ (fb A1 = .ok .next A2 ∨ fb A1 = .ok .cont A2) ∧ I (j + 1) A2) :
    ∃ A', fFor fi t fb A = .ok .next A' ∧ I xs.length A' := by
  obtain ⟨A', h1, h2⟩ := forL_ind (t := t) (fb := fb) I xs 0 A0 h0 fun j d A e h => by
    rw [Nat.zero_add] at h ⊢
    exact hs j d A e h
  refine ⟨A', ?_, by simpa using h2⟩
  unfold fFor
  rw [hi]
  exact h1
/-- a comprehension whose turns are all plain -/
theorem compL_ok {t : Tg} {ft : FT} {fe : FE} {A : Sl} (p : D → Bool) (g : D → D) : ∀ (ds acc : List D), acc.length + ds.length ≤ sizeLine → (∀ d ∈ ds, ∃ A1, t.set d A = some A1 ∧ ft A1 = .ok (p d) A1 ∧ (p d = true → fe A1 = .ok (g d) A1 ∧ ∀ i, g d ≠ .al i) ∧ wipeA A1 t.own = A) →
    compL t ft fe ds acc A = .ok (acc ++ (ds.filter p).map g) A
  | [], acc, _, _ => by simp [compL]
  | d :: ds, acc, hl, h => by
    obtain ⟨A1, h1, h2, h3, h4⟩ := h d List.mem_cons_self
    have ih := fun acc' h' => compL_ok p g ds acc' h' (fun d' m => h d' (List.mem_cons_of_mem _ m))
    rw [List.length_cons] at hl
    unfold compL
    rw [h1]
    simp only [h2]
    cases hp : p d with
    | false =>
      simp only [h4]
      rw [ih acc (by omega), List.filter_cons_of_neg (by simp [hp])]
    | true =>
      obtain ⟨h5, h6⟩ := h3 hp
      have ec : closeD (g d) A1 = some (g d, A1) := by
        unfold closeD
        cases hg : g d <;> first | rfl | exact absurd hg (h6 _)
      simp only [h5, ec, h4]
      rw [if_pos (by omega), ih _ (by simp; omega), List.filter_cons_of_pos hp, List.map_cons, List.append_assoc]
      rfl
theorem comp_ok {fi : FI} {t : Tg} {ft : FT} {fe : FE} {A A0 : Sl} {xs : List D} (p : D → Bool) (g : D → D) (hi : fi A = .ok xs A0) (hl : xs.length ≤ sizeLine) (h : ∀ d ∈ xs, ∃ A1, t.set d (wipeA A0 t.own) = some A1 ∧ ft A1 = .ok (p d) A1 ∧ (p d = true → fe A1 = .ok (g d) A1 ∧ ∀ i, g d ≠ .al i) ∧ wipeA A1 t.own = wipeA A0 t.own) :
    fComp fi t ft fe A = .ok (.mu ((xs.filter p).map g)) (wipeA (wipeA A0 t.own) t.own) := by
  unfold fComp
  rw [hi]
  simp only [Ou.bind_ok]
  rw [compL_ok p g xs [] (by simpa using hl) h]
  simp
/-! ### evaluation, rule by rule -/
mutual
theorem fz_isF : ∀ {d : D}, isF d = true → fz d = d
  | .tup ds, h => by rw [isF] at h; rw [fz, fzs_isFs h]
  | .non, _ => by rw [fz]
  | .bl _, _ => by rw [fz]
  | .int _, _ => by rw [fz]
  | .str _, _ => by rw [fz]
  | .ty _, _ => by rw [fz]
  | .lst _, _ => by rw [fz]
  | .fro _, _ => by rw [fz]
  | .mu _, h => by simp [isF] at h
  | .fdi .., h => by simp [isF] at h
  | .mdi .., h => by simp [isF] at h
  | .al _, h => by simp [isF] at h
  | .exc _, h => by simp [isF] at h
  | .obj .., h => by simp [isF] at h
theorem fzs_isFs : ∀ {ds : List D}, isFs ds = true → fzs ds = ds
  | [], _ => by rw [fzs]
  | d :: ds, h => by
    rw [isFs, Bool.and_eq_true] at h
    rw [fzs, fz_isF h.1, fzs_isFs h.2]
end
theorem isF_al {d : D} (h : isF d = true) : ∀ i, d ≠ .al i := fun i e => by rw [e] at h; simp [isF] at h
theorem closeD_isF {d : D} {A : Sl} (h : isF d = true) : closeD d A = some (d, A) := by
  unfold closeD
  cases d <;> first | rfl | (simp [isF] at h)
theorem closeL_isFs : ∀ {ds : List D} {A : Sl}, isFs ds = true → closeL ds A = some (ds, A)
  | [], _, _ => rfl
  | d :: ds, A, h => by
    rw [isFs, Bool.and_eq_true] at h
    unfold closeL
    rw [closeL_isFs h.2]
    cases d <;> first | rfl | (simp [isF] at h)
section
variable {A A1 A2 A3 : Sl} {f g : FS} {fe fa fb : FE} {ft fu : FT} {fl : FA} {i j : Nat} {d e r : D} {ds es : List D} {F : List D → Ro}
theorem ev_C : fC d A = .ok d A := rfl
theorem ev_var (h : A[i]? = some (some d)) (hf : isF d = true) : fVar i A = .ok d A := by unfold fVar; rw [h]; simp only [hf, if_true]
theorem ev_al (h : A[i]? = some (some d)) (hf : isF d = false) : fVar i A = .ok (.al i) A := by unfold fVar; rw [h]; simp [hf]
theorem ev_bin {g : D → D → Sl → Option D} (h1 : fa A = .ok d A1) (h2 : fb A1 = .ok e A2) (h3 : g d e A2 = some r) : fBin g fa fb A = .ok r A2 := by
  unfold fBin; rw [h1]; simp only [Ou.bind_ok]; rw [h2]; simp only [Ou.bind_ok]; rw [h3]
theorem ev_un {g : D → Sl → Option D} (h1 : fa A = .ok d A1) (h3 : g d A1 = some r) : fUn g fa A = .ok r A1 := by
  unfold fUn; rw [h1]; simp only [Ou.bind_ok]; rw [h3]
theorem ev_nil : fNil A = .ok [] A := rfl
theorem ev_cons (h1 : fe A = .ok d A1) (h2 : fl A1 = .ok ds A2) : fCons fe fl A = .ok (d :: ds) A2 := by
  unfold fCons; rw [h1]; simp only [Ou.bind_ok]; rw [h2]; rfl
theorem ev_tup (h1 : fl A = .ok ds A1) (h2 : isFs ds = true) (h3 : ds.length ≤ sizeLine) : fTup fl A = .ok (.tup ds) A1 := by
  unfold fTup; rw [h1]; simp only [Ou.bind_ok]; rw [closeL_isFs h2]; simp only [h3, if_true]
theorem ev_lst (h1 : fl A = .ok ds A1) (h2 : isFs ds = true) (h3 : ds.length ≤ sizeLine) : fLst fl A = .ok (.mu ds) A1 := by
  unfold fLst; rw [h1]; simp only [Ou.bind_ok]; rw [closeL_isFs h2]; simp only [h3, if_true]
theorem ev_cb {g : List D → Sl → Option D} (h1 : fl A = .ok ds A1) (h2 : g ds A1 = some r) : fCB g fl A = .ok r A1 := by
  unfold fCB; rw [h1]; simp only [Ou.bind_ok]; rw [h2]
theorem ev_call (h1 : fl A = .ok ds A1) (h2 : isFs ds = true) (h3 : F ds = .ok r) : fCall F fl A = .ok r A1 := by
  unfold fCall; rw [h1]; simp only [Ou.bind_ok]; rw [closeL_isFs h2]; simp only [fzs_isFs h2, h3]; split <;> rfl
/-- .. where an argument is what a slot owns: the answer is a scalar -/
theorem ev_callS {es : List D} (h1 : fl A = .ok ds A1) (h2 : closeL ds A1 = some (es, A2)) (h3 : F (fzs es) = .ok r) (h4 : isScal r = true) : fCall F fl A = .ok r A1 := by
  unfold fCall; rw [h1]; simp only [Ou.bind_ok]; rw [h2]; simp only [h3, h4, if_true]
theorem ev_mtl {g : D → List D → Sl → Option D} (h1 : fe A = .ok d A1) (h0 : lsOf (see A1 d) = some es) (h2 : fl A1 = .ok ds A2) (h3 : g d ds A2 = some r) : fMtL g fe fl A = .ok r A2 := by
  unfold fMtL; rw [h1]; simp only [Ou.bind_ok]; rw [h0]; simp only [h2, Ou.bind_ok]; rw [h3]
theorem ev_noPart : fNoPart A = .ok none A := rfl
theorem ev_part {n : Int} (h : fe A = .ok (.int n) A1) : fPart fe A = .ok (some n) A1 := by unfold fPart; rw [h]; rfl
theorem ev_sl {fl fh : FO} {l h : Option Int} (h1 : fe A = .ok d A1) (h2 : fl A1 = .ok l A2) (h3 : fh A2 = .ok h A3) (h4 : gSl d l h A3 = some r) : fSl fe fl fh A = .ok r A3 := by
  unfold fSl; rw [h1]; simp only [Ou.bind_ok]; rw [h2]; simp only [Ou.bind_ok]; rw [h3]; simp only [Ou.bind_ok]; rw [h4]
theorem ev_B {b : Bool} (h : fe A = .ok (.bl b) A1) : fB fe A = .ok b A1 := by unfold fB; rw [h]; rfl
theorem ev_not {b : Bool} (h : ft A = .ok b A1) : fNot ft A = .ok (!b) A1 := by unfold fNot; rw [h]; rfl
theorem ev_and {a b : Bool} (h : ft A = .ok a A1) (k : a = true → fu A1 = .ok b A1) (k2 : a = false → b = false) : fAnd ft fu A = .ok b A1 := by
  unfold fAnd; rw [h]; simp only [Ou.bind_ok]
  cases a with
  | true => rw [if_pos rfl]; exact k rfl
  | false => rw [if_neg Bool.false_ne_true, k2 rfl]
theorem ev_or {a b : Bool} (h : ft A = .ok a A1) (k : a = false → fu A1 = .ok b A1) (k2 : a = true → b = true) : fOr ft fu A = .ok b A1 := by
  unfold fOr; rw [h]; simp only [Ou.bind_ok]
  cases a with
  | true => rw [if_pos rfl, k2 rfl]
  | false => rw [if_neg Bool.false_ne_true]; exact k rfl
/-- and, or whose parts change nothing: the answers -/
theorem ev_and2 {a b : Bool} (h : ft A = .ok a A1) (k : a = true → fu A1 = .ok b A1) : fAnd ft fu A = .ok (a && b) A1 := by
  cases a with
  | true => exact ev_and h k (fun z => nomatch z)
  | false => exact ev_and h (fun z => nomatch z) (fun _ => rfl)
theorem ev_or2 {a b : Bool} (h : ft A = .ok a A1) (k : a = false → fu A1 = .ok b A1) : fOr ft fu A = .ok (a || b) A1 := by
  cases a with
  | true => exact ev_or h (fun z => nomatch z) (fun _ => rfl)
  | false => exact ev_or h k (fun z => nomatch z)
theorem ev_andV {a b : Bool} (h : fa A = .ok (.bl a) A1) (k : a = true → fb A1 = .ok (.bl b) A1) : fAndV fa fb A = .ok (.bl (a && b)) A1 := by
  unfold fAndV; rw [h]; simp only [Ou.bind_ok]
  cases a with
  | true => rw [if_pos rfl]; exact k rfl
  | false => rw [if_neg Bool.false_ne_true]; rfl
theorem ev_orV {a b : Bool} (h : fa A = .ok (.bl a) A1) (k : a = false → fb A1 = .ok (.bl b) A1) : fOrV fa fb A = .ok (.bl (a || b)) A1 := by
  unfold fOrV; rw [h]; simp only [Ou.bind_ok]
  cases a with
  | true => rw [if_pos rfl]; rfl
  | false => rw [if_neg Bool.false_ne_true]; exact k rfl
theorem ev_notV {a : Bool} (h : fa A = .ok (.bl a) A1) : fNotV fa A = .ok (.bl (!a)) A1 := by unfold fNotV; rw [h]; rfl
/-! statements -/
theorem ev_asgF (h : fe A = .ok d A1) (hf : isF d = true) : fAsgF i fe A = .ok .next (A1.set i (some d)) := by
  unfold fAsgF; rw [h]; simp only [Ou.bind_ok]; rw [closeD_isF hf]; simp only [fz_isF hf]
theorem ev_asgF_mu (h : fe A = .ok (.mu ds) A1) (hf : isFs ds = true) : fAsgF i fe A = .ok .next (A1.set i (some (.lst ds))) := by
  unfold fAsgF; rw [h]; simp only [Ou.bind_ok, closeD, fz, fzs_isFs hf]
theorem ev_asgF_al (h : A[j]? = some (some (.mu ds))) (hf : isFs ds = true) : fAsgF i (fVar j) A = .ok .next ((A.set j (some (.lst ds))).set i (some (.lst ds))) := by
  unfold fAsgF
  rw [ev_al h (by simp [isF])]
  simp only [Ou.bind_ok, closeD, h, fz, fzs_isFs hf]
theorem ev_asg (h : fe A = .ok d A1) (hd : ∀ j, d ≠ .al j) : fAsg i fe A = .ok .next (A1.set i (some d)) := by
  unfold fAsg; rw [h]
  cases d <;> first | rfl | exact absurd rfl (hd _)
theorem ev_asgM (h : A[j]? = some (some (.mu ds))) : fAsgM i (fVar j) A = .ok .next ((A.set j none).set i (some (.mu ds))) := by
  unfold fAsgM
  rw [ev_al h (by simp [isF])]
  simp only [Ou.bind_ok, h]
theorem ev_drop (h : fe A = .ok d A1) : fDrop fe A = .ok .next A1 := by unfold fDrop; rw [h]; rfl
theorem ev_app (hs : A[i]? = some (some (.mu ds))) (h : fe A = .ok e A) (hf : isF e = true) (hl : ds.length < sizeLine) : fApp i fe A = .ok .non (A.set i (some (.mu (ds ++ [e])))) := by
  have s : slotL i A = some ds := by unfold slotL; rw [hs]
  unfold fApp
  simp only [s, h, Ou.bind_ok, closeD_isF hf, hl, if_true]
theorem ev_ext_mu (hs : A[i]? = some (some (.mu ds))) (h : fe A = .ok (.mu es) A1) (hs1 : A1[i]? = some (some (.mu ds))) (hf : isFs es = true) (hl : ds.length + es.length ≤ sizeLine) : fExt i fe A = .ok .non (A1.set i (some (.mu (ds ++ es)))) := by
  have s : slotL i A = some ds := by unfold slotL; rw [hs]
  have s1 : slotL i A1 = some ds := by unfold slotL; rw [hs1]
  unfold fExt
  simp only [s, h, Ou.bind_ok, closeD, fz, fzs_isFs hf, s1, hl, if_true]
theorem ev_clr (hs : A[i]? = some (some (.mu ds))) : fClr i A = .ok .non (A.set i (some (.mu []))) := by
  have s : slotL i A = some ds := by unfold slotL; rw [hs]
  unfold fClr
  simp only [s]
theorem ev_ret (h : fe A = .ok d A1) (hd : ∀ j, d ≠ .al j) : fRet fe A = .ok (.ret d) A1 := by
  unfold fRet; rw [h]
  cases d <;> first | rfl | exact absurd rfl (hd _)
theorem ev_ret_al (h : A[i]? = some (some (.mu ds))) : fRet (fVar i) A = .ok (.ret (.mu ds)) (A.set i none) := by
  unfold fRet
  rw [ev_al h (by simp [isF])]
  simp only [Ou.bind_ok, h]
theorem if_t {b : Bool} {o : Ou Fl} (h : ft A = .ok b A1) (hb : b = true) (k : f A1 = o) : fIf ft f g A = o := by
  subst hb; rw [fif_t h]; exact k
theorem if_f {b : Bool} {o : Ou Fl} (h : ft A = .ok b A1) (hb : b = false) (k : g A1 = o) : fIf ft f g A = o := by
  subst hb; rw [fif_f h]; exact k
/-! what is walked -/
theorem ev_range {n : Int} (h : fe A = .ok (.int n) A1) (hn : n.natAbs < 4611686018427387904) : fRange fe A = .ok ((List.range n.toNat).map fun i => .int (i : Nat)) A1 := by
  have : (2 : Nat) ^ 62 = 4611686018427387904 := by decide
  unfold fRange; rw [h]; simp only [Ou.bind_ok, this, hn, if_true]
theorem ev_it (h : fe A = .ok d A1) (hf : isF d = true) (hi : iterOf d = some ds) : fIt fe A = .ok ds A1 := by
  unfold fIt; rw [h]; simp only [Ou.bind_ok, closeD_isF hf, fz_isF hf, hi]
theorem ev_it_mu (h : fe A = .ok (.mu ds) A1) (hf : isFs ds = true) : fIt fe A = .ok ds A1 := by
  unfold fIt; rw [h]; simp only [Ou.bind_ok, closeD, fz, fzs_isFs hf, iterOf]
/-! a def -/
theorem def_ret (A0 : Sl) {k n : Nat} {fs : FS} (hA : ds.map some ++ List.replicate (n - ds.length) none = A0) (hk : ds.length = k) (hd : ∀ i, d ≠ .al i) (h : ∃ A', fs A0 = .ok (.ret d) A') : defF k n fs ds = .ok d := by
  obtain ⟨A', h⟩ := h
  unfold defF runF
  rw [if_pos hk, hA, h]
  cases d <;> first | rfl | exact absurd rfl (hd _)
/-! operators -/
theorem gMinus_ok {a b : Int} : gMinus (.int a) (.int b) A = some (.int (a - b)) := rfl
theorem gAdd_ok {a b : Int} : gAdd (.int a) (.int b) A = some (.int (a + b)) := rfl
theorem gMul_l {a b : Int} (h : -18446744073709551616 < a ∧ a < 18446744073709551616) : gMulA (.int a) (.int b) A = some (.int (a * b)) := by unfold gMulA; simp only [cMul_l h, if_true]
theorem gMul_r {a b : Int} (h : -18446744073709551616 < b ∧ b < 18446744073709551616) : gMulA (.int a) (.int b) A = some (.int (a * b)) := by unfold gMulA; simp only [cMul_r h, if_true]
theorem gMod_ok {a b : Int} (h : 0 < b) : gMod (.int a) (.int b) A = some (.int (a % b)) := by unfold gMod g2I cMod; simp [h]
set_option exponentiation.threshold 500 in
theorem gDiv_ok {a b : Int} (h : 0 < b) (h2 : b ≤ 1000000000000000000000000000000000000000000000000000000000000000000000) : gDiv (.int a) (.int b) A = some (.int (a / b)) := by
  have : b.natAbs < 2 ^ 400 := by
    have : (1000000000000000000000000000000000000000000000000000000000000000000000 : Nat) < 2 ^ 400 := by decide
    omega
  unfold gDiv g2I cDiv; simp [h, this]
theorem gPow_ok {a : Int} {b : Nat} (h : b ≤ 1000) (h2 : a.natAbs < 1000000) : gPow (.int a) (.int (b : Nat)) A = some (.int (a ^ b)) := by
  have h3 : a.natAbs < 2 ^ 64 := by omega
  have h4 : ((b : Nat) : Int) ≤ 1000000 := by omega
  unfold gPow g2I cPow
  simp [h3, h4]
theorem gLt_ok {a b : Int} : gLt (.int a) (.int b) A = some (.bl (decide (a < b))) := rfl
theorem gLe_ok {a b : Int} : gLe (.int a) (.int b) A = some (.bl (decide (a ≤ b))) := rfl
theorem gGt_ok {a b : Int} : gGt (.int a) (.int b) A = some (.bl (decide (b < a))) := rfl
theorem gGe_ok {a b : Int} : gGe (.int a) (.int b) A = some (.bl (decide (b ≤ a))) := rfl
theorem eqv_int (a b : Int) : PyData.eqv (.int a) (.int b) = decide (a = b) := by rw [PyData.eqv]; exact Bool.beq_eq_decide_eq a b
theorem okD_int (a : Int) : okD (.int a) = true := by simp [okD, dat, SeqAt.shaped, PyData.canLay0, PyData.depth]
theorem gEq_int {a b : Int} : gEq (.int a) (.int b) A = some (.bl (decide (a = b))) := by
  unfold gEq; simp only [see, okD_int, Bool.and_self, if_true, dat, eqv_int]
theorem gNe_int {a b : Int} : gNe (.int a) (.int b) A = some (.bl (!decide (a = b))) := by
  unfold gNe; simp only [see, okD_int, Bool.and_self, if_true, dat, eqv_int]
end
end Ab
end
section
namespace Ab
open PySem PySem.Spec PyProof.Rows L2

/-! ### zip of a list and a tuple; c: how many turns -/
def ItM (K : PySem.W.Frag) (a b : Addr) (c : Nat) : It :=
  ⟨fun i H => i < c ∧ ∃ (xs ys : List V) (x y : V), (SqL K H a xs ∧ xs[i]? = some x) ∧ SqT K H b ys ∧ ys[i]? = some y,
    fun i H v H' => ∃ T x y, (v = .ref T ∧ H T = none) ∧ H' = upd H T (.tup [x, y]) ∧ (∀ xs, SqL K H a xs → xs[i]? = some x) ∧ (∀ ys, SqT K H b ys → ys[i]? = some y),
    fun i H => c ≤ i ∧ ∃ xs ys : List V, (SqL K H a xs ∧ SqT K H b ys) ∧ min xs.length ys.length = c⟩
def MSt (z TI TO i1 i2 a b : Addr) (c : Nat) (i : Nat) (h : Heap) : Prop := (IsZip h z TI TO .none ∧ IsPair h TI (.ref i1) (.ref i2) ∧ ∃ x y, IsPair h TO x y) ∧ (h.IsListIter i1 a i ∧ h.IsTupleIter i2 b i) ∧ i ≤ c
theorem msep {z TI TO i1 i2 a b : Addr} (D : ZipApart z TI TO i1 i2 a b) : ZipSep2 z TI TO i1 i2 [i1, a] [i2, b] where
  TIz := D.TIz
  TOz := D.TOz
  TITO := D.TITO
  TIi1 := D.TIi1
  mem1 := by simp
  zf1 := by simp [D.i1z.symm, D.l1z.symm]
  Tf1 := by simp [D.TOi1, D.l1TO.symm]
  TIi2 := D.TIi2
  mem2 := by simp
  zf2 := by simp [D.i2z.symm, D.l2z.symm]
  Tf2 := by simp [D.TOi2, D.l2TO.symm]
  sep1_2 := by simp [D.i12, D.l2i1.symm]
  sep2_1 := by simp [D.i12.symm, D.l1i2.symm]
theorem five {z TI TO i1 i2 q : Addr} (h : q ∈ [z, TI, TO, i1, i2]) : q = z ∨ q = TI ∨ q = TO ∨ q = i1 ∨ q = i2 := by simpa using h
theorem turnM {P : Program} {w : World} {K : PySem.W.Frag} {elts : List Expr} {kk : Nat} {tpos : Pos} {a b z TI TO i1 i2 : Addr} {c : Nat} (D : ZipApart z TI TO i1 i2 a b) :
    Turn P w K (.Tuple elts kk tpos) (ItM K a b c) [z, TI, TO, i1, i2] z (MSt z TI TO i1 i2 a b c) where
  mem := List.mem_cons_self
  obj := fun i h st q hq => by
    obtain ⟨⟨m1, m2, x, y, m3⟩, ⟨⟨o1, e1, _, d1⟩, ⟨o2, e2, _, d2⟩⟩, _⟩ := st
    rcases five hq with rfl | rfl | rfl | rfl | rfl
    · exact ⟨_, m1, fun v u => nomatch u⟩
    · exact ⟨_, m2, fun v u => nomatch u⟩
    · exact ⟨_, m3, fun v u => nomatch u⟩
    · exact ⟨o1, e1, fun v u => by rw [d1] at u; cases u⟩
    · exact ⟨o2, e2, fun v u => by rw [d2] at u; cases u⟩
  keep := fun i h h' st k => by
    obtain ⟨⟨m1, m2, x, y, m3⟩, ⟨m4, m5⟩, m6⟩ := st
    exact ⟨⟨k _ (by simp) _ m1, k _ (by simp) _ m2, x, y, k _ (by simp) _ m3⟩, ⟨m4.at fun o => k _ (by simp) o, m5.at fun o => k _ (by simp) o⟩, m6⟩
  item := by
    intro X e1 e2 e3 hcalm i pins s σ H E I hf st hg
    subst e1; subst e2; subst e3
    obtain ⟨⟨m1, m2, x0, y0, m3⟩, ⟨m4, m5⟩, m6⟩ := st
    obtain ⟨hic, xs, ys, x, y, ⟨sx, gx⟩, sy, gy⟩ := hg
    obtain ⟨its, rv, p, _⟩ := I.list sx
    obtain ⟨jts, rw_, p2, _⟩ := I.tuple sy
    obtain ⟨u, hu, ru⟩ := rv.get gx
    obtain ⟨u2, hu2, ru2⟩ := rw_.get gy
    have zl : z < s.heap.objs.size := Heap.lt_size m1
    have hh : X.A.in1.handled = none := I.ok.hd hcalm
    have lt1 : i < its.toArray.size := by rw [List.size_toArray]; exact (List.getElem?_eq_some_iff.mp hu).1
    have lt2 : i < jts.toArray.size := by rw [List.size_toArray]; exact (List.getElem?_eq_some_iff.mp hu2).1
    refine wpAny_pyNext_zipD2_item (msep D) (Draws.list hh i1 a D.l1i1 its.toArray) (Draws.tuple hh i2 b D.l2i2 jts.toArray) m1 m2 m3 ⟨m4, p.isList⟩ ⟨m5, p2⟩ lt1 lt2 fun w1 w2 h' tk y1 y2 z' TO' st1 st2 hT hsz hk => ?_
    have y1' : its[i]? = some w1 := by simpa using y1
    have y2' : jts[i]? = some w2 := by simpa using y2
    obtain rfl : u = w1 := Option.some.inj (hu.symm.trans y1')
    obtain rfl : u2 = w2 := Option.some.inj (hu2.symm.trans y2')
    refine ⟨_, rfl, wpAny_letOwnedTupleGo_zip (s := { s with heap := h', toks := tk }) z' fun h2 z2 sb => ?_⟩
    have T2 : IsPair h2 s.heap.objs.size u u2 := (sb.2 _ (Nat.ne_of_gt zl)).trans hT
    have fr : ∀ q o, q ∉ [z, TI, TO, i1, i2] → s.heap.get? q = some o → h2.get? q = some o := fun q o nq e => by
      simp only [List.mem_cons, List.not_mem_nil, or_false, not_or] at nq
      exact (sb.2 q nq.1).trans (hk q o nq.1 nq.2.2.1 nq.2.2.2.1 nq.2.2.2.2 e)
    have obj : ObjOk X.prog X.w (upd H s.heap.objs.size (.tup [x, y])) h2 s.heap.objs.size (.tup [x, y]) := by
      refine ⟨?_, [u, u2], .cons ru (.cons ru2 .nil), ⟨_, T2, rfl, _, rfl⟩⟩
      show 2 ≤ sizeLine
      decide
    have I2 : Inv X pins σ (upd H s.heap.objs.size (.tup [x, y])) { s with heap := h2, toks := tk } := I.turnedNew fr hf (Nat.le_refl _) obj
    refine ⟨.ref s.heap.objs.size, _, I2, rfl, ⟨_, x, y, ⟨rfl, I.hok.fresh (Nat.le_refl _)⟩, rfl, fun l hl => ?_, fun l hl => ?_⟩, ⟨⟨z2, ?_, u, u2, ?_⟩, ⟨?_, ?_⟩, hic⟩, fun q hq => ?_⟩
    · rw [I.list_inj hl sx]; exact gx
    · rw [I.tuple_inj hl sy]; exact gy
    · exact (sb.2 _ D.TIz).trans (hk _ _ D.TIz D.TITO D.TIi1 D.TIi2 m2)
    · exact (sb.2 _ D.TOz).trans TO'
    · exact st1.1.at fun o e => (sb.2 _ D.i1z).trans e
    · exact st2.1.at fun o e => (sb.2 _ D.i2z).trans e
    · have old : q < s.heap.objs.size := by
        rcases five hq with rfl | rfl | rfl | rfl | rfl
        · exact zl
        · exact Heap.lt_size m2
        · exact Heap.lt_size m3
        · obtain ⟨_, e1, _⟩ := m4; exact Heap.lt_size e1
        · obtain ⟨_, e2, _⟩ := m5; exact Heap.lt_size e2
      rw [upd_ne (Nat.ne_of_lt old)]
      exact (hf q hq).1
  done := by
    intro X e1 e2 e3 hcalm i pins s σ H E I hf st hg
    subst e1; subst e2; subst e3
    obtain ⟨⟨m1, m2, x0, y0, m3⟩, ⟨m4, m5⟩, m6⟩ := st
    obtain ⟨hic, xs, ys, ⟨sx, sy⟩, hmin⟩ := hg
    obtain ⟨its, rv, p, _⟩ := I.list sx
    obtain ⟨jts, rw_, p2, _⟩ := I.tuple sy
    have hh : X.A.in1.handled = none := I.ok.hd hcalm
    have l1 : its.toArray.size = xs.length := by rw [List.size_toArray]; exact rv.length.symm
    have l2 : jts.toArray.size = ys.length := by rw [List.size_toArray]; exact rw_.length.symm
    refine wpAny_pyNext_zipD2_end (msep D) (Draws.list hh i1 a D.l1i1 its.toArray) (Draws.tuple hh i2 b D.l2i2 jts.toArray) m1 m2 m3 ⟨m4, p.isList⟩ ⟨m5, p2⟩ (by omega) (by omega) (by omega) fun h' tk hk => ⟨rfl, I.turnedL (fun q o nq e => ?_) hf⟩
    simp only [List.mem_cons, List.not_mem_nil, or_false, not_or] at nq
    exact hk q o nq.1 nq.2.2.1 nq.2.2.2.1 nq.2.2.2.2 e
  self := fun A i s Q E st h => wpAny_pyIter_zip st.1.1 h
def iZipM (K : PySem.W.Frag) (ta : TA) : TI := fun σ H R => ta σ H fun vs H1 => ∃ a b xs ys, vs = [.ref a, .ref b] ∧ (SqL K H1 a xs ∧ SqT K H1 b ys) ∧ R (ItM K a b (min xs.length ys.length)) H1
theorem pi_zipM {X : Cx} {e e2 : Expr} {ta : TA} {p pos tpos : Pos} {elts : List Expr} {kk : Nat} (hg : Gl X "zip") (hm : X.mg "zip" = none) (ha : PA X [e, e2] ta)
    (hs : starEach [e, e2] X.env = (false, eval e X.env) :: starEach [e2] X.env := by rfl) (hpl : (backTo pos (starEach [e2] X.env)).any (·.1) = false := by rfl) :
    PI X (.Tuple elts kk tpos) (.Call (.Name "zip" p) [e, e2] [] pos) (iZipM X.K ta) := by
  refine ⟨fun pins s σ H R I h => Call_ (ld_blt I hg hm PyProof.Rows.boot_zip (PyProof.Rows.callWith_type1 (thn (ha.run pos pins s σ H _ I h) fun us s1 ⟨vs, H1, I1, r1, q1⟩ => ?_) hs hpl))⟩
  obtain ⟨a, b, xs, ys, rfl, ⟨sx, sy⟩, q⟩ := q1
  obtain ⟨v1, v2, rfl, ra, rb⟩ := vals2 r1
  cases ra
  cases rb
  obtain ⟨its, rv, p1, _⟩ := I1.list sx
  obtain ⟨jts, rw_, p2, _⟩ := I1.tuple sy
  obtain ⟨o2, ho2, _⟩ := id p2
  have la : a < s1.heap.objs.size := p1.lt
  have lb : b < s1.heap.objs.size := Heap.lt_size ho2
  refine zip_begins2 (begins_list a its.toArray) (begins_tuple b jts.toArray) p1.isList p2 fun h' hz hTI hTO g1 g2 hsz hk => wpAny_pyIter_zip hz ?_
  have I2 : Inv X pins σ H1 { s1 with heap := h' } := I1.kept (t' := s1.toks) hk
  refine ⟨s1.heap.objs.size + 4, [s1.heap.objs.size + 4, s1.heap.objs.size + 2, s1.heap.objs.size + 3, s1.heap.objs.size, s1.heap.objs.size + 1], _, _, H1, rfl, I2, turnM (PySem.W.ktu_apart s1.heap.objs.size a b la lb), ⟨⟨hz, hTI, _, _, hTO⟩, ⟨⟨_, g1, rfl, rfl⟩, ⟨_, g2, rfl, rfl⟩⟩, Nat.zero_le _⟩, fun q hq => ?_, q⟩
  have up : s1.heap.objs.size ≤ q := by rcases five hq with rfl | rfl | rfl | rfl | rfl <;> first | exact Nat.le_refl _ | exact Nat.le_add_right _ _
  exact I1.fpOk up (I1.hok.fresh up)
/-- zip(a list that is new, a tuple) -/
def fZip (fa fb : FE) : FI := fun A => (fCons fa (fCons fb fNil) A).bind fun ds A1 => match ds with
  | [.mu xs, .tup ys] => if isFs xs = true ∧ isFs ys = true then .ok (List.zipWith (fun x y => .tup [x, y]) xs ys) A1 else .stuck
  | _ => .stuck
section
variable {z : Z} {X : Cx} {fa fb : FE}
theorem itd_zip {a b : Addr} {xs ys : List D} (hx : isFs xs = true) (hy : isFs ys = true) : ItD z (ItM z.K a b (min xs.length ys.length)) [(.ref a, .lst xs), (.ref b, .tup ys)] (List.zipWith (fun x y => .tup [x, y]) xs ys) := by
  have key : ∀ (σ : L2.St) (A : Sl) (ts : Ts) (H : Hp), z.A σ A ([(.ref a, .lst xs), (.ref b, .tup ys)] ++ ts) H → ∃ G vs us, Same G H ∧ SqL z.K H a vs ∧ SqT z.K H b us ∧ Rs z.K G H vs xs [] ∧ Rs z.K G H us ys [] ∧ Fin z.K z.B σ A ([(.ref a, .lst xs), (.ref b, .tup ys)] ++ ts) H G := by
    intro σ A ts H h
    obtain ⟨G, L1, L2, gd, tm, sl, nd, ow⟩ := id h
    have f : Fin z.K z.B σ A ([(.ref a, .lst xs), (.ref b, .tup ys)] ++ ts) H G := fun w e H' G' L' he g1 g2 g3 r rn rf => step_core gd tm sl nd ow he g1 g2 g3 r rn rf
    have gh := gd.gh
    cases tm with
    | cons r1 t1 =>
      cases r1 with
      | lst q1 s1 =>
        cases t1 with
        | cons r2 t2 =>
          cases r2 with
          | tup q2 s2 =>
            have e2 := s2.isFs hy
            subst e2
            exact ⟨G, _, _, gh, .inl (.inl (gh _ _ q1)), .inl (.inl (gh _ _ q2)), s1, s2, f⟩
  refine ⟨fun σ A ts H i h hi => ?_, fun σ A ts H i x H' e h he hyl => ?_, fun σ A ts H i h hi => ?_⟩
  · obtain ⟨G, vs, us, gh, k1, k2, s1, s2, f⟩ := key σ A ts H h
    rw [List.length_zipWith] at hi
    have l1 := s1.length
    have l2 := s2.length
    have i1 : i < vs.length := by omega
    have i2 : i < us.length := by omega
    exact ⟨hi, vs, us, vs[i], us[i], ⟨k1, List.getElem?_eq_getElem i1⟩, k2, List.getElem?_eq_getElem i2⟩
  · obtain ⟨G, vs, us, gh, k1, k2, s1, s2, f⟩ := key σ A ts H h
    obtain ⟨T, x1, y1, ⟨rfl, hT⟩, rfl, g1, g2⟩ := hyl
    have h1 := g1 vs k1
    have h2 := g2 us k2
    rw [List.getElem?_zipWith] at he
    obtain ⟨d1, _, j1, ra, sa⟩ := s1.get h1
    obtain ⟨d2, _, j2, rb, sb⟩ := s2.get h2
    rw [j1, j2] at he
    obtain rfl : D.tup [d1, d2] = e := Option.some.inj he
    have ea := List.sublist_nil.mp sa
    subst ea
    have eb := List.sublist_nil.mp sb
    subst eb
    exact f.tup gh (.cons (L := []) (L' := []) ra (.cons (L := []) (L' := []) rb .nil)) hT
  · obtain ⟨G, vs, us, gh, k1, k2, s1, s2, f⟩ := key σ A ts H h
    rw [List.length_zipWith] at hi
    refine ⟨hi, vs, us, ⟨k1, k2⟩, ?_⟩
    rw [s1.length, s2.length]
theorem qi_zip {e e2 : Expr} {p pos tpos : Pos} {elts : List Expr} {kk : Nat} (hK : X.K = z.K) (hg : Gl X "zip") (hm : X.mg "zip" = none) (ha : PE X e (tE z fa)) (hb : PE X e2 (tE z fb))
    (hs : starEach [e, e2] X.env = (false, eval e X.env) :: starEach [e2] X.env := by rfl) (hs2 : starEach [e2] X.env = (false, eval e2 X.env) :: starEach [] X.env := by rfl) (hpl : (backTo pos (starEach [e2] X.env)).any (·.1) = false := by rfl) :
    PI X (.Tuple elts kk tpos) (.Call (.Name "zip" p) [e, e2] [] pos) (tI z (fZip fa fb)) := by
  refine ⟨fun pins s σ H R I w => (pi_zipM hg hm (qa_cons ha (qa_cons hb qa_nil hs2) hs) hs hpl).run pins s σ H R I ?_⟩
  obtain ⟨A, ts, hA, hp⟩ := w
  refine ⟨A, ts, hA, ?_⟩
  unfold fZip at hp
  cases ea : fCons fa (fCons fb fNil) A with
  | stuck => rw [ea] at hp; exact (show False from hp).elim
  | exc c A1 => rw [ea] at hp; exact hp
  | ok ds A1 =>
    rw [ea] at hp
    simp only [Ou.bind_ok] at hp
    intro vs H1 hl h1
    split at hp
    · rename_i xs ys
      split at hp
      · rename_i hf
        obtain ⟨hx, hy⟩ := hf
        match vs, hl with
        | [v1, v2], _ =>
          have h2 : z.A σ A1 ((v1, fz (.mu xs)) :: (v2, .tup ys) :: ts) H1 := Abs.fz h1 (fun i q => nomatch q)
          rw [fz, fzs_isFs hx] at h2
          obtain ⟨G, L, L', gh, r1, r2, f⟩ := Abs.open2 h2 (fun j q => nomatch q) (fun j q => nomatch q)
          have r1 : Ab.R z.K G H1 v1 (.lst xs) L := r1
          have r2 : Ab.R z.K G H1 v2 (.tup ys) L' := r2
          cases r1 with
          | lst q1 s1 =>
            cases r2 with
            | tup q2 s2 =>
              refine ⟨_, _, _, _, rfl, ⟨.inl (.inl (gh _ _ q1)), .inl (.inl (gh _ _ q2))⟩, ?_⟩
              rw [s1.length, s2.length, hK]
              exact hp _ [(_, .lst xs), (_, .tup ys)] _ (fun p m j e => by
                rcases List.mem_cons.mp m with rfl | m
                · cases e
                · rw [List.mem_singleton.mp m] at e; cases e) (itd_zip hx hy) h2
      · exact (show False from hp).elim
    · exact (show False from hp).elim
end
end Ab
end
section
namespace Ab
open PySem PySem.Spec PyProof.Rows L2

/-! ### sorted(a list of pairs of ints) -/
def pd (p : Int × Int) : D := .tup [.int p.1, .int p.2]
def prOf : D → Option (Int × Int)
  | .tup [.int a, .int b] => some (a, b)
  | _ => none
def prsOf : List D → Option (List (Int × Int))
  | [] => some []
  | e :: es => match prOf e, prsOf es with
    | some p, some ps => some (p :: ps)
    | _, _ => none
theorem prOf_eq {e : D} {p : Int × Int} (h : prOf e = some p) : e = pd p := by
  unfold prOf at h
  split at h
  · cases h; rfl
  · cases h
theorem prsOf_eq : ∀ {es : List D} {ps : List (Int × Int)}, prsOf es = some ps → es = ps.map pd
  | [], ps, h => by simp only [prsOf, Option.some.injEq] at h; subst h; rfl
  | e :: es, ps, h => by
    unfold prsOf at h
    split at h
    · rename_i p qs h1 h2
      cases h
      rw [prOf_eq h1, prsOf_eq h2]
      rfl
    · cases h
theorem prsOf_map : ∀ ps : List (Int × Int), prsOf (ps.map pd) = some ps
  | [] => rfl
  | p :: ps => by
    rw [List.map_cons, prsOf, prsOf_map ps]
    rfl
def leP (p q : Int × Int) : Bool := !SrtO.lexB q p
def sortP (ps : List (Int × Int)) : List (Int × Int) := ps.mergeSort leP
theorem leP_iff {p q : Int × Int} : leP p q = true ↔ ¬ (q.1 < p.1 ∨ (q.1 = p.1 ∧ q.2 < p.2)) := by
  unfold leP
  rw [Bool.not_eq_true', SrtO.lexB_no]
theorem sortP_uniq {qs ps : List (Int × Int)} (h1 : qs.Pairwise fun p q => leP p q = true) (h2 : qs.Perm ps) : qs = sortP ps := by
  refine List.Perm.eq_of_pairwise (le := fun p q => leP p q = true) (fun a b _ _ x y => ?_) h1 (List.pairwise_mergeSort (fun a b c x y => ?_) (fun a b => ?_) ps) (h2.trans (List.mergeSort_perm ps leP).symm)
  · rw [leP_iff] at x y
    exact Prod.ext (by omega) (by omega)
  · rw [leP_iff] at x y ⊢
    omega
  · rw [Bool.or_eq_true, leP_iff, leP_iff]
    omega
def kf (G : Hp) (x : V) : Int × Int := match x with
  | .ref t => match G t with
    | some (.tup [.int a, .int b]) => (a, b)
    | _ => (0, 0)
  | _ => (0, 0)
section
variable {K : PySem.W.Frag} {G H : Hp}
theorem r_pd {x : V} {p : Int × Int} {L : List Addr} (r : R K G H x (pd p) L) : L = [] ∧ kf G x = p ∧ ∃ t, x = .ref t ∧ G t = some (.tup [.int p.1, .int p.2]) := by
  unfold pd at r
  cases r with
  | tup q s =>
    cases s with
    | cons r1 t1 =>
      cases r1
      cases t1 with
      | cons r2 t2 =>
        cases r2
        cases t2
        exact ⟨rfl, by unfold kf; simp only [q], _, rfl, q⟩
theorem rs_pd : ∀ {xs : List V} {ps : List (Int × Int)} {L : List Addr}, Rs K G H xs (ps.map pd) L → xs.map (kf G) = ps ∧ ∀ x ∈ xs, R K G H x (pd (kf G x)) [] ∧ ∃ t, x = .ref t ∧ G t = some (.tup [.int (kf G x).1, .int (kf G x).2])
  | [], [], _, _ => ⟨rfl, fun x m => nomatch m⟩
  | [], _ :: _, _, s => nomatch s
  | _ :: _, [], _, s => nomatch s
  | x :: xs, p :: ps, _, .cons r s => by
    obtain ⟨e0, e1, t, e2, e3⟩ := r_pd r
    subst e0
    obtain ⟨f1, f2⟩ := rs_pd s
    refine ⟨by rw [List.map_cons, e1, f1], fun y m => ?_⟩
    rcases List.mem_cons.mp m with rfl | m
    · rw [e1]
      exact ⟨r, t, e2, e3⟩
    · exact f2 y m
theorem rs_of {ys : List V} (h : ∀ y ∈ ys, R K G H y (pd (kf G y)) []) : Rs K G H ys ((ys.map (kf G)).map pd) [] := by
  induction ys with
  | nil => exact .nil
  | cons y ys ih => exact .cons (L := []) (L' := []) (h y List.mem_cons_self) (ih fun z m => h z (List.mem_cons_of_mem _ m))
end
def gSorted (ds : List D) (A : Sl) : Option D := match ds with
  | [d] => match lsOf (see A d) with
    | some es => match prsOf es with
      | some ps => some (.mu ((sortP ps).map pd))
      | none => none
    | none => none
  | _ => none
section
variable {z : Z} {X : Cx}
theorem cd_sorted : CallD z (rSortedPO z.K) gSorted := by
  intro σ A ts H vs ds d' hl h hg Q q
  unfold gSorted at hg
  split at hg
  · rename_i d
    obtain ⟨v, rfl⟩ := call1 hl rfl
    have h : z.A σ A ((v, d) :: ts) H := h
    split at hg
    · rename_i es hs
      split at hg
      · rename_i ps hp
        cases hg
        have e1 := prsOf_eq hp
        subst e1
        obtain ⟨G, L, gh, r, f⟩ := h.open (lsOf_al hs)
        obtain ⟨a, xs, M, rfl, k1, s1⟩ := r.list gh hs
        obtain ⟨m1, m2⟩ := rs_pd s1
        refine ⟨a, xs, kf G, rfl, k1, fun x m => ?_, fun ys p hs hb hn => q _ _ (f.lst gh ?_ hn)⟩
        · obtain ⟨_, t, e2, e3⟩ := m2 x m
          exact ⟨t, e2, gh _ _ e3⟩
        · have pm := hb.perm
          have e4 : ys.map (kf G) = sortP ps := by
            refine sortP_uniq ?_ (by rw [← m1]; exact pm.map _)
            rw [List.pairwise_map]
            exact hs.imp fun {x y} u => by
              have u2 : SrtO.lexB (kf G y) (kf G x) = false := u
              unfold leP
              rw [u2]
              rfl
          rw [← e4]
          exact rs_of fun y m => (m2 y (pm.mem_iff.mp m)).1
      · cases hg
    · cases hg
  · cases hg

/-! ### is not True -/
def gNotB (d e : D) (A : Sl) : Option D := match d, e with
  | .bl b, .bl c => some (.bl (!(b == c)))
  | _, _ => none
def rNotB : R2 := fun x y H Q => ∃ b c, x = .bl b ∧ y = .bl c ∧ Q (.bl (!(b == c))) H
theorem op_notB : OpR X (compareOp .IsNot) rNotB := by
  intro pins s σ H x y v u Q I rx ry h
  obtain ⟨b, c, rfl, rfl, q⟩ := h
  cases rx
  cases ry
  exact wpAny_isNot_plain rfl (fin_bl I q (by cases b <;> cases c <;> rfl))
theorem opd_notB : OpD z rNotB gNotB := by
  intro σ A ts H v u d e d' h hg Q q
  unfold gNotB at hg
  split at hg
  · rename_i b c
    cases hg
    have e1 := h.bl
    have e2 := h.drop.bl
    exact ⟨b, c, e2, e1, q _ _ (h.drop.drop.pbl _)⟩
  · cases hg
end
end Ab
end
section
/-! typed data as told values -/
namespace Ab
open PySem L2
structure EncOk {α : Type} [DecidableEq α] (e : α → D) (n : Nat) : Prop where
  f : ∀ x, isF (e x) = true
  lay : ∀ x, (dat (e x)).canLay0 = true
  dep : ∀ x, (dat (e x)).depth ≤ n
  eqv : ∀ x y, PyData.eqv (dat (e x)) (dat (e y)) = decide (x = y)
section
variable {α β : Type} [DecidableEq α] [DecidableEq β] {e : α → D} {e' : β → D} {n m : Nat}
theorem enc_int : EncOk D.int 0 := ⟨fun _ => by simp [isF], fun _ => by simp [dat, PyData.canLay0], fun _ => by simp [dat, PyData.depth], fun x y => by rw [dat, dat]; exact eqv_int x y⟩
theorem EncOk.fs (h : EncOk e n) : ∀ xs : List α, isFs (xs.map e) = true
  | [] => by simp [isFs]
  | x :: xs => by rw [List.map_cons, isFs, h.f x, EncOk.fs h xs]; rfl
theorem EncOk.lays (h : EncOk e n) : ∀ xs : List α, PyData.canLayAll0 (dats (xs.map e)) = true
  | [] => by simp [dats, PyData.canLayAll0]
  | x :: xs => by rw [List.map_cons, dats, PyData.canLayAll0, h.lay x, EncOk.lays h xs]; rfl
theorem EncOk.deps (h : EncOk e n) : ∀ xs : List α, PyData.depthAll (dats (xs.map e)) ≤ n
  | [] => by simp [dats, PyData.depthAll]
  | x :: xs => by
    rw [List.map_cons, dats, PyData.depthAll]
    exact Nat.max_le.mpr ⟨h.dep x, EncOk.deps h xs⟩
theorem EncOk.eqvs (h : EncOk e n) : ∀ xs ys : List α, PyData.eqvAll (dats (xs.map e)) (dats (ys.map e)) = decide (xs = ys)
  | [], [] => by simp [dats, PyData.eqvAll]
  | [], _ :: _ => by simp [dats, PyData.eqvAll]
  | _ :: _, [] => by simp [dats, PyData.eqvAll]
  | x :: xs, y :: ys => by
    rw [List.map_cons, List.map_cons, dats, dats, PyData.eqvAll, h.eqv, EncOk.eqvs h xs ys]
    simp only [List.cons.injEq]
    by_cases h1 : x = y <;> by_cases h2 : xs = ys <;> simp [h1, h2]
abbrev eT (e : α → D) : List α → D := fun xs => .tup (xs.map e)
abbrev eL (e : α → D) : List α → D := fun xs => .lst (xs.map e)
abbrev eM (e : α → D) : List α → D := fun xs => .mu (xs.map e)
abbrev eP (e : α → D) (e' : β → D) : α × β → D := fun p => .tup [e p.1, e' p.2]
theorem enc_tup (h : EncOk e n) : EncOk (eT e) (n + 1) where
  f := fun xs => by rw [isF]; exact h.fs xs
  lay := fun xs => by rw [dat, PyData.canLay0]; exact h.lays xs
  dep := fun xs => by rw [dat, PyData.depth]; have := h.deps xs; omega
  eqv := fun xs ys => by rw [dat, dat, PyData.eqv]; exact h.eqvs xs ys
theorem enc_lst (h : EncOk e n) : EncOk (eL e) (n + 1) where
  f := fun xs => by simp [isF]
  lay := fun xs => by rw [dat, PyData.canLay0]; exact h.lays xs
  dep := fun xs => by rw [dat, PyData.depth]; have := h.deps xs; omega
  eqv := fun xs ys => by rw [dat, dat, PyData.eqv]; exact h.eqvs xs ys
theorem enc_pair (h : EncOk e n) (h' : EncOk e' m) : EncOk (eP e e') (max n m + 1) where
  f := fun p => by simp [isF, isFs, h.f, h'.f]
  lay := fun p => by simp [dat, dats, PyData.canLay0, PyData.canLayAll0, h.lay, h'.lay]
  dep := fun p => by
    simp only [dat, dats, PyData.depth, PyData.depthAll]
    have := h.dep p.1; have := h'.dep p.2
    omega
  eqv := fun p q => by
    cases p with | mk a b => cases q with | mk c d =>
    simp only [dat, dats, PyData.eqv, PyData.eqvAll, h.eqv, h'.eqv, Bool.and_true, Prod.mk.injEq]
    by_cases h1 : a = c <;> by_cases h2 : b = d <;> simp [h1, h2]
/-- None, or a value that is never None -/
def eO (e : α → D) : Option α → D
  | none => .non
  | some x => e x
theorem enc_opt (h : EncOk e n) (hn : ∀ x, PyData.eqv .none (dat (e x)) = false) (hn' : ∀ x, PyData.eqv (dat (e x)) .none = false) : EncOk (eO e) n where
  f := fun o => by cases o <;> simp [eO, isF, h.f]
  lay := fun o => by cases o <;> simp [eO, dat, PyData.canLay0, h.lay]
  dep := fun o => by
    cases o with
    | none => simp [eO, dat, PyData.depth]
    | some x => exact h.dep x
  eqv := fun o q => by
    cases o <;> cases q
    · simp [eO, dat, PyData.eqv]
    · simp only [eO, dat, hn]; simp
    · simp only [eO, dat, hn']; simp
    · simp only [eO, h.eqv]; simp
theorem EncOk.ok (h : EncOk e n) (hn : n ≤ 64 := by decide) (x : α) : okD (e x) = true := by
  unfold okD SeqAt.shaped
  rw [h.lay x, Bool.true_and, decide_eq_true_iff]
  exact Nat.le_trans (h.dep x) hn
theorem EncOk.okSeq (h : EncOk e n) (hn : n ≤ 63 := by decide) {d : D} {xs : List α} (hd : sqOf d = some (xs.map e)) : okD d = true := by
  have l := h.lays xs
  have p := h.deps xs
  unfold okD SeqAt.shaped
  rcases dat_seq hd with q | q <;> rw [q, PyData.canLay0, l, PyData.depth, Bool.true_and, decide_eq_true_iff] <;> omega
theorem EncOk.see (h : EncOk e n) (A : Sl) (x : α) : see A (e x) = e x := see_isF (h.f x)
section
variable {A : Sl} {d : D} {xs ys : List α} {x y : α}
theorem gEq_enc (h : EncOk e n) (hn : n ≤ 64 := by decide) : gEq (e x) (e y) A = some (.bl (decide (x = y))) := by
  unfold gEq; simp only [h.see, h.ok hn, Bool.and_self, if_true, h.eqv]
theorem gNe_enc (h : EncOk e n) (hn : n ≤ 64 := by decide) : gNe (e x) (e y) A = some (.bl (!decide (x = y))) := by
  unfold gNe; simp only [h.see, h.ok hn, Bool.and_self, if_true, h.eqv]
theorem EncOk.any (h : EncOk e n) (x : α) : ∀ ys : List α, ((dats (ys.map e)).any fun z => PyData.eqv z (dat (e x))) = decide (x ∈ ys)
  | [] => by simp [dats]
  | y :: ys => by
    rw [List.map_cons, dats, List.any_cons, h.eqv, EncOk.any h x ys]
    by_cases h1 : y = x <;> by_cases h2 : x ∈ ys <;> simp [h1, h2, eq_comm]
    · intro q; exact h1 q.symm
theorem inB_enc (h : EncOk e n) (hs : sqOf (Ab.see A d) = some (ys.map e)) (hn : n ≤ 63 := by decide) : inB (e x) d A = some (decide (x ∈ ys)) := by
  unfold inB
  split
  · rename_i z hz; rw [hz] at hs; cases hs
  · rw [hs]
    simp only [h.see, h.ok (Nat.le_trans hn (by decide)), h.okSeq hn hs, Bool.and_self, if_true, h.any]
theorem gIn_enc (h : EncOk e n) (hs : sqOf (Ab.see A d) = some (ys.map e)) (hn : n ≤ 63 := by decide) : gIn (e x) d A = some (.bl (decide (x ∈ ys))) := by
  unfold gIn; rw [inB_enc h hs hn]; rfl
theorem gNotIn_enc (h : EncOk e n) (hs : sqOf (Ab.see A d) = some (ys.map e)) (hn : n ≤ 63 := by decide) : gNotIn (e x) d A = some (.bl (!decide (x ∈ ys))) := by
  unfold gNotIn; rw [inB_enc h hs hn]; rfl
end
end
/-! ### items -/
section
variable {A : Sl} {d e : D} {ds : List D} {i : Int}
theorem atI_nn {α : Type} {xs : List α} {i : Int} {x : α} (h0 : 0 ≤ i) (h : xs[i.toNat]? = some x) : atI xs i = some x := by
  have hl := (List.getElem?_eq_some_iff.mp h).1
  unfold atI ixN
  rw [if_pos h0, if_pos (by omega)]
  exact h
theorem atI_neg {α : Type} {xs : List α} {i : Int} {x : α} (h0 : i < 0) (h1 : 0 ≤ i + xs.length) (h : xs[(i + xs.length).toNat]? = some x) : atI xs i = some x := by
  unfold atI ixN
  rw [if_neg (by omega), if_pos (by omega)]
  exact h
theorem gIx_at (hs : sqOf (see A d) = some ds) (h : atI ds i = some e) (hf : isF e = true) : gIx d (.int i) A = some e := by
  unfold gIx
  simp only
  split
  · rename_i z hz; rw [hz] at hs; cases hs
  · rw [hs]; simp only [h, hf, if_true]
theorem gIx_map {α : Type} {f : α → D} {xs : List α} {x : α} (hs : sqOf (see A d) = some (xs.map f)) (h0 : 0 ≤ i) (h : xs[i.toNat]? = some x) (hf : isF (f x) = true) : gIx d (.int i) A = some (f x) :=
  gIx_at hs (atI_nn h0 (by rw [List.getElem?_map, h]; rfl)) hf
theorem idxOf_enc {α : Type} [DecidableEq α] {f : α → D} {n : Nat} (h : EncOk f n) (x : α) : ∀ (ys : List α) (k : Nat), x ∈ ys → idxOf (dat (f x)) (dats (ys.map f)) k = some (k + ys.idxOf x)
  | y :: ys, k, m => by
    rw [List.map_cons, dats, idxOf, h.eqv]
    by_cases e : y = x
    · subst e; simp
    · have m' : x ∈ ys := (List.mem_cons.mp m).resolve_left fun q => e q.symm
      rw [decide_eq_false e, if_neg Bool.false_ne_true, idxOf_enc h x ys (k + 1) m', List.idxOf_cons, show (y == x) = false by simpa using e]
      simp only [cond_false]
      congr 1; omega
theorem gIndex_enc {α : Type} [DecidableEq α] {f : α → D} {n : Nat} {x : α} {ys : List α} (h : EncOk f n) (hs : lsOf (see A d) = some (ys.map f)) (m : x ∈ ys) (hn : n ≤ 63 := by decide) : gIndex d [f x] A = some (.int ((ys.idxOf x : Nat) : Int)) := by
  have hs2 : sqOf (see A d) = some (ys.map f) := by
    revert hs
    cases see A d <;> simp [lsOf, sqOf]
  unfold gIndex
  simp only [hs, h.see, h.ok (Nat.le_trans hn (by decide)), h.okSeq hn hs2, Bool.and_self, if_true, idxOf_enc h x ys 0 m, Option.map_some, Nat.zero_add]
end
section
variable {A A1 : Sl} {fe : FE} {i : Nat} {ds es : List D}
theorem ev_it_al (h : A[i]? = some (some (.mu ds))) (hf : isFs ds = true) : fIt (fVar i) A = .ok ds (A.set i (some (.lst ds))) := by
  unfold fIt
  rw [ev_al h (by simp [isF])]
  simp only [Ou.bind_ok, closeD, h, fz, fzs_isFs hf, iterOf]
theorem gAdd_tup (h1 : isFs ds = true) (h2 : isFs es = true) (h3 : ds.length + es.length ≤ sizeLine) : gAdd (.tup ds) (.tup es) A = some (.tup (ds ++ es)) := by
  unfold gAdd
  simp only [see, h1, h2, h3, and_self, if_true]
theorem gAdd_lst {d e : D} (h0 : exOf (see A d) = some ds) (h00 : exOf (see A e) = some es) (h1 : isFs ds = true) (h2 : isFs es = true) (h3 : ds.length + es.length ≤ sizeLine) : gAdd d e A = some (.mu (ds ++ es)) := by
  unfold gAdd
  split
  · rename_i q _; rw [q] at h0; cases h0
  · rename_i q _; rw [q] at h0; cases h0
  · rename_i q _; rw [q] at h0; cases h0
  · rw [h0, h00]; simp only [h1, h2, h3, and_self, if_true]
end
end Ab
end
section
/-! statements by what holds behind them -/
namespace Ab
open PySem L2
def W (o : Ou Fl) (P : Fl → Sl → Prop) : Prop := ∃ r A', o = .ok r A' ∧ P r A'
section
variable {A A0 A1 A2 : Sl} {f g k : FS} {fe fa fb : FE} {ft : FT} {P Q : Fl → Sl → Prop} {r : Fl} {b : Bool}
theorem w_of (h : f A = .ok r A1) (hp : P r A1) : W (f A) P := ⟨r, A1, h, hp⟩
theorem w_imp (h : W (f A) P) (hq : ∀ r A, P r A → Q r A) : W (f A) Q := let ⟨r, A', e, p⟩ := h; ⟨r, A', e, hq _ _ p⟩
theorem w_seq_n (h : f A = .ok .next A1) (hk : W (g A1) P) : W (fSeq f g A) P := by
  obtain ⟨r, A', e, p⟩ := hk
  exact ⟨r, A', (seq_next h).trans e, p⟩
theorem w_seq (h : W (f A) fun r A1 => match r with | .next => W (g A1) P | r => P r A1) : W (fSeq f g A) P := by
  obtain ⟨r, A', e, p⟩ := h
  unfold fSeq
  rw [e]
  simp only [Ou.bind_ok]
  cases r with
  | next => exact p
  | brk => exact ⟨_, _, rfl, p⟩
  | cont => exact ⟨_, _, rfl, p⟩
  | ret d => exact ⟨_, _, rfl, p⟩
theorem w_seq_W (h : W (f A) fun r A1 => r = .next ∧ W (g A1) P) : W (fSeq f g A) P := by
  obtain ⟨r, A', e, rfl, p⟩ := h
  exact w_seq_n e p
theorem wf_next (h : P .next A) : W (fNext A) P := ⟨_, _, rfl, h⟩
theorem w_cont (h : P .cont A) : W (fCont A) P := ⟨_, _, rfl, h⟩
theorem w_brk (h : P .brk A) : W (fBrk A) P := ⟨_, _, rfl, h⟩
theorem w_seq_next (h : W (k A) P) : W (fSeq fNext k A) P := w_seq_n rfl h
theorem w_seq_cont (h : P .cont A) : W (fSeq fCont k A) P := w_seq ⟨_, _, rfl, h⟩
theorem w_if (h : ft A = .ok b A1) (ht : b = true → W (f A1) P) (hf : b = false → W (g A1) P) : W (fIf ft f g A) P := by
  cases b with
  | true => obtain ⟨r, A', e, p⟩ := ht rfl; exact ⟨r, A', (fif_t h).trans e, p⟩
  | false => obtain ⟨r, A', e, p⟩ := hf rfl; exact ⟨r, A', (fif_f h).trans e, p⟩
theorem w_seq_if (h : ft A = .ok b A1) (ht : b = true → W (fSeq f k A1) P) (hf : b = false → W (fSeq g k A1) P) : W (fSeq (fIf ft f g) k A) P := by
  cases b with
  | true =>
    have := ht rfl
    unfold fSeq at this ⊢
    rw [fif_t h]; exact this
  | false =>
    have := hf rfl
    unfold fSeq at this ⊢
    rw [fif_f h]; exact this
theorem w_assoc (h : W (fSeq f (fSeq g k) A) P) : W (fSeq (fSeq f g) k A) P := by
  have e : fSeq (fSeq f g) k A = fSeq f (fSeq g k) A := by
    unfold fSeq
    cases f A with
    | ok r A1 => cases r <;> rfl
    | exc _ _ => rfl
    | stuck => rfl
  rw [e]; exact h
/-- a for by an invariant; its turns go on -/
theorem w_seq_for {fi : FI} {t : Tg} {fb : FS} {xs : List D} (I : Nat → Sl → Prop) (hi : fi A = .ok xs A0) (h0 : I 0 A0) (hs : ∀ j d A, xs[j]? = some d → I j A → ∃ A1, t.set d A = some A1 ∧ W (fb A1) fun r A2 => (r = .next ∨ r = .cont) ∧ I (j + 1) A2)
    (hk : ∀ A', I xs.length A' → W (k A') P) : W (fSeq (fFor fi t fb) k A) P := by
  obtain ⟨A', h1, h2⟩ := for_ind I hi h0 fun j d A e h => by
    obtain ⟨A1, e1, r, A2, e2, hr, hI⟩ := hs j d A e h
    exact ⟨A1, A2, e1, hr.elim (fun z => .inl (by rw [← z]; exact e2)) fun z => .inr (by rw [← z]; exact e2), hI⟩
  exact w_seq_n h1 (hk A' h2)
theorem w_for {fi : FI} {t : Tg} {fb : FS} {xs : List D} (I : Nat → Sl → Prop) (hi : fi A = .ok xs A0) (h0 : I 0 A0) (hs : ∀ j d A, xs[j]? = some d → I j A → ∃ A1, t.set d A = some A1 ∧ W (fb A1) fun r A2 => (r = .next ∨ r = .cont) ∧ I (j + 1) A2)
    (hk : ∀ A', I xs.length A' → P .next A') : W (fFor fi t fb A) P := by
  obtain ⟨A', h1, h2⟩ := for_ind I hi h0 fun j d A e h => by
    obtain ⟨A1, e1, r, A2, e2, hr, hI⟩ := hs j d A e h
    exact ⟨A1, A2, e1, hr.elim (fun z => .inl (by rw [← z]; exact e2)) fun z => .inr (by rw [← z]; exact e2), hI⟩
  exact ⟨_, _, h1, hk A' h2⟩
/-- a for that may be left by a return: up to some turn all go on, then one gives r -/
theorem forL_find {t : Tg} {fb : FS} (I : Nat → Sl → Prop) (E : D → Prop) : ∀ (xs : List D) (n : Nat) (A : Sl), I n A → (∀ j d A, xs[j]? = some d → I (n + j) A → ∃ A1, t.set d A = some A1 ∧ W (fb A1) fun r A2 => (r = .next ∨ r = .cont) ∧ I (n + j + 1) A2 ∨ ∃ v, r = .ret v ∧ E v) →
    W (forL t fb xs A) fun r A' => r = .next ∧ I (n + xs.length) A' ∨ ∃ v, r = .ret v ∧ E v
  | [], n, A, h0, _ => ⟨.next, A, rfl, .inl ⟨rfl, h0⟩⟩
  | x :: xs, n, A, h0, hs => by
    obtain ⟨A1, h1, r, A2, h2, h3⟩ := hs 0 x A rfl h0
    unfold forL
    simp only [h1]
    rcases h3 with ⟨hr, h3⟩ | ⟨v, rfl, hv⟩
    · have ih := forL_find I E xs (n + 1) A2 h3 fun j d A e h => by
        have := hs (j + 1) d A (by simpa using e) (by rw [show n + (j + 1) = n + 1 + j by omega]; exact h)
        rw [show n + (j + 1) + 1 = n + 1 + j + 1 by omega] at this
        exact this
      rw [List.length_cons, show n + (xs.length + 1) = n + 1 + xs.length by omega]
      rcases hr with rfl | rfl <;> simp only [h2] <;> exact ih
    · simp only [h2]
      exact ⟨_, _, rfl, .inr ⟨v, rfl, hv⟩⟩
theorem w_seq_find {fi : FI} {t : Tg} {fb : FS} {xs : List D} (I : Nat → Sl → Prop) (E : D → Prop) (hi : fi A = .ok xs A0) (h0 : I 0 A0) (hs : ∀ j d A, xs[j]? = some d → I j A → ∃ A1, t.set d A = some A1 ∧ W (fb A1) fun r A2 => (r = .next ∨ r = .cont) ∧ I (j + 1) A2 ∨ ∃ v, r = .ret v ∧ E v)
    (hk : ∀ A', I xs.length A' → W (k A') P) (he : ∀ v A', E v → P (.ret v) A') : W (fSeq (fFor fi t fb) k A) P := by
  obtain ⟨r, A', h1, h2⟩ := forL_find (t := t) (fb := fb) I E xs 0 A0 h0 fun j d A e h => by rw [Nat.zero_add] at h ⊢; exact hs j d A e h
  have e : fFor fi t fb A = .ok r A' := by unfold fFor; rw [hi]; exact h1
  rcases h2 with ⟨rfl, h2⟩ | ⟨v, rfl, hv⟩
  · exact w_seq_n e (hk A' (by simpa using h2))
  · exact w_seq ⟨_, _, e, he v A' hv⟩
/-- while, by an invariant that falls -/
theorem whileN_w {c : FT} {fb : FS} (I : Nat → Sl → Prop) : ∀ (m n : Nat) (A : Sl), m < n → I m A → (∀ m A, I m A → ∃ b A1, c A = .ok b A1 ∧ (b = true → W (fb A1) fun r A2 => (r = .next ∨ r = .cont) ∧ ∃ m', m' < m ∧ I m' A2) ∧ (b = false → P .next A1)) → W (whileN c fb n A) P
  | m, 0, A, h, _, _ => absurd h (Nat.not_lt_zero _)
  | m, n + 1, A, h, hI, hs => by
    obtain ⟨b, A1, h1, h2, h3⟩ := hs m A hI
    unfold whileN
    cases b with
    | false => simp only [h1]; exact ⟨_, _, rfl, h3 rfl⟩
    | true =>
      obtain ⟨r, A2, h4, hr, m', hm, hI'⟩ := h2 rfl
      simp only [h1]
      have ih := whileN_w I m' n A2 (by omega) hI' hs
      rcases hr with rfl | rfl <;> simp only [h4] <;> exact ih
theorem w_seq_while {n : Nat} {c : FT} {fb : FS} (I : Nat → Sl → Prop) (m : Nat) (hm : m < n) (h0 : I m A) (hs : ∀ m A, I m A → ∃ b A1, c A = .ok b A1 ∧ (b = true → W (fb A1) fun r A2 => (r = .next ∨ r = .cont) ∧ ∃ m', m' < m ∧ I m' A2) ∧ (b = false → W (k A1) P)) : W (fSeq (fWhile n c fb) k A) P := by
  obtain ⟨r, A', e, p⟩ := whileN_w (P := fun r A1 => r = .next ∧ W (k A1) P) I m n A hm h0 fun m A hI => by
    obtain ⟨b, A1, h1, h2, h3⟩ := hs m A hI
    exact ⟨b, A1, h1, h2, fun hb => ⟨rfl, h3 hb⟩⟩
  obtain ⟨rfl, p⟩ := p
  exact w_seq_n e p
theorem w_ret {d : D} (h : fe A = .ok d A1) (hd : isF d = true) (hp : P (.ret d) A1) : W (fRet fe A) P := ⟨_, _, ev_ret h (isF_al hd), hp⟩
theorem w_ret_mu {ds : List D} (h : fe A = .ok (.mu ds) A1) (hp : P (.ret (.mu ds)) A1) : W (fRet fe A) P := ⟨_, _, ev_ret h (fun _ q => nomatch q), hp⟩
theorem w_ret_al {i : Nat} {ds : List D} (h : A[i]? = some (some (.mu ds))) (hp : P (.ret (.mu ds)) (A.set i none)) : W (fRet (fVar i) A) P := ⟨_, _, ev_ret_al h, hp⟩
theorem w_seq_ret (h : W (f A) fun r A1 => ∃ v, r = .ret v ∧ P (.ret v) A1) : W (fSeq f g A) P := by
  obtain ⟨r, A', e, v, rfl, p⟩ := h
  exact w_seq ⟨_, _, e, p⟩
end
/-- a def's answer -/
def Ret (P : D → Prop) : Fl → Sl → Prop := fun r _ => match r with
  | .ret d => (∀ i, d ≠ .al i) ∧ P d
  | .next => P .non
  | _ => False
theorem ret_of {P : D → Prop} {d : D} {A : Sl} (hd : isF d = true) (h : P d) : Ret P (.ret d) A := ⟨isF_al hd, h⟩
theorem ret_mu {P : D → Prop} {ds : List D} {A : Sl} (h : P (.mu ds)) : Ret P (.ret (.mu ds)) A := ⟨(fun _ q => nomatch q), h⟩
theorem def_w {ds : List D} {k n : Nat} {fs : FS} {P : D → Prop} (A0 : Sl) (hA : ds.map some ++ List.replicate (n - ds.length) none = A0) (hk : ds.length = k) (h : W (fs A0) (Ret P)) : ∃ d, defF k n fs ds = .ok d ∧ P d := by
  obtain ⟨r, A', e, p⟩ := h
  unfold defF runF
  rw [if_pos hk, hA, e]
  cases r with
  | next => exact ⟨_, rfl, p⟩
  | brk => exact p.elim
  | cont => exact p.elim
  | ret d =>
    obtain ⟨p1, p2⟩ := p
    refine ⟨d, ?_, p2⟩
    cases d <;> first | rfl | exact absurd rfl (p1 _)
theorem def_is {ds : List D} {k n : Nat} {fs : FS} {d : D} (A0 : Sl) (hA : ds.map some ++ List.replicate (n - ds.length) none = A0) (hk : ds.length = k) (h : W (fs A0) (Ret fun x => x = d)) : defF k n fs ds = .ok d := by
  obtain ⟨_, e, rfl⟩ := def_w A0 hA hk h
  exact e
theorem getD_get {α : Type} {xs : List α} {k : Nat} {d : α} (h : k < xs.length) : xs[k]? = some (xs.getD k d) := by
  rw [List.getD_eq_getElem?_getD, List.getElem?_eq_getElem h]; rfl
/-- menus -/
theorem gIx_2 {a b i : Int} {A : Sl} (h0 : 0 ≤ i) (h1 : i < 2) : gIx (.mu [.int a, .int b]) (.int i) A = some (.int (if i = 0 then a else b)) := by
  rcases (by omega : i = 0 ∨ i = 1) with rfl | rfl
  · exact gIx_at (ds := [.int a, .int b]) rfl rfl rfl
  · exact gIx_at (ds := [.int a, .int b]) rfl rfl rfl
theorem gIx_3 {a b c i : Int} {A : Sl} (h0 : 0 ≤ i) (h1 : i < 3) : gIx (.mu [.int a, .int b, .int c]) (.int i) A = some (.int (if i = 0 then a else if i = 1 then b else c)) := by
  rcases (by omega : i = 0 ∨ i = 1 ∨ i = 2) with rfl | rfl | rfl
  · exact gIx_at (ds := [.int a, .int b, .int c]) rfl rfl rfl
  · exact gIx_at (ds := [.int a, .int b, .int c]) rfl rfl rfl
  · exact gIx_at (ds := [.int a, .int b, .int c]) rfl rfl rfl
theorem gIx_4 {a b c d i : Int} {A : Sl} (h0 : 0 ≤ i) (h1 : i < 4) : gIx (.mu [.int a, .int b, .int c, .int d]) (.int i) A = some (.int (if i = 0 then a else if i = 1 then b else if i = 2 then c else d)) := by
  rcases (by omega : i = 0 ∨ i = 1 ∨ i = 2 ∨ i = 3) with rfl | rfl | rfl | rfl
  · exact gIx_at (ds := [.int a, .int b, .int c, .int d]) rfl rfl rfl
  · exact gIx_at (ds := [.int a, .int b, .int c, .int d]) rfl rfl rfl
  · exact gIx_at (ds := [.int a, .int b, .int c, .int d]) rfl rfl rfl
  · exact gIx_at (ds := [.int a, .int b, .int c, .int d]) rfl rfl rfl
theorem range_get {n j : Nat} {d : D} (h : ((List.range n).map fun i => D.int (i : Nat))[j]? = some d) : d = .int (j : Nat) ∧ j < n := by
  have hj : j < n := by simpa using (List.getElem?_eq_some_iff.mp h).1
  rw [List.getElem?_map, List.getElem?_range hj] at h
  exact ⟨(Option.some.inj h).symm, hj⟩
theorem map_get {α : Type} {f : α → D} {xs : List α} {j : Nat} {d : D} (h : (xs.map f)[j]? = some d) : ∃ x, xs[j]? = some x ∧ d = f x := by
  rw [List.getElem?_map] at h
  cases q : xs[j]? with
  | none => rw [q] at h; cases h
  | some x => rw [q] at h; exact ⟨x, rfl, (Option.some.inj h).symm⟩
theorem compL_map {α β : Type} {e : α → D} {e' : β → D} {t : Tg} {ft : FT} {fe : FE} {A : Sl} (f : α → β) (p : α → Bool) : ∀ (xs : List α) (acc : List D), acc.length + xs.length ≤ sizeLine → (∀ x ∈ xs, ∃ A1, t.set (e x) A = some A1 ∧ ft A1 = .ok (p x) A1 ∧ (p x = true → fe A1 = .ok (e' (f x)) A1 ∧ ∀ i, e' (f x) ≠ .al i) ∧ wipeA A1 t.own = A) →
    compL t ft fe (xs.map e) acc A = .ok (acc ++ ((xs.filter p).map f).map e') A
  | [], acc, _, _ => by simp [compL]
  | d :: ds, acc, hl, h => by
    obtain ⟨A1, h1, h2, h3, h4⟩ := h d List.mem_cons_self
    have ih := fun acc' h' => compL_map f p ds acc' h' (fun d' m => h d' (List.mem_cons_of_mem _ m))
    rw [List.length_cons] at hl
    rw [List.map_cons]
    unfold compL
    rw [h1]
    simp only [h2]
    cases hp : p d with
    | false =>
      simp only [h4]
      rw [ih acc (by omega), List.filter_cons_of_neg (by simp [hp])]
    | true =>
      obtain ⟨h5, h6⟩ := h3 hp
      have ec : closeD (e' (f d)) A1 = some (e' (f d), A1) := by
        unfold closeD
        cases hg : e' (f d) <;> first | rfl | exact absurd hg (h6 _)
      simp only [h5, ec, h4]
      rw [if_pos (by omega), ih _ (by simp; omega), List.filter_cons_of_pos hp, List.map_cons, List.map_cons, List.append_assoc]
      rfl
theorem fcomp_filter {α β : Type} {e : α → D} {e' : β → D} {fi : FI} {t : Tg} {ft : FT} {fe : FE} {A A0 : Sl} {xs : List α} (f : α → β) (p : α → Bool) (hi : fi A = .ok (xs.map e) A0) (hl : xs.length ≤ sizeLine) (h : ∀ x ∈ xs, ∃ A1, t.set (e x) (wipeA A0 t.own) = some A1 ∧ ft A1 = .ok (p x) A1 ∧ (p x = true → fe A1 = .ok (e' (f x)) A1 ∧ ∀ i, e' (f x) ≠ .al i) ∧ wipeA A1 t.own = wipeA A0 t.own) :
    fComp fi t ft fe A = .ok (.mu (((xs.filter p).map f).map e')) (wipeA (wipeA A0 t.own) t.own) := by
  unfold fComp
  rw [hi]
  simp only [Ou.bind_ok]
  rw [compL_map f p xs [] (by simpa using hl) h]
  simp
theorem fcomp_map {α β : Type} {e : α → D} {e' : β → D} {fi : FI} {t : Tg} {fe : FE} {A A0 : Sl} {xs : List α} (f : α → β) (hi : fi A = .ok (xs.map e) A0) (hl : xs.length ≤ sizeLine) (h : ∀ x ∈ xs, ∃ A1, t.set (e x) (wipeA A0 t.own) = some A1 ∧ fe A1 = .ok (e' (f x)) A1 ∧ (∀ i, e' (f x) ≠ .al i) ∧ wipeA A1 t.own = wipeA A0 t.own) :
    fComp fi t fYes fe A = .ok (.mu ((xs.map f).map e')) (wipeA (wipeA A0 t.own) t.own) := by
  have := fcomp_filter (ft := fYes) f (fun _ => true) hi hl fun x m => by
    obtain ⟨A1, h1, h2, h3, h4⟩ := h x m
    exact ⟨A1, h1, rfl, fun _ => ⟨h2, h3⟩, h4⟩
  rw [List.filter_eq_self.mpr (fun _ _ => rfl)] at this
  exact this
/-! isinstance -/
section
variable {A : Sl} {v : Int} {ds : List D}
theorem isi_ii : gIsi [.int v, .ty "int"] A = some (.bl true) := by
  show (kitB "int" "int").map D.bl = _; rw [show kitB "int" "int" = some true by decide +kernel]; rfl
theorem isi_ib : gIsi [.int v, .ty "bool"] A = some (.bl false) := by
  show (kitB "int" "bool").map D.bl = _; rw [show kitB "int" "bool" = some false by decide +kernel]; rfl
theorem isi_tt : gIsi [.tup ds, .ty "tuple"] A = some (.bl true) := by
  show (kitB "tuple" "tuple").map D.bl = _; rw [show kitB "tuple" "tuple" = some true by decide +kernel]; rfl
theorem isi_ll : gIsi [.lst ds, .ty "list"] A = some (.bl true) := by
  show (kitB "list" "list").map D.bl = _; rw [show kitB "list" "list" = some true by decide +kernel]; rfl
theorem isi_ml : gIsi [.mu ds, .ty "list"] A = some (.bl true) := by
  show (kitB "list" "list").map D.bl = _; rw [show kitB "list" "list" = some true by decide +kernel]; rfl
theorem isi_bi {b : Bool} : gIsi [.bl b, .ty "int"] A = some (.bl true) := by
  show (kitB "bool" "int").map D.bl = _; rw [show kitB "bool" "int" = some true by decide +kernel]; rfl
theorem isi_bb {b : Bool} : gIsi [.bl b, .ty "bool"] A = some (.bl true) := by
  show (kitB "bool" "bool").map D.bl = _; rw [show kitB "bool" "bool" = some true by decide +kernel]; rfl
theorem isi_ss {x : Str} : gIsi [.str x, .ty "str"] A = some (.bl true) := by
  show (kitB "str" "str").map D.bl = _; rw [show kitB "str" "str" = some true by decide +kernel]; rfl
end
end Ab
end
section
namespace Lw
open PySem PySem.Spec PyProof.Rows L2 Ab
/-- came_to(hands, weather, hand, other) -/
def f_came_to : FS := fRet (fCB gTuple (fCons (fComp (fRange (fVar 0)) (.nm 3) (fAnd (fB (fBin gNe (fVar 3) (fVar 2))) (fB (fBin gNotIn (fTup (fCons (fVar 3) (fCons (fVar 2) (fNil)))) (fVar 1)))) (fVar 3)) (fNil)))
def F_came_to : List D → Ro := defF 3 4 f_came_to
/-- cut_to(run, rounds) -/
def f_cut_to : FS := fRet (fTup (fCons (fBin gIx (fVar 0) (fC (.int 0))) (fCons (fSl (fBin gIx (fVar 0) (fC (.int 1))) fNoPart (fPart (fVar 1))) (fNil))))
def F_cut_to : List D → Ro := defF 2 2 f_cut_to
/-- heard_spots(run, hand, heard, rows, weather, more, other, start) -/
def f_heard_spots : FS := fSeq (fAsgF 2 (fLst (fCons (fVar 1) (fNil)))) (fSeq (fAsg 3 (fLst (fCons (fVar 2) (fNil)))) (fSeq (fFor (fIt (fSlS (fBin gIx (fVar 0) (fC (.int 1))) fNoPart fNoPart (fPart (fUn gNeg (fC (.int 1)))))) (.nm 4) (fSeq (fAsg 5 (fCB gList (fCons (fVar 2) (fNil)))) (fSeq (fFor (fIt (fVar 2)) (.nm 6) (fFor (fIt (fCall F_came_to (fCons (fCB gLen (fCons (fBin gIx (fVar 0) (fC (.int 0))) (fNil))) (fCons (fVar 4) (fCons (fVar 6) (fNil)))))) (.nm 7) (fIf (fB (fBin gNotIn (fVar 7) (fVar 5))) (fDrop (fApp 5 (fVar 7))) (fNext)))) (fSeq (fAsgF 2 (fVar 5)) (fDrop (fApp 3 (fVar 2))))))) (fRet (fSlS (fVar 3) fNoPart fNoPart (fPart (fUn gNeg (fC (.int 1))))))))
def F_heard_spots : List D → Ro := defF 2 8 f_heard_spots
/-- view(run, hand, rows, hands, values, other, came, heard, weather, some) -/
def f_view : FS := fSeq (fAsgF 2 (fCall F_heard_spots (fCons (fVar 0) (fCons (fVar 1) (fNil))))) (fSeq (fAsgF 3 (fCB gLen (fCons (fBin gIx (fVar 0) (fC (.int 0))) (fNil)))) (fSeq (fAsg 4 (fLst (fNil))) (fSeq (fFor (fRange (fVar 3)) (.nm 5) (fIf (fB (fBin gIn (fVar 5) (fBin gIx (fVar 2) (fC (.int 0))))) (fDrop (fApp 4 (fBin gIx (fBin gIx (fVar 0) (fC (.int 0))) (fVar 5)))) (fDrop (fApp 4 (fC .non))))) (fSeq (fAsg 6 (fLst (fNil))) (fSeq (fFor (fZip (fSl (fVar 2) (fPart (fC (.int 1))) fNoPart) (fBin gIx (fVar 0) (fC (.int 1)))) (.tu [7, 8]) (fSeq (fAsg 9 (fLst (fNil))) (fSeq (fFor (fRange (fVar 3)) (.nm 5) (fIf (fB (fBin gIn (fVar 5) (fVar 7))) (fDrop (fApp 9 (fCall F_came_to (fCons (fVar 3) (fCons (fVar 8) (fCons (fVar 5) (fNil))))))) (fDrop (fApp 9 (fC .non))))) (fDrop (fApp 6 (fCB gTuple (fCons (fVar 9) (fNil)))))))) (fRet (fTup (fCons (fVar 1) (fCons (fCB gTuple (fCons (fVar 4) (fNil))) (fCons (fCB gTuple (fCons (fVar 6) (fNil))) (fNil)))))))))))
def F_view : List D → Ro := defF 2 10 f_view
/-- alike(one, other, hand) -/
def f_alike : FS := fRet (fBin gEq (fCall F_view (fCons (fVar 0) (fCons (fVar 2) (fNil)))) (fCall F_view (fCons (fVar 1) (fCons (fVar 2) (fNil)))))
def F_alike : List D → Ro := defF 3 3 f_alike
/-- _law_cell_at(_law_script, _law_k) -/
def f__law_cell_at : FS := fSeq (fIf (fB (fBin gLt (fVar 1) (fCB gLen (fCons (fVar 0) (fNil))))) (fRet (fBin gIx (fVar 0) (fVar 1))) (fNext)) (fRet (fC (.int 0)))
def F__law_cell_at : List D → Ro := defF 2 2 f__law_cell_at
/-- _law_mix(_law_cell, _law_k, _law_number, _law_turn) -/
def f__law_mix : FS := fSeq (fIf (fB (fBin gGe (fVar 0) (fBin gPow (fC (.int 10)) (fC (.int 12))))) (fSeq (fAsgF 0 (fBin gMinus (fBin gDiv (fVar 0) (fBin gPow (fC (.int 10)) (fC (.int 12)))) (fC (.int 1)))) (fSeq (fFor (fRange (fBin gMod (fVar 1) (fC (.int 61)))) (.nm 3) (fAsgF 0 (fBin gDiv (fVar 0) (fC (.int 2147483648))))) (fRet (fBin gMod (fVar 0) (fC (.int 2147483648)))))) (fNext)) (fSeq (fAsgF 2 (fBin gMod (fBin gMulA (fBin gAdd (fBin gAdd (fBin gMod (fVar 0) (fC (.int 1000003))) (fBin gMulA (fBin gMulA (fVar 1) (fVar 1)) (fC (.int 7919)))) (fVar 1)) (fC (.int 48271))) (fC (.int 2147483629)))) (fSeq (fAsgF 2 (fBin gMod (fBin gMulA (fVar 2) (fVar 2)) (fC (.int 2147483587)))) (fRet (fBin gDiv (fBin gMod (fBin gMulA (fVar 2) (fBin gAdd (fVar 2) (fC (.int 2)))) (fC (.int 2147483579))) (fC (.int 7))))))
def F__law_mix : List D → Ro := defF 2 4 f__law_mix
/-- _law_pairs(_law_hands, _law_found, _law_start, _law_goal) -/
def f__law_pairs : FS := fSeq (fAsg 1 (fLst (fNil))) (fSeq (fFor (fRange (fVar 0)) (.nm 2) (fFor (fRange (fVar 0)) (.nm 3) (fIf (fB (fBin gNe (fVar 2) (fVar 3))) (fDrop (fApp 1 (fTup (fCons (fVar 2) (fCons (fVar 3) (fNil)))))) (fNext)))) (fRet (fVar 1)))
def F__law_pairs : List D → Ro := defF 1 4 f__law_pairs
/-- _law_weather(_law_number, _law_hands, _law_lost, _law_pair) -/
def f__law_weather : FS := fSeq (fAsg 2 (fLst (fNil))) (fSeq (fFor (fIt (fCall F__law_pairs (fCons (fVar 1) (fNil)))) (.nm 3) (fSeq (fIf (fB (fBin gEq (fBin gMod (fVar 0) (fC (.int 3))) (fC (.int 0)))) (fDrop (fApp 2 (fVar 3))) (fNext)) (fAsgF 0 (fBin gDiv (fVar 0) (fC (.int 3)))))) (fRet (fCB gTuple (fCons (fVar 2) (fNil)))))
def F__law_weather : List D → Ro := defF 2 4 f__law_weather
/-- _law_values(_law_script, _law_one, _law_other) -/
def f__law_values : FS := fSeq (fAsgF 1 (fBin gMod (fCall F__law_cell_at (fCons (fVar 0) (fCons (fC (.int 5)) (fNil)))) (fBin gPow (fC (.int 10)) (fC (.int 60))))) (fSeq (fAsgF 2 (fBin gAdd (fBin gAdd (fVar 1) (fC (.int 1))) (fBin gMod (fCall F__law_cell_at (fCons (fVar 0) (fCons (fC (.int 6)) (fNil)))) (fC (.int 5))))) (fSeq (fIf (fB (fBin gEq (fBin gMod (fCall F__law_cell_at (fCons (fVar 0) (fCons (fC (.int 7)) (fNil)))) (fC (.int 2))) (fC (.int 1)))) (fAsgF 2 (fBin gMinus (fUn gNeg (fC (.int 1))) (fBin gMod (fCall F__law_cell_at (fCons (fVar 0) (fCons (fC (.int 6)) (fNil)))) (fBin gPow (fC (.int 10)) (fC (.int 59)))))) (fNext)) (fRet (fLst (fCons (fBin gDiv (fVar 1) (fC (.int 10))) (fCons (fBin gMinus (fBin gDiv (fVar 2) (fC (.int 10))) (fC (.int 1))) (fCons (fBin gAdd (fC (.int 7)) (fBin gDiv (fVar 1) (fC (.int 10)))) (fNil))))))))
def F__law_values : List D → Ro := defF 1 3 f__law_values
/-- _law_long_run(_law_script, _law_hands, _law_values_here, _law_start, _law_weathers, _law_rounds, _law_k, _law_number, _law_cell) -/
def f__law_long_run : FS := fSeq (fAsgF 2 (fCall F__law_values (fCons (fVar 0) (fNil)))) (fSeq (fAsgF 3 (fCB gTuple (fCons (fComp (fRange (fVar 1)) (.nm 6) fYes (fBin gIx (fVar 2) (fBin gMod (fCall F__law_mix (fCons (fCall F__law_cell_at (fCons (fVar 0) (fCons (fBin gAdd (fC (.int 8)) (fVar 6)) (fNil)))) (fCons (fVar 6) (fNil)))) (fC (.int 3))))) (fNil)))) (fSeq (fAsg 4 (fLst (fNil))) (fSeq (fAsgF 5 (fBin gMod (fBin gDiv (fCall F__law_cell_at (fCons (fVar 0) (fCons (fC (.int 0)) (fNil)))) (fC (.int 3))) (fC (.int 6)))) (fSeq (fFor (fRange (fVar 5)) (.nm 6) (fSeq (fAsgF 7 (fC (.int 0))) (fSeq (fFor (fIt (fSlS (fSl (fVar 0) fNoPart (fPart (fC (.int 63)))) (fPart (fVar 6)) fNoPart (fPart (fVar 5)))) (.nm 8) (fAsgF 7 (fBin gMod (fBin gAdd (fBin gMulA (fVar 7) (fC (.int 31))) (fCall F__law_mix (fCons (fVar 8) (fCons (fVar 6) (fNil))))) (fC (.int 2147483629))))) (fDrop (fApp 4 (fCall F__law_weather (fCons (fVar 7) (fCons (fVar 1) (fNil))))))))) (fRet (fTup (fCons (fVar 3) (fCons (fCB gTuple (fCons (fVar 4) (fNil))) (fNil)))))))))
def F__law_long_run : List D → Ro := defF 2 9 f__law_long_run
/-- _law_senders(_law_hands, _law_weather_here, _law_hand, _law_found, _law_other) -/
def f__law_senders : FS := fSeq (fAsg 3 (fLst (fNil))) (fSeq (fFor (fRange (fVar 0)) (.nm 4) (fIf (fAnd (fB (fBin gNe (fVar 4) (fVar 2))) (fB (fBin gNotIn (fTup (fCons (fVar 4) (fCons (fVar 2) (fNil)))) (fVar 1)))) (fDrop (fApp 3 (fVar 4))) (fNext))) (fRet (fCB gTuple (fCons (fVar 3) (fNil)))))
def F__law_senders : List D → Ro := defF 3 5 f__law_senders
/-- _law_changed(_law_number, _law_run, _law_hands, _law_at, _law_pairs_here, _law_pair, _law_weather_here, _law_hand, _law_one) -/
def f__law_changed : FS := fSeq (fAsgF 2 (fCB gLen (fCons (fBin gIx (fVar 1) (fC (.int 0))) (fNil)))) (fSeq (fIf (fOr (fB (fBin gEq (fBin gMod (fVar 0) (fC (.int 3))) (fC (.int 0)))) (fB (fBin gEq (fBin gIx (fVar 1) (fC (.int 1))) (fTup (fNil))))) (fSeq (fAsgF 7 (fBin gMod (fBin gDiv (fVar 0) (fC (.int 3))) (fVar 2))) (fRet (fTup (fCons (fBin gAdd (fBin gAdd (fSl (fBin gIx (fVar 1) (fC (.int 0))) fNoPart (fPart (fVar 7))) (fTup (fCons (fBin gAdd (fBin gDiv (fBin gIx (fBin gIx (fVar 1) (fC (.int 0))) (fVar 7)) (fC (.int 10))) (fBin gMod (fBin gDiv (fVar 0) (fC (.int 12))) (fC (.int 2)))) (fNil)))) (fSl (fBin gIx (fVar 1) (fC (.int 0))) (fPart (fBin gAdd (fVar 7) (fC (.int 1)))) fNoPart)) (fCons (fBin gIx (fVar 1) (fC (.int 1))) (fNil)))))) (fNext)) (fSeq (fAsgF 3 (fBin gMod (fBin gDiv (fVar 0) (fC (.int 3))) (fCB gLen (fCons (fBin gIx (fVar 1) (fC (.int 1))) (fNil))))) (fSeq (fAsgF 4 (fCall F__law_pairs (fCons (fVar 2) (fNil)))) (fSeq (fAsgF 5 (fBin gIx (fVar 4) (fBin gMod (fBin gDiv (fVar 0) (fC (.int 18))) (fCB gLen (fCons (fVar 4) (fNil)))))) (fSeq (fAsgF 6 (fCB gTuple (fCons (fComp (fIt (fBin gIx (fBin gIx (fVar 1) (fC (.int 1))) (fVar 3))) (.nm 8) (fB (fBin gNe (fVar 8) (fVar 5))) (fVar 8)) (fNil)))) (fSeq (fIf (fB (fBin gEq (fVar 6) (fBin gIx (fBin gIx (fVar 1) (fC (.int 1))) (fVar 3)))) (fAsgF 6 (fCB gTuple (fCons (fCB gSorted (fCons (fBin gAdd (fCB gList (fCons (fVar 6) (fNil))) (fLst (fCons (fVar 5) (fNil)))) (fNil))) (fNil)))) (fNext)) (fRet (fTup (fCons (fBin gIx (fVar 1) (fC (.int 0))) (fCons (fBin gAdd (fBin gAdd (fSl (fBin gIx (fVar 1) (fC (.int 1))) fNoPart (fPart (fVar 3))) (fTup (fCons (fVar 6) (fNil)))) (fSl (fBin gIx (fVar 1) (fC (.int 1))) (fPart (fBin gAdd (fVar 3) (fC (.int 1)))) fNoPart)) (fNil)))))))))))
def F__law_changed : List D → Ro := defF 2 9 f__law_changed
/-- _law_same(_law_one, _law_other, _law_hands, _law_same_here, _law_k, _law_after, _law_hand, _law_some, _law_held, _law_start) -/
def f__law_same : FS := fSeq (fAsgF 2 (fCB gLen (fCons (fBin gIx (fVar 0) (fC (.int 0))) (fNil)))) (fSeq (fAsg 3 (fComp (fRange (fVar 2)) (.nm 6) fYes (fBin gEq (fBin gIx (fBin gIx (fVar 0) (fC (.int 0))) (fVar 6)) (fBin gIx (fBin gIx (fVar 1) (fC (.int 0))) (fVar 6))))) (fSeq (fFor (fRange (fCB gLen (fCons (fBin gIx (fVar 0) (fC (.int 1))) (fNil)))) (.nm 4) (fSeq (fAsg 5 (fLst (fNil))) (fSeq (fFor (fRange (fVar 2)) (.nm 6) (fSeq (fAsgF 7 (fCall F__law_senders (fCons (fVar 2) (fCons (fBin gIx (fBin gIx (fVar 0) (fC (.int 1))) (fVar 4)) (fCons (fVar 6) (fNil)))))) (fSeq (fAsgF 8 (fAndV (fBin gIx (fVar 3) (fVar 6)) (fBin gEq (fVar 7) (fCall F__law_senders (fCons (fVar 2) (fCons (fBin gIx (fBin gIx (fVar 1) (fC (.int 1))) (fVar 4)) (fCons (fVar 6) (fNil)))))))) (fSeq (fFor (fIt (fVar 7)) (.nm 9) (fAsgF 8 (fAndV (fVar 8) (fBin gIx (fVar 3) (fVar 9))))) (fDrop (fApp 5 (fVar 8))))))) (fAsgM 3 (fVar 5))))) (fRet (fVar 3))))
def F__law_same : List D → Ro := defF 2 10 f__law_same
/-- law(_law_script, _law_hands, _law_one, _law_other, _law_k, _law_due, _law_hand, _law_found, _law_rounds) -/
def f_law : FS := fSeq (fAsgF 1 (fBin gAdd (fC (.int 2)) (fBin gMod (fCall F__law_cell_at (fCons (fVar 0) (fCons (fC (.int 0)) (fNil)))) (fC (.int 3))))) (fSeq (fAsgF 2 (fCall F__law_long_run (fCons (fVar 0) (fCons (fVar 1) (fNil))))) (fSeq (fAsgF 3 (fVar 2)) (fSeq (fFor (fRange (fBin gMod (fCall F__law_mix (fCons (fCall F__law_cell_at (fCons (fVar 0) (fCons (fC (.int 3)) (fNil)))) (fCons (fC (.int 3)) (fNil)))) (fC (.int 4)))) (.nm 4) (fAsgF 3 (fCall F__law_changed (fCons (fCall F__law_mix (fCons (fCall F__law_cell_at (fCons (fVar 0) (fCons (fBin gAdd (fC (.int 4)) (fVar 4)) (fNil)))) (fCons (fBin gAdd (fC (.int 90)) (fVar 4)) (fNil)))) (fCons (fVar 3) (fNil)))))) (fSeq (fAsgF 5 (fCall F__law_same (fCons (fVar 2) (fCons (fVar 3) (fNil))))) (fSeq (fFor (fRange (fVar 1)) (.nm 6) (fSeq (fFor (fIt (fLst (fCons (fCall F_alike (fCons (fVar 2) (fCons (fVar 3) (fCons (fVar 6) (fNil))))) (fCons (fCall F_alike (fCons (fVar 3) (fCons (fVar 2) (fCons (fVar 6) (fNil))))) (fNil))))) (.nm 7) (fIf (fOr (fNot (fB (fCB gIsi (fCons (fVar 7) (fCons (fC (.ty "bool")) (fNil)))))) (fB (fBin gNe (fVar 7) (fBin gIx (fVar 5) (fVar 6))))) (fRet (fC (.bl false))) (fNext))) (fSeq (fIf (fOr (fB (fBin gNe (fBin gEq (fCall F_view (fCons (fVar 2) (fCons (fVar 6) (fNil)))) (fCall F_view (fCons (fVar 3) (fCons (fVar 6) (fNil))))) (fBin gIx (fVar 5) (fVar 6)))) (fB (fBin gNotB (fCall F_alike (fCons (fVar 2) (fCons (fVar 2) (fCons (fVar 6) (fNil))))) (fC (.bl true))))) (fRet (fC (.bl false))) (fNext)) (fFor (fRange (fCB gLen (fCons (fBin gIx (fVar 2) (fC (.int 1))) (fNil)))) (.nm 8) (fIf (fAnd (fB (fBin gIx (fVar 5) (fVar 6))) (fB (fBin gNotB (fCall F_alike (fCons (fCall F_cut_to (fCons (fVar 2) (fCons (fVar 8) (fNil)))) (fCons (fCall F_cut_to (fCons (fVar 3) (fCons (fVar 8) (fNil)))) (fCons (fVar 6) (fNil))))) (fC (.bl true))))) (fRet (fC (.bl false))) (fNext)))))) (fRet (fC (.bl true))))))))
def F_law : List D → Ro := defF 1 9 f_law
end Lw
end
section
namespace Lw
open PySem PySem.Spec PyProof.Rows L2 Ab
def topS (i : Nat) : Stmt := PySem.Challenge.pw_losspact_k13_alike.main.body.getD i (.Pass ⟨0, 0, 0, 0⟩)
abbrev s_came_to : Stmt := topS 1
abbrev N_came_to : List Str := ["hands", "weather", "hand", "other"]
theorem sc_came_to : FnScope N_came_to ["hands", "weather", "hand"] (defScope s_came_to) := ⟨rfl, rfl, rfl, by decide +kernel, rfl, by decide +kernel, by decide +kernel⟩
abbrev s_cut_to : Stmt := topS 2
abbrev N_cut_to : List Str := ["run", "rounds"]
theorem sc_cut_to : FnScope N_cut_to ["run", "rounds"] (defScope s_cut_to) := ⟨rfl, rfl, rfl, by decide +kernel, rfl, by decide +kernel, by decide +kernel⟩
abbrev s_heard_spots : Stmt := topS 3
abbrev N_heard_spots : List Str := ["run", "hand", "heard", "rows", "weather", "more", "other", "start"]
theorem sc_heard_spots : FnScope N_heard_spots ["run", "hand"] (defScope s_heard_spots) := ⟨rfl, rfl, rfl, by decide +kernel, rfl, by decide +kernel, by decide +kernel⟩
abbrev s_view : Stmt := topS 4
abbrev N_view : List Str := ["run", "hand", "rows", "hands", "values", "other", "came", "heard", "weather", "some"]
theorem sc_view : FnScope N_view ["run", "hand"] (defScope s_view) := ⟨rfl, rfl, rfl, by decide +kernel, rfl, by decide +kernel, by decide +kernel⟩
abbrev s_alike : Stmt := topS 5
abbrev N_alike : List Str := ["one", "other", "hand"]
theorem sc_alike : FnScope N_alike ["one", "other", "hand"] (defScope s_alike) := ⟨rfl, rfl, rfl, by decide +kernel, rfl, by decide +kernel, by decide +kernel⟩
abbrev s__law_cell_at : Stmt := topS 7
abbrev N__law_cell_at : List Str := ["_law_script", "_law_k"]
theorem sc__law_cell_at : FnScope N__law_cell_at ["_law_script", "_law_k"] (defScope s__law_cell_at) := ⟨rfl, rfl, rfl, by decide +kernel, rfl, by decide +kernel, by decide +kernel⟩
abbrev s__law_mix : Stmt := topS 8
abbrev N__law_mix : List Str := ["_law_cell", "_law_k", "_law_number", "_law_turn"]
theorem sc__law_mix : FnScope N__law_mix ["_law_cell", "_law_k"] (defScope s__law_mix) := ⟨rfl, rfl, rfl, by decide +kernel, rfl, by decide +kernel, by decide +kernel⟩
abbrev s__law_pairs : Stmt := topS 9
abbrev N__law_pairs : List Str := ["_law_hands", "_law_found", "_law_start", "_law_goal"]
theorem sc__law_pairs : FnScope N__law_pairs ["_law_hands"] (defScope s__law_pairs) := ⟨rfl, rfl, rfl, by decide +kernel, rfl, by decide +kernel, by decide +kernel⟩
abbrev s__law_weather : Stmt := topS 10
abbrev N__law_weather : List Str := ["_law_number", "_law_hands", "_law_lost", "_law_pair"]
theorem sc__law_weather : FnScope N__law_weather ["_law_number", "_law_hands"] (defScope s__law_weather) := ⟨rfl, rfl, rfl, by decide +kernel, rfl, by decide +kernel, by decide +kernel⟩
abbrev s__law_values : Stmt := topS 11
abbrev N__law_values : List Str := ["_law_script", "_law_one", "_law_other"]
theorem sc__law_values : FnScope N__law_values ["_law_script"] (defScope s__law_values) := ⟨rfl, rfl, rfl, by decide +kernel, rfl, by decide +kernel, by decide +kernel⟩
abbrev s__law_long_run : Stmt := topS 12
abbrev N__law_long_run : List Str := ["_law_script", "_law_hands", "_law_values_here", "_law_start", "_law_weathers", "_law_rounds", "_law_k", "_law_number", "_law_cell"]
theorem sc__law_long_run : FnScope N__law_long_run ["_law_script", "_law_hands"] (defScope s__law_long_run) := ⟨rfl, rfl, rfl, by decide +kernel, rfl, by decide +kernel, by decide +kernel⟩
abbrev s__law_senders : Stmt := topS 13
abbrev N__law_senders : List Str := ["_law_hands", "_law_weather_here", "_law_hand", "_law_found", "_law_other"]
theorem sc__law_senders : FnScope N__law_senders ["_law_hands", "_law_weather_here", "_law_hand"] (defScope s__law_senders) := ⟨rfl, rfl, rfl, by decide +kernel, rfl, by decide +kernel, by decide +kernel⟩
abbrev s__law_changed : Stmt := topS 14
abbrev N__law_changed : List Str := ["_law_number", "_law_run", "_law_hands", "_law_at", "_law_pairs_here", "_law_pair", "_law_weather_here", "_law_hand", "_law_one"]
theorem sc__law_changed : FnScope N__law_changed ["_law_number", "_law_run"] (defScope s__law_changed) := ⟨rfl, rfl, rfl, by decide +kernel, rfl, by decide +kernel, by decide +kernel⟩
abbrev s__law_same : Stmt := topS 15
abbrev N__law_same : List Str := ["_law_one", "_law_other", "_law_hands", "_law_same_here", "_law_k", "_law_after", "_law_hand", "_law_some", "_law_held", "_law_start"]
theorem sc__law_same : FnScope N__law_same ["_law_one", "_law_other"] (defScope s__law_same) := ⟨rfl, rfl, rfl, by decide +kernel, rfl, by decide +kernel, by decide +kernel⟩
abbrev s_law : Stmt := topS 16
abbrev N_law : List Str := ["_law_script", "_law_hands", "_law_one", "_law_other", "_law_k", "_law_due", "_law_hand", "_law_found", "_law_rounds"]
theorem sc_law : FnScope N_law ["_law_script"] (defScope s_law) := ⟨rfl, rfl, rfl, by decide +kernel, rfl, by decide +kernel, by decide +kernel⟩
/-- what the top has left: the defs' places a, their data, the built-ins, the constants -/
structure Txt (K : PySem.W.Frag) (mg : Str → Option Value) (a : Nat → Addr) (fd : Nat → FuncData) : Prop where
  f_came_to : Fun K "came_to" "came_to" s_came_to (a 0) (fd 0)
  g_came_to : mg "came_to" = some (.ref (a 0))
  k_came_to : PySem.W.keepIn K (.ref (a 0)) = true
  b_came_to : L2.Binds K (fd 0) ["hands", "weather", "hand"] []
  f_cut_to : Fun K "cut_to" "cut_to" s_cut_to (a 1) (fd 1)
  g_cut_to : mg "cut_to" = some (.ref (a 1))
  k_cut_to : PySem.W.keepIn K (.ref (a 1)) = true
  b_cut_to : L2.Binds K (fd 1) ["run", "rounds"] []
  f_heard_spots : Fun K "heard_spots" "heard_spots" s_heard_spots (a 2) (fd 2)
  g_heard_spots : mg "heard_spots" = some (.ref (a 2))
  k_heard_spots : PySem.W.keepIn K (.ref (a 2)) = true
  b_heard_spots : L2.Binds K (fd 2) ["run", "hand"] []
  f_view : Fun K "view" "view" s_view (a 3) (fd 3)
  g_view : mg "view" = some (.ref (a 3))
  k_view : PySem.W.keepIn K (.ref (a 3)) = true
  b_view : L2.Binds K (fd 3) ["run", "hand"] []
  f_alike : Fun K "alike" "alike" s_alike (a 4) (fd 4)
  g_alike : mg "alike" = some (.ref (a 4))
  k_alike : PySem.W.keepIn K (.ref (a 4)) = true
  b_alike : L2.Binds K (fd 4) ["one", "other", "hand"] []
  f__law_cell_at : Fun K "_law_cell_at" "_law_cell_at" s__law_cell_at (a 5) (fd 5)
  g__law_cell_at : mg "_law_cell_at" = some (.ref (a 5))
  k__law_cell_at : PySem.W.keepIn K (.ref (a 5)) = true
  b__law_cell_at : L2.Binds K (fd 5) ["_law_script", "_law_k"] []
  f__law_mix : Fun K "_law_mix" "_law_mix" s__law_mix (a 6) (fd 6)
  g__law_mix : mg "_law_mix" = some (.ref (a 6))
  k__law_mix : PySem.W.keepIn K (.ref (a 6)) = true
  b__law_mix : L2.Binds K (fd 6) ["_law_cell", "_law_k"] []
  f__law_pairs : Fun K "_law_pairs" "_law_pairs" s__law_pairs (a 7) (fd 7)
  g__law_pairs : mg "_law_pairs" = some (.ref (a 7))
  k__law_pairs : PySem.W.keepIn K (.ref (a 7)) = true
  b__law_pairs : L2.Binds K (fd 7) ["_law_hands"] []
  f__law_weather : Fun K "_law_weather" "_law_weather" s__law_weather (a 8) (fd 8)
  g__law_weather : mg "_law_weather" = some (.ref (a 8))
  k__law_weather : PySem.W.keepIn K (.ref (a 8)) = true
  b__law_weather : L2.Binds K (fd 8) ["_law_number", "_law_hands"] []
  f__law_values : Fun K "_law_values" "_law_values" s__law_values (a 9) (fd 9)
  g__law_values : mg "_law_values" = some (.ref (a 9))
  k__law_values : PySem.W.keepIn K (.ref (a 9)) = true
  b__law_values : L2.Binds K (fd 9) ["_law_script"] []
  f__law_long_run : Fun K "_law_long_run" "_law_long_run" s__law_long_run (a 10) (fd 10)
  g__law_long_run : mg "_law_long_run" = some (.ref (a 10))
  k__law_long_run : PySem.W.keepIn K (.ref (a 10)) = true
  b__law_long_run : L2.Binds K (fd 10) ["_law_script", "_law_hands"] []
  f__law_senders : Fun K "_law_senders" "_law_senders" s__law_senders (a 11) (fd 11)
  g__law_senders : mg "_law_senders" = some (.ref (a 11))
  k__law_senders : PySem.W.keepIn K (.ref (a 11)) = true
  b__law_senders : L2.Binds K (fd 11) ["_law_hands", "_law_weather_here", "_law_hand"] []
  f__law_changed : Fun K "_law_changed" "_law_changed" s__law_changed (a 12) (fd 12)
  g__law_changed : mg "_law_changed" = some (.ref (a 12))
  k__law_changed : PySem.W.keepIn K (.ref (a 12)) = true
  b__law_changed : L2.Binds K (fd 12) ["_law_number", "_law_run"] []
  f__law_same : Fun K "_law_same" "_law_same" s__law_same (a 13) (fd 13)
  g__law_same : mg "_law_same" = some (.ref (a 13))
  k__law_same : PySem.W.keepIn K (.ref (a 13)) = true
  b__law_same : L2.Binds K (fd 13) ["_law_one", "_law_other"] []
  f_law : Fun K "law" "law" s_law (a 14) (fd 14)
  g_law : mg "law" = some (.ref (a 14))
  k_law : PySem.W.keepIn K (.ref (a 14)) = true
  b_law : L2.Binds K (fd 14) ["_law_script"] []
  b_bool : mg "bool" = none
  b_isinstance : mg "isinstance" = none
  b_len : mg "len" = none
  b_list : mg "list" = none
  b_range : mg "range" = none
  b_sorted : mg "sorted" = none
  b_tuple : mg "tuple" = none
  b_zip : mg "zip" = none
section
variable {P : Program} {w : World} {K : PySem.W.Frag} {mg : Str → Option Value} {base : Heap} {cl : Str → Value} {a : Nat → Addr} {fd : Nat → FuncData}
theorem ok_came_to (T : Txt K mg a fd) : FnOk P w K mg base (L2.CX P w) 1 (a 0) (fd 0) ["hands", "weather", "hand"] (spF K cl 3 F_came_to) := by
  have sc := sc_came_to
  refine ok_def (N := N_came_to) (k := 0) (np := 3) (nn := 4) (fb := f_came_to) rfl rfl T.f_came_to sc fun cdv A outer s H E B hr tk hp => ?_
  exact (qs_one (qs_ret (qe_callTy call_tuple_of cd_tuple (by rfl) T.b_tuple (by decide +kernel) (qa_cons (qe_comp (own := [("other", 3)]) rfl sc.nd rfl rfl (qi_range (by rfl) T.b_range (qv 0)) (blkOk_by (own := [("other", 3)]) (N := N_came_to) (sc := defScope s_came_to) (by decide +kernel)) (fun _ _ _ _ _ => (qg_name (i := 3) sc.nd rfl (by first | exact Or.inl rfl | exact Or.inr rfl))) (fun _ _ _ _ _ => (qts_one ((qw_and (qt_cmp (op_neD (hu64 hr)) opd_ne (qv 3) (qv 2) (nomark _)) (qw_and1 (qt_cmp (op_notInA (hu65 hr)) opd_notIn (qe_tup (qa_cons (qv 3) (qa_cons (qv 2) qa_nil))) (qv 1) (by rfl))))).pt)) (fun _ _ _ _ _ => (qv 3))) qa_nil))))
theorem ok_cut_to (T : Txt K mg a fd) : FnOk P w K mg base (L2.CX P w) 1 (a 1) (fd 1) ["run", "rounds"] (spF K cl 2 F_cut_to) := by
  have sc := sc_cut_to
  refine ok_def (N := N_cut_to) (k := 0) (np := 2) (nn := 2) (fb := f_cut_to) rfl rfl T.f_cut_to sc fun cdv A outer s H E B hr tk hp => ?_
  exact (qs_one (qs_ret (qe_tup (qa_cons (qe_ix ix_seq opd_ix (qv 0) qe_int (fun _ _ => rfl)) (qa_cons (qe_slice rfl (qe_ix ix_seq opd_ix (qv 0) qe_int (fun _ _ => rfl)) qo_none (qo_some (qv 1))) qa_nil)))))
theorem ok_heard_spots (T : Txt K mg a fd) (G_came_to : FnOk P w K mg base (L2.CX P w) 1 (a 0) (fd 0) ["hands", "weather", "hand"] (spF K cl 3 F_came_to)) : FnOk P w K mg base (L2.CX P w) 2 (a 2) (fd 2) ["run", "hand"] (spF K cl 2 F_heard_spots) := by
  have sc := sc_heard_spots
  refine ok_def (N := N_heard_spots) (k := 1) (np := 2) (nn := 8) (fb := f_heard_spots) rfl rfl T.f_heard_spots sc fun cdv A outer s H E B hr tk hp => ?_
  exact (qs_cons (qs_setF (i := 2) sc.nd rfl (by first | exact Or.inl rfl | exact Or.inr rfl) (qe_lst (qa_cons (qv 1) qa_nil)))
      (qs_cons (qs_set (i := 3) sc.nd rfl (by first | exact Or.inl rfl | exact Or.inr rfl) (qe_lst (qa_cons (qv 2) qa_nil)))
      (qs_cons (qs_for hp rfl rfl (qi_it rfl (qe_sliceS rfl (qe_ix ix_seq opd_ix (qv 0) qe_int (fun _ _ => rfl)) qo_none qo_none (qo_some (qe_neg qe_int)))) (qg_name (i := 4) sc.nd rfl (by first | exact Or.inl rfl | exact Or.inr rfl)) (qs_cons (qs_set (i := 5) sc.nd rfl (by first | exact Or.inl rfl | exact Or.inr rfl) (qe_callTy call_list_of cd_list (by rfl) T.b_list (by decide +kernel) (qa_cons (qv 2) qa_nil)))
      (qs_cons (qs_for hp rfl rfl (qi_it rfl (qv 2)) (qg_name (i := 6) sc.nd rfl (by first | exact Or.inl rfl | exact Or.inr rfl)) (qs_one (qs_for hp rfl rfl (qi_it rfl (qe_call defF_len rfl tk G_came_to (hr.mono (by decide)) (by rfl) T.g_came_to T.k_came_to T.b_came_to (qa_cons (qe_callB call_len cd_len (by rfl) T.b_len (by decide +kernel) (qa_cons (qe_ix ix_seq opd_ix (qv 0) qe_int (fun _ _ => rfl)) qa_nil)) (qa_cons (qv 4) (qa_cons (qv 6) qa_nil))))) (qg_name (i := 7) sc.nd rfl (by first | exact Or.inl rfl | exact Or.inr rfl)) (qs_one (qs_if (qt_cmp (op_notInA (hu65 hr)) opd_notIn (qv 7) (qv 5) (by rfl)) (qs_one (qs_expr (qe_app rfl (pv 5) (qv 7)))) qs_nil)))))
      (qs_cons (qs_setF (i := 2) sc.nd rfl (by first | exact Or.inl rfl | exact Or.inr rfl) (qv 5))
      (qs_one (qs_expr (qe_app rfl (pv 3) (qv 2))))))))
      (qs_one (qs_ret (qe_sliceS rfl (qv 3) qo_none qo_none (qo_some (qe_neg qe_int))))))))
theorem ok_view (T : Txt K mg a fd) (G_heard_spots : FnOk P w K mg base (L2.CX P w) 2 (a 2) (fd 2) ["run", "hand"] (spF K cl 2 F_heard_spots)) (G_came_to : FnOk P w K mg base (L2.CX P w) 1 (a 0) (fd 0) ["hands", "weather", "hand"] (spF K cl 3 F_came_to)) : FnOk P w K mg base (L2.CX P w) 3 (a 3) (fd 3) ["run", "hand"] (spF K cl 2 F_view) := by
  have sc := sc_view
  refine ok_def (N := N_view) (k := 2) (np := 2) (nn := 10) (fb := f_view) rfl rfl T.f_view sc fun cdv A outer s H E B hr tk hp => ?_
  exact (qs_cons (qs_setF (i := 2) sc.nd rfl (by first | exact Or.inl rfl | exact Or.inr rfl) (qe_call defF_len rfl tk G_heard_spots (hr.mono (by decide)) (by rfl) T.g_heard_spots T.k_heard_spots T.b_heard_spots (qa_cons (qv 0) (qa_cons (qv 1) qa_nil))))
      (qs_cons (qs_setF (i := 3) sc.nd rfl (by first | exact Or.inl rfl | exact Or.inr rfl) (qe_callB call_len cd_len (by rfl) T.b_len (by decide +kernel) (qa_cons (qe_ix ix_seq opd_ix (qv 0) qe_int (fun _ _ => rfl)) qa_nil)))
      (qs_cons (qs_set (i := 4) sc.nd rfl (by first | exact Or.inl rfl | exact Or.inr rfl) (qe_lst qa_nil))
      (qs_cons (qs_for hp rfl rfl (qi_range (by rfl) T.b_range (qv 3)) (qg_name (i := 5) sc.nd rfl (by first | exact Or.inl rfl | exact Or.inr rfl)) (qs_one (qs_if (qt_cmp (op_inA (hu65 hr)) opd_in (qv 5) (qe_ix ix_seq opd_ix (qv 2) qe_int (fun _ _ => rfl)) (by rfl)) (qs_one (qs_expr (qe_app rfl (pv 4) (qe_ix ix_seq opd_ix (qe_ix ix_seq opd_ix (qv 0) qe_int (fun _ _ => rfl)) (qv 5) (fun _ _ => rfl))))) (qs_one (qs_expr (qe_app rfl (pv 4) qe_non))))))
      (qs_cons (qs_set (i := 6) sc.nd rfl (by first | exact Or.inl rfl | exact Or.inr rfl) (qe_lst qa_nil))
      (qs_cons (qs_for hp rfl rfl (qi_zip rfl (by rfl) T.b_zip (qe_slice rfl (qv 2) (qo_some qe_int) qo_none) (qe_ix ix_seq opd_ix (qv 0) qe_int (fun _ _ => rfl))) (qg_tup rfl (qgs_cons (i := 7) sc.nd rfl (by first | exact Or.inl rfl | exact Or.inr rfl) (qgs_cons (i := 8) sc.nd rfl (by first | exact Or.inl rfl | exact Or.inr rfl) qgs_nil))) (qs_cons (qs_set (i := 9) sc.nd rfl (by first | exact Or.inl rfl | exact Or.inr rfl) (qe_lst qa_nil))
      (qs_cons (qs_for hp rfl rfl (qi_range (by rfl) T.b_range (qv 3)) (qg_name (i := 5) sc.nd rfl (by first | exact Or.inl rfl | exact Or.inr rfl)) (qs_one (qs_if (qt_cmp (op_inA (hu65 hr)) opd_in (qv 5) (qv 7) (by rfl)) (qs_one (qs_expr (qe_app rfl (pv 9) (qe_call defF_len rfl tk G_came_to (hr.mono (by decide)) (by rfl) T.g_came_to T.k_came_to T.b_came_to (qa_cons (qv 3) (qa_cons (qv 8) (qa_cons (qv 5) qa_nil))))))) (qs_one (qs_expr (qe_app rfl (pv 9) qe_non))))))
      (qs_one (qs_expr (qe_app rfl (pv 6) (qe_callTy call_tuple_of cd_tuple (by rfl) T.b_tuple (by decide +kernel) (qa_cons (qv 9) qa_nil))))))))
      (qs_one (qs_ret (qe_tup (qa_cons (qv 1) (qa_cons (qe_callTy call_tuple_of cd_tuple (by rfl) T.b_tuple (by decide +kernel) (qa_cons (qv 4) qa_nil)) (qa_cons (qe_callTy call_tuple_of cd_tuple (by rfl) T.b_tuple (by decide +kernel) (qa_cons (qv 6) qa_nil)) qa_nil))))))))))))
theorem ok_alike (T : Txt K mg a fd) (G_view : FnOk P w K mg base (L2.CX P w) 3 (a 3) (fd 3) ["run", "hand"] (spF K cl 2 F_view)) : FnOk P w K mg base (L2.CX P w) 4 (a 4) (fd 4) ["one", "other", "hand"] (spF K cl 3 F_alike) := by
  have sc := sc_alike
  refine ok_def (N := N_alike) (k := 3) (np := 3) (nn := 3) (fb := f_alike) rfl rfl T.f_alike sc fun cdv A outer s H E B hr tk hp => ?_
  exact (qs_one (qs_ret (qe_cmp (op_eqD (hu64 hr)) opd_eq (qe_call defF_len rfl tk G_view (hr.mono (by decide)) (by rfl) T.g_view T.k_view T.b_view (qa_cons (qv 0) (qa_cons (qv 2) qa_nil))) (qe_call defF_len rfl tk G_view (hr.mono (by decide)) (by rfl) T.g_view T.k_view T.b_view (qa_cons (qv 1) (qa_cons (qv 2) qa_nil))) (nomark _))))
theorem ok__law_cell_at (T : Txt K mg a fd) : FnOk P w K mg base (L2.CX P w) 1 (a 5) (fd 5) ["_law_script", "_law_k"] (spF K cl 2 F__law_cell_at) := by
  have sc := sc__law_cell_at
  refine ok_def (N := N__law_cell_at) (k := 0) (np := 2) (nn := 2) (fb := f__law_cell_at) rfl rfl T.f__law_cell_at sc fun cdv A outer s H E B hr tk hp => ?_
  exact (qs_cons (qs_if (qt_cmp op_lt opd_lt (qv 1) (qe_callB call_len cd_len (by rfl) T.b_len (by decide +kernel) (qa_cons (qv 0) qa_nil)) (nomark _)) (qs_one (qs_ret (qe_ix ix_seq opd_ix (qv 0) (qv 1) (fun _ _ => rfl)))) qs_nil)
      (qs_one (qs_ret qe_int)))
theorem ok__law_mix (T : Txt K mg a fd) : FnOk P w K mg base (L2.CX P w) 1 (a 6) (fd 6) ["_law_cell", "_law_k"] (spF K cl 2 F__law_mix) := by
  have sc := sc__law_mix
  refine ok_def (N := N__law_mix) (k := 0) (np := 2) (nn := 4) (fb := f__law_mix) rfl rfl T.f__law_mix sc fun cdv A outer s H E B hr tk hp => ?_
  exact (qs_cons (qs_if (qt_cmp op_ge opd_ge (qv 0) (qe_bin op_pow opd_pow qe_int qe_int) (nomark _)) (qs_cons (qs_setF (i := 0) sc.nd rfl (by first | exact Or.inl rfl | exact Or.inr rfl) (qe_bin op_sub opd_sub (qe_bin op_fdivW opd_div (qv 0) (qe_bin op_pow opd_pow qe_int qe_int)) qe_int))
      (qs_cons (qs_for hp rfl rfl (qi_range (by rfl) T.b_range (qe_bin op_mod opd_mod (qv 1) qe_int)) (qg_name (i := 3) sc.nd rfl (by first | exact Or.inl rfl | exact Or.inr rfl)) (qs_one (qs_setF (i := 0) sc.nd rfl (by first | exact Or.inl rfl | exact Or.inr rfl) (qe_bin op_fdivW opd_div (qv 0) qe_int))))
      (qs_one (qs_ret (qe_bin op_mod opd_mod (qv 0) qe_int))))) qs_nil)
      (qs_cons (qs_setF (i := 2) sc.nd rfl (by first | exact Or.inl rfl | exact Or.inr rfl) (qe_bin op_mod opd_mod (qe_bin op_mulA opd_mulA (qe_bin op_addA opd_add (qe_bin op_addA opd_add (qe_bin op_mod opd_mod (qv 0) qe_int) (qe_bin op_mulA opd_mulA (qe_bin op_mulA opd_mulA (qv 1) (qv 1)) qe_int)) (qv 1)) qe_int) qe_int))
      (qs_cons (qs_setF (i := 2) sc.nd rfl (by first | exact Or.inl rfl | exact Or.inr rfl) (qe_bin op_mod opd_mod (qe_bin op_mulA opd_mulA (qv 2) (qv 2)) qe_int))
      (qs_one (qs_ret (qe_bin op_fdivW opd_div (qe_bin op_mod opd_mod (qe_bin op_mulA opd_mulA (qv 2) (qe_bin op_addA opd_add (qv 2) qe_int)) qe_int) qe_int))))))
theorem ok__law_pairs (T : Txt K mg a fd) : FnOk P w K mg base (L2.CX P w) 1 (a 7) (fd 7) ["_law_hands"] (spF K cl 1 F__law_pairs) := by
  have sc := sc__law_pairs
  refine ok_def (N := N__law_pairs) (k := 0) (np := 1) (nn := 4) (fb := f__law_pairs) rfl rfl T.f__law_pairs sc fun cdv A outer s H E B hr tk hp => ?_
  exact (qs_cons (qs_set (i := 1) sc.nd rfl (by first | exact Or.inl rfl | exact Or.inr rfl) (qe_lst qa_nil))
      (qs_cons (qs_for hp rfl rfl (qi_range (by rfl) T.b_range (qv 0)) (qg_name (i := 2) sc.nd rfl (by first | exact Or.inl rfl | exact Or.inr rfl)) (qs_one (qs_for hp rfl rfl (qi_range (by rfl) T.b_range (qv 0)) (qg_name (i := 3) sc.nd rfl (by first | exact Or.inl rfl | exact Or.inr rfl)) (qs_one (qs_if (qt_cmp (op_neD (hu64 hr)) opd_ne (qv 2) (qv 3) (nomark _)) (qs_one (qs_expr (qe_app rfl (pv 1) (qe_tup (qa_cons (qv 2) (qa_cons (qv 3) qa_nil)))))) qs_nil)))))
      (qs_one (qs_ret (qv 1)))))
theorem ok__law_weather (T : Txt K mg a fd) (G__law_pairs : FnOk P w K mg base (L2.CX P w) 1 (a 7) (fd 7) ["_law_hands"] (spF K cl 1 F__law_pairs)) : FnOk P w K mg base (L2.CX P w) 2 (a 8) (fd 8) ["_law_number", "_law_hands"] (spF K cl 2 F__law_weather) := by
  have sc := sc__law_weather
  refine ok_def (N := N__law_weather) (k := 1) (np := 2) (nn := 4) (fb := f__law_weather) rfl rfl T.f__law_weather sc fun cdv A outer s H E B hr tk hp => ?_
  exact (qs_cons (qs_set (i := 2) sc.nd rfl (by first | exact Or.inl rfl | exact Or.inr rfl) (qe_lst qa_nil))
      (qs_cons (qs_for hp rfl rfl (qi_it rfl (qe_call defF_len rfl tk G__law_pairs (hr.mono (by decide)) (by rfl) T.g__law_pairs T.k__law_pairs T.b__law_pairs (qa_cons (qv 1) qa_nil))) (qg_name (i := 3) sc.nd rfl (by first | exact Or.inl rfl | exact Or.inr rfl)) (qs_cons (qs_if (qt_cmp (op_eqD (hu64 hr)) opd_eq (qe_bin op_mod opd_mod (qv 0) qe_int) qe_int (nomark _)) (qs_one (qs_expr (qe_app rfl (pv 2) (qv 3)))) qs_nil)
      (qs_one (qs_setF (i := 0) sc.nd rfl (by first | exact Or.inl rfl | exact Or.inr rfl) (qe_bin op_fdivW opd_div (qv 0) qe_int)))))
      (qs_one (qs_ret (qe_callTy call_tuple_of cd_tuple (by rfl) T.b_tuple (by decide +kernel) (qa_cons (qv 2) qa_nil))))))
theorem ok__law_values (T : Txt K mg a fd) (G__law_cell_at : FnOk P w K mg base (L2.CX P w) 1 (a 5) (fd 5) ["_law_script", "_law_k"] (spF K cl 2 F__law_cell_at)) : FnOk P w K mg base (L2.CX P w) 2 (a 9) (fd 9) ["_law_script"] (spF K cl 1 F__law_values) := by
  have sc := sc__law_values
  refine ok_def (N := N__law_values) (k := 1) (np := 1) (nn := 3) (fb := f__law_values) rfl rfl T.f__law_values sc fun cdv A outer s H E B hr tk hp => ?_
  exact (qs_cons (qs_setF (i := 1) sc.nd rfl (by first | exact Or.inl rfl | exact Or.inr rfl) (qe_bin op_mod opd_mod (qe_call defF_len rfl tk G__law_cell_at (hr.mono (by decide)) (by rfl) T.g__law_cell_at T.k__law_cell_at T.b__law_cell_at (qa_cons (qv 0) (qa_cons qe_int qa_nil))) (qe_bin op_pow opd_pow qe_int qe_int)))
      (qs_cons (qs_setF (i := 2) sc.nd rfl (by first | exact Or.inl rfl | exact Or.inr rfl) (qe_bin op_addA opd_add (qe_bin op_addA opd_add (qv 1) qe_int) (qe_bin op_mod opd_mod (qe_call defF_len rfl tk G__law_cell_at (hr.mono (by decide)) (by rfl) T.g__law_cell_at T.k__law_cell_at T.b__law_cell_at (qa_cons (qv 0) (qa_cons qe_int qa_nil))) qe_int)))
      (qs_cons (qs_if (qt_cmp (op_eqD (hu64 hr)) opd_eq (qe_bin op_mod opd_mod (qe_call defF_len rfl tk G__law_cell_at (hr.mono (by decide)) (by rfl) T.g__law_cell_at T.k__law_cell_at T.b__law_cell_at (qa_cons (qv 0) (qa_cons qe_int qa_nil))) qe_int) qe_int (nomark _)) (qs_one (qs_setF (i := 2) sc.nd rfl (by first | exact Or.inl rfl | exact Or.inr rfl) (qe_bin op_sub opd_sub (qe_neg qe_int) (qe_bin op_mod opd_mod (qe_call defF_len rfl tk G__law_cell_at (hr.mono (by decide)) (by rfl) T.g__law_cell_at T.k__law_cell_at T.b__law_cell_at (qa_cons (qv 0) (qa_cons qe_int qa_nil))) (qe_bin op_pow opd_pow qe_int qe_int))))) qs_nil)
      (qs_one (qs_ret (qe_lst (qa_cons (qe_bin op_fdivW opd_div (qv 1) qe_int) (qa_cons (qe_bin op_sub opd_sub (qe_bin op_fdivW opd_div (qv 2) qe_int) qe_int) (qa_cons (qe_bin op_addA opd_add qe_int (qe_bin op_fdivW opd_div (qv 1) qe_int)) qa_nil)))))))))
theorem ok__law_long_run (T : Txt K mg a fd) (G__law_values : FnOk P w K mg base (L2.CX P w) 2 (a 9) (fd 9) ["_law_script"] (spF K cl 1 F__law_values)) (G__law_mix : FnOk P w K mg base (L2.CX P w) 1 (a 6) (fd 6) ["_law_cell", "_law_k"] (spF K cl 2 F__law_mix)) (G__law_cell_at : FnOk P w K mg base (L2.CX P w) 1 (a 5) (fd 5) ["_law_script", "_law_k"] (spF K cl 2 F__law_cell_at)) (G__law_weather : FnOk P w K mg base (L2.CX P w) 2 (a 8) (fd 8) ["_law_number", "_law_hands"] (spF K cl 2 F__law_weather)) : FnOk P w K mg base (L2.CX P w) 3 (a 10) (fd 10) ["_law_script", "_law_hands"] (spF K cl 2 F__law_long_run) := by
  have sc := sc__law_long_run
  refine ok_def (N := N__law_long_run) (k := 2) (np := 2) (nn := 9) (fb := f__law_long_run) rfl rfl T.f__law_long_run sc fun cdv A outer s H E B hr tk hp => ?_
  exact (qs_cons (qs_setF (i := 2) sc.nd rfl (by first | exact Or.inl rfl | exact Or.inr rfl) (qe_call defF_len rfl tk G__law_values (hr.mono (by decide)) (by rfl) T.g__law_values T.k__law_values T.b__law_values (qa_cons (qv 0) qa_nil)))
      (qs_cons (qs_setF (i := 3) sc.nd rfl (by first | exact Or.inl rfl | exact Or.inr rfl) (qe_callTy call_tuple_of cd_tuple (by rfl) T.b_tuple (by decide +kernel) (qa_cons (qe_comp (own := [("_law_k", 6)]) rfl sc.nd rfl rfl (qi_range (by rfl) T.b_range (qv 1)) (blkOk_by (own := [("_law_k", 6)]) (N := N__law_long_run) (sc := defScope s__law_long_run) (by decide +kernel)) (fun _ _ _ _ _ => (qg_name (i := 6) sc.nd rfl (by first | exact Or.inl rfl | exact Or.inr rfl))) (fun _ _ _ _ _ => qts_nil) (fun _ _ _ _ _ => (qe_ix ix_seq opd_ix (qv 2) (qe_bin op_mod opd_mod (qe_call defF_len rfl takes0 G__law_mix (hr.mono (by decide)) (by rfl) T.g__law_mix T.k__law_mix T.b__law_mix (qa_cons (qe_call defF_len rfl takes0 G__law_cell_at (hr.mono (by decide)) (by rfl) T.g__law_cell_at T.k__law_cell_at T.b__law_cell_at (qa_cons (qv 0) (qa_cons (qe_bin op_addA opd_add qe_int (qv 6)) qa_nil))) (qa_cons (qv 6) qa_nil))) qe_int) (fun _ _ => rfl)))) qa_nil)))
      (qs_cons (qs_set (i := 4) sc.nd rfl (by first | exact Or.inl rfl | exact Or.inr rfl) (qe_lst qa_nil))
      (qs_cons (qs_setF (i := 5) sc.nd rfl (by first | exact Or.inl rfl | exact Or.inr rfl) (qe_bin op_mod opd_mod (qe_bin op_fdivW opd_div (qe_call defF_len rfl tk G__law_cell_at (hr.mono (by decide)) (by rfl) T.g__law_cell_at T.k__law_cell_at T.b__law_cell_at (qa_cons (qv 0) (qa_cons qe_int qa_nil))) qe_int) qe_int))
      (qs_cons (qs_for hp rfl rfl (qi_range (by rfl) T.b_range (qv 5)) (qg_name (i := 6) sc.nd rfl (by first | exact Or.inl rfl | exact Or.inr rfl)) (qs_cons (qs_setF (i := 7) sc.nd rfl (by first | exact Or.inl rfl | exact Or.inr rfl) qe_int)
      (qs_cons (qs_for hp rfl rfl (qi_it rfl (qe_sliceS rfl (qe_slice rfl (qv 0) qo_none (qo_some qe_int)) (qo_some (qv 6)) qo_none (qo_some (qv 5)))) (qg_name (i := 8) sc.nd rfl (by first | exact Or.inl rfl | exact Or.inr rfl)) (qs_one (qs_setF (i := 7) sc.nd rfl (by first | exact Or.inl rfl | exact Or.inr rfl) (qe_bin op_mod opd_mod (qe_bin op_addA opd_add (qe_bin op_mulA opd_mulA (qv 7) qe_int) (qe_call defF_len rfl tk G__law_mix (hr.mono (by decide)) (by rfl) T.g__law_mix T.k__law_mix T.b__law_mix (qa_cons (qv 8) (qa_cons (qv 6) qa_nil)))) qe_int))))
      (qs_one (qs_expr (qe_app rfl (pv 4) (qe_call defF_len rfl tk G__law_weather (hr.mono (by decide)) (by rfl) T.g__law_weather T.k__law_weather T.b__law_weather (qa_cons (qv 7) (qa_cons (qv 1) qa_nil)))))))))
      (qs_one (qs_ret (qe_tup (qa_cons (qv 3) (qa_cons (qe_callTy call_tuple_of cd_tuple (by rfl) T.b_tuple (by decide +kernel) (qa_cons (qv 4) qa_nil)) qa_nil))))))))))
theorem ok__law_senders (T : Txt K mg a fd) : FnOk P w K mg base (L2.CX P w) 1 (a 11) (fd 11) ["_law_hands", "_law_weather_here", "_law_hand"] (spF K cl 3 F__law_senders) := by
  have sc := sc__law_senders
  refine ok_def (N := N__law_senders) (k := 0) (np := 3) (nn := 5) (fb := f__law_senders) rfl rfl T.f__law_senders sc fun cdv A outer s H E B hr tk hp => ?_
  exact (qs_cons (qs_set (i := 3) sc.nd rfl (by first | exact Or.inl rfl | exact Or.inr rfl) (qe_lst qa_nil))
      (qs_cons (qs_for hp rfl rfl (qi_range (by rfl) T.b_range (qv 0)) (qg_name (i := 4) sc.nd rfl (by first | exact Or.inl rfl | exact Or.inr rfl)) (qs_one (qs_if ((qw_and (qt_cmp (op_neD (hu64 hr)) opd_ne (qv 4) (qv 2) (nomark _)) (qw_and1 (qt_cmp (op_notInA (hu65 hr)) opd_notIn (qe_tup (qa_cons (qv 4) (qa_cons (qv 2) qa_nil))) (qv 1) (by rfl))))).pt (qs_one (qs_expr (qe_app rfl (pv 3) (qv 4)))) qs_nil)))
      (qs_one (qs_ret (qe_callTy call_tuple_of cd_tuple (by rfl) T.b_tuple (by decide +kernel) (qa_cons (qv 3) qa_nil))))))
theorem ok__law_changed (T : Txt K mg a fd) (G__law_pairs : FnOk P w K mg base (L2.CX P w) 1 (a 7) (fd 7) ["_law_hands"] (spF K cl 1 F__law_pairs)) : FnOk P w K mg base (L2.CX P w) 2 (a 12) (fd 12) ["_law_number", "_law_run"] (spF K cl 2 F__law_changed) := by
  have sc := sc__law_changed
  refine ok_def (N := N__law_changed) (k := 1) (np := 2) (nn := 9) (fb := f__law_changed) rfl rfl T.f__law_changed sc fun cdv A outer s H E B hr tk hp => ?_
  exact (qs_cons (qs_setF (i := 2) sc.nd rfl (by first | exact Or.inl rfl | exact Or.inr rfl) (qe_callB call_len cd_len (by rfl) T.b_len (by decide +kernel) (qa_cons (qe_ix ix_seq opd_ix (qv 1) qe_int (fun _ _ => rfl)) qa_nil)))
      (qs_cons (qs_if ((qw_or (qt_cmp (op_eqD (hu64 hr)) opd_eq (qe_bin op_mod opd_mod (qv 0) qe_int) qe_int (nomark _)) (qw_or1 (qt_cmp (op_eqD (hu64 hr)) opd_eq (qe_ix ix_seq opd_ix (qv 1) qe_int (fun _ _ => rfl)) (qe_tup qa_nil) (nomark _))))).pt (qs_cons (qs_setF (i := 7) sc.nd rfl (by first | exact Or.inl rfl | exact Or.inr rfl) (qe_bin op_mod opd_mod (qe_bin op_fdivW opd_div (qv 0) qe_int) (qv 2)))
      (qs_one (qs_ret (qe_tup (qa_cons (qe_bin op_addA opd_add (qe_bin op_addA opd_add (qe_slice rfl (qe_ix ix_seq opd_ix (qv 1) qe_int (fun _ _ => rfl)) qo_none (qo_some (qv 7))) (qe_tup (qa_cons (qe_bin op_addA opd_add (qe_bin op_fdivW opd_div (qe_ix ix_seq opd_ix (qe_ix ix_seq opd_ix (qv 1) qe_int (fun _ _ => rfl)) (qv 7) (fun _ _ => rfl)) qe_int) (qe_bin op_mod opd_mod (qe_bin op_fdivW opd_div (qv 0) qe_int) qe_int)) qa_nil))) (qe_slice rfl (qe_ix ix_seq opd_ix (qv 1) qe_int (fun _ _ => rfl)) (qo_some (qe_bin op_addA opd_add (qv 7) qe_int)) qo_none)) (qa_cons (qe_ix ix_seq opd_ix (qv 1) qe_int (fun _ _ => rfl)) qa_nil)))))) qs_nil)
      (qs_cons (qs_setF (i := 3) sc.nd rfl (by first | exact Or.inl rfl | exact Or.inr rfl) (qe_bin op_mod opd_mod (qe_bin op_fdivW opd_div (qv 0) qe_int) (qe_callB call_len cd_len (by rfl) T.b_len (by decide +kernel) (qa_cons (qe_ix ix_seq opd_ix (qv 1) qe_int (fun _ _ => rfl)) qa_nil))))
      (qs_cons (qs_setF (i := 4) sc.nd rfl (by first | exact Or.inl rfl | exact Or.inr rfl) (qe_call defF_len rfl tk G__law_pairs (hr.mono (by decide)) (by rfl) T.g__law_pairs T.k__law_pairs T.b__law_pairs (qa_cons (qv 2) qa_nil)))
      (qs_cons (qs_setF (i := 5) sc.nd rfl (by first | exact Or.inl rfl | exact Or.inr rfl) (qe_ix ix_seq opd_ix (qv 4) (qe_bin op_mod opd_mod (qe_bin op_fdivW opd_div (qv 0) qe_int) (qe_callB call_len cd_len (by rfl) T.b_len (by decide +kernel) (qa_cons (qv 4) qa_nil))) (fun _ _ => rfl)))
      (qs_cons (qs_setF (i := 6) sc.nd rfl (by first | exact Or.inl rfl | exact Or.inr rfl) (qe_callTy call_tuple_of cd_tuple (by rfl) T.b_tuple (by decide +kernel) (qa_cons (qe_comp (own := [("_law_one", 8)]) rfl sc.nd rfl rfl (qi_it rfl (qe_ix ix_seq opd_ix (qe_ix ix_seq opd_ix (qv 1) qe_int (fun _ _ => rfl)) (qv 3) (fun _ _ => rfl))) (blkOk_by (own := [("_law_one", 8)]) (N := N__law_changed) (sc := defScope s__law_changed) (by decide +kernel)) (fun _ _ _ _ _ => (qg_name (i := 8) sc.nd rfl (by first | exact Or.inl rfl | exact Or.inr rfl))) (fun _ _ _ _ _ => (qts_one (qt_cmp (op_neD (hu64 hr)) opd_ne (qv 8) (qv 5) (nomark _)))) (fun _ _ _ _ _ => (qv 8))) qa_nil)))
      (qs_cons (qs_if (qt_cmp (op_eqD (hu64 hr)) opd_eq (qv 6) (qe_ix ix_seq opd_ix (qe_ix ix_seq opd_ix (qv 1) qe_int (fun _ _ => rfl)) (qv 3) (fun _ _ => rfl)) (nomark _)) (qs_one (qs_setF (i := 6) sc.nd rfl (by first | exact Or.inl rfl | exact Or.inr rfl) (qe_callTy call_tuple_of cd_tuple (by rfl) T.b_tuple (by decide +kernel) (qa_cons (qe_callB cr_sortedPO cd_sorted (by rfl) T.b_sorted (by decide +kernel) (qa_cons (qe_bin op_addA opd_add (qe_callTy call_list_of cd_list (by rfl) T.b_list (by decide +kernel) (qa_cons (qv 6) qa_nil)) (qe_lst (qa_cons (qv 5) qa_nil))) qa_nil)) qa_nil)))) qs_nil)
      (qs_one (qs_ret (qe_tup (qa_cons (qe_ix ix_seq opd_ix (qv 1) qe_int (fun _ _ => rfl)) (qa_cons (qe_bin op_addA opd_add (qe_bin op_addA opd_add (qe_slice rfl (qe_ix ix_seq opd_ix (qv 1) qe_int (fun _ _ => rfl)) qo_none (qo_some (qv 3))) (qe_tup (qa_cons (qv 6) qa_nil))) (qe_slice rfl (qe_ix ix_seq opd_ix (qv 1) qe_int (fun _ _ => rfl)) (qo_some (qe_bin op_addA opd_add (qv 3) qe_int)) qo_none)) qa_nil))))))))))))
theorem ok__law_same (T : Txt K mg a fd) (G__law_senders : FnOk P w K mg base (L2.CX P w) 1 (a 11) (fd 11) ["_law_hands", "_law_weather_here", "_law_hand"] (spF K cl 3 F__law_senders)) : FnOk P w K mg base (L2.CX P w) 2 (a 13) (fd 13) ["_law_one", "_law_other"] (spF K cl 2 F__law_same) := by
  have sc := sc__law_same
  refine ok_def (N := N__law_same) (k := 1) (np := 2) (nn := 10) (fb := f__law_same) rfl rfl T.f__law_same sc fun cdv A outer s H E B hr tk hp => ?_
  exact (qs_cons (qs_setF (i := 2) sc.nd rfl (by first | exact Or.inl rfl | exact Or.inr rfl) (qe_callB call_len cd_len (by rfl) T.b_len (by decide +kernel) (qa_cons (qe_ix ix_seq opd_ix (qv 0) qe_int (fun _ _ => rfl)) qa_nil)))
      (qs_cons (qs_comp (i := 3) (own := [("_law_hand", 6)]) rfl sc.nd rfl rfl rfl rfl (sw_true rfl rfl rfl (by decide +kernel)) (qi_range (by rfl) T.b_range (qv 2)) (blkOk_by (own := [("_law_hand", 6)]) (N := N__law_same) (sc := defScope s__law_same) (by decide +kernel)) (fun _ _ _ _ _ => (qg_name (i := 6) sc.nd rfl (by first | exact Or.inl rfl | exact Or.inr rfl))) (fun _ _ _ _ _ => qts_nil) (fun _ _ _ _ _ => (qe_cmp (op_eqD (hu64 hr)) opd_eq (qe_ix ix_seq opd_ix (qe_ix ix_seq opd_ix (qv 0) qe_int (fun _ _ => rfl)) (qv 6) (fun _ _ => rfl)) (qe_ix ix_seq opd_ix (qe_ix ix_seq opd_ix (qv 1) qe_int (fun _ _ => rfl)) (qv 6) (fun _ _ => rfl)) (nomark _))))
      (qs_cons (qs_for hp rfl rfl (qi_range (by rfl) T.b_range (qe_callB call_len cd_len (by rfl) T.b_len (by decide +kernel) (qa_cons (qe_ix ix_seq opd_ix (qv 0) qe_int (fun _ _ => rfl)) qa_nil))) (qg_name (i := 4) sc.nd rfl (by first | exact Or.inl rfl | exact Or.inr rfl)) (qs_cons (qs_set (i := 5) sc.nd rfl (by first | exact Or.inl rfl | exact Or.inr rfl) (qe_lst qa_nil))
      (qs_cons (qs_for hp rfl rfl (qi_range (by rfl) T.b_range (qv 2)) (qg_name (i := 6) sc.nd rfl (by first | exact Or.inl rfl | exact Or.inr rfl)) (qs_cons (qs_setF (i := 7) sc.nd rfl (by first | exact Or.inl rfl | exact Or.inr rfl) (qe_call defF_len rfl tk G__law_senders (hr.mono (by decide)) (by rfl) T.g__law_senders T.k__law_senders T.b__law_senders (qa_cons (qv 2) (qa_cons (qe_ix ix_seq opd_ix (qe_ix ix_seq opd_ix (qv 0) qe_int (fun _ _ => rfl)) (qv 4) (fun _ _ => rfl)) (qa_cons (qv 6) qa_nil)))))
      (qs_cons (qs_setF (i := 8) sc.nd rfl (by first | exact Or.inl rfl | exact Or.inr rfl) (qe_and (qe_ix ix_seq opd_ix (qv 3) (qv 6) (fun _ _ => rfl)) (qe_one (qe_cmp (op_eqD (hu64 hr)) opd_eq (qv 7) (qe_call defF_len rfl tk G__law_senders (hr.mono (by decide)) (by rfl) T.g__law_senders T.k__law_senders T.b__law_senders (qa_cons (qv 2) (qa_cons (qe_ix ix_seq opd_ix (qe_ix ix_seq opd_ix (qv 1) qe_int (fun _ _ => rfl)) (qv 4) (fun _ _ => rfl)) (qa_cons (qv 6) qa_nil)))) (nomark _)))))
      (qs_cons (qs_for hp rfl rfl (qi_it rfl (qv 7)) (qg_name (i := 9) sc.nd rfl (by first | exact Or.inl rfl | exact Or.inr rfl)) (qs_one (qs_setF (i := 8) sc.nd rfl (by first | exact Or.inl rfl | exact Or.inr rfl) (qe_and (qv 8) (qe_one (qe_ix ix_seq opd_ix (qv 3) (qv 9) (fun _ _ => rfl)))))))
      (qs_one (qs_expr (qe_app rfl (pv 5) (qv 8))))))))
      (qs_one (qs_setM (i := 3) sc.nd rfl (by first | exact Or.inl rfl | exact Or.inr rfl) (qv 5))))))
      (qs_one (qs_ret (qv 3))))))
theorem ok_law (T : Txt K mg a fd) (G__law_cell_at : FnOk P w K mg base (L2.CX P w) 1 (a 5) (fd 5) ["_law_script", "_law_k"] (spF K cl 2 F__law_cell_at)) (G__law_long_run : FnOk P w K mg base (L2.CX P w) 3 (a 10) (fd 10) ["_law_script", "_law_hands"] (spF K cl 2 F__law_long_run)) (G__law_mix : FnOk P w K mg base (L2.CX P w) 1 (a 6) (fd 6) ["_law_cell", "_law_k"] (spF K cl 2 F__law_mix)) (G__law_changed : FnOk P w K mg base (L2.CX P w) 2 (a 12) (fd 12) ["_law_number", "_law_run"] (spF K cl 2 F__law_changed)) (G__law_same : FnOk P w K mg base (L2.CX P w) 2 (a 13) (fd 13) ["_law_one", "_law_other"] (spF K cl 2 F__law_same)) (G_alike : FnOk P w K mg base (L2.CX P w) 4 (a 4) (fd 4) ["one", "other", "hand"] (spF K cl 3 F_alike)) (G_view : FnOk P w K mg base (L2.CX P w) 3 (a 3) (fd 3) ["run", "hand"] (spF K cl 2 F_view)) (G_cut_to : FnOk P w K mg base (L2.CX P w) 1 (a 1) (fd 1) ["run", "rounds"] (spF K cl 2 F_cut_to)) : FnOk P w K mg base (L2.CX P w) 5 (a 14) (fd 14) ["_law_script"] (spF K cl 1 F_law) := by
  have sc := sc_law
  refine ok_def (N := N_law) (k := 4) (np := 1) (nn := 9) (fb := f_law) rfl rfl T.f_law sc fun cdv A outer s H E B hr tk hp => ?_
  exact (qs_cons (qs_setF (i := 1) sc.nd rfl (by first | exact Or.inl rfl | exact Or.inr rfl) (qe_bin op_addA opd_add qe_int (qe_bin op_mod opd_mod (qe_call defF_len rfl tk G__law_cell_at (hr.mono (by decide)) (by rfl) T.g__law_cell_at T.k__law_cell_at T.b__law_cell_at (qa_cons (qv 0) (qa_cons qe_int qa_nil))) qe_int)))
      (qs_cons (qs_setF (i := 2) sc.nd rfl (by first | exact Or.inl rfl | exact Or.inr rfl) (qe_call defF_len rfl tk G__law_long_run (hr.mono (by decide)) (by rfl) T.g__law_long_run T.k__law_long_run T.b__law_long_run (qa_cons (qv 0) (qa_cons (qv 1) qa_nil))))
      (qs_cons (qs_setF (i := 3) sc.nd rfl (by first | exact Or.inl rfl | exact Or.inr rfl) (qv 2))
      (qs_cons (qs_for hp rfl rfl (qi_range (by rfl) T.b_range (qe_bin op_mod opd_mod (qe_call defF_len rfl tk G__law_mix (hr.mono (by decide)) (by rfl) T.g__law_mix T.k__law_mix T.b__law_mix (qa_cons (qe_call defF_len rfl tk G__law_cell_at (hr.mono (by decide)) (by rfl) T.g__law_cell_at T.k__law_cell_at T.b__law_cell_at (qa_cons (qv 0) (qa_cons qe_int qa_nil))) (qa_cons qe_int qa_nil))) qe_int)) (qg_name (i := 4) sc.nd rfl (by first | exact Or.inl rfl | exact Or.inr rfl)) (qs_one (qs_setF (i := 3) sc.nd rfl (by first | exact Or.inl rfl | exact Or.inr rfl) (qe_call defF_len rfl tk G__law_changed (hr.mono (by decide)) (by rfl) T.g__law_changed T.k__law_changed T.b__law_changed (qa_cons (qe_call defF_len rfl tk G__law_mix (hr.mono (by decide)) (by rfl) T.g__law_mix T.k__law_mix T.b__law_mix (qa_cons (qe_call defF_len rfl tk G__law_cell_at (hr.mono (by decide)) (by rfl) T.g__law_cell_at T.k__law_cell_at T.b__law_cell_at (qa_cons (qv 0) (qa_cons (qe_bin op_addA opd_add qe_int (qv 4)) qa_nil))) (qa_cons (qe_bin op_addA opd_add qe_int (qv 4)) qa_nil))) (qa_cons (qv 3) qa_nil))))))
      (qs_cons (qs_setF (i := 5) sc.nd rfl (by first | exact Or.inl rfl | exact Or.inr rfl) (qe_call defF_len rfl tk G__law_same (hr.mono (by decide)) (by rfl) T.g__law_same T.k__law_same T.b__law_same (qa_cons (qv 2) (qa_cons (qv 3) qa_nil))))
      (qs_cons (qs_for hp rfl rfl (qi_range (by rfl) T.b_range (qv 1)) (qg_name (i := 6) sc.nd rfl (by first | exact Or.inl rfl | exact Or.inr rfl)) (qs_cons (qs_for hp rfl rfl (qi_it rfl (qe_lst (qa_cons (qe_call defF_len rfl tk G_alike (hr.mono (by decide)) (by rfl) T.g_alike T.k_alike T.b_alike (qa_cons (qv 2) (qa_cons (qv 3) (qa_cons (qv 6) qa_nil)))) (qa_cons (qe_call defF_len rfl tk G_alike (hr.mono (by decide)) (by rfl) T.g_alike T.k_alike T.b_alike (qa_cons (qv 3) (qa_cons (qv 2) (qa_cons (qv 6) qa_nil)))) qa_nil)))) (qg_name (i := 7) sc.nd rfl (by first | exact Or.inl rfl | exact Or.inr rfl)) (qs_one (qs_if ((qw_or (qt_not (qt_val (qe_callB call_isi cd_isi (by rfl) T.b_isinstance (by decide +kernel) (qa_cons (qv 7) (qa_cons (qe_ty (pe_bltn (v := .ty "bool") (by rfl) T.b_bool (by decide +kernel) rfl)) qa_nil))))) (qw_or1 (qt_cmp (op_neD (hu64 hr)) opd_ne (qv 7) (qe_ix ix_seq opd_ix (qv 5) (qv 6) (fun _ _ => rfl)) (nomark _))))).pt (qs_one (qs_ret qe_bl)) qs_nil)))
      (qs_cons (qs_if ((qw_or (qt_cmp (op_neD (hu64 hr)) opd_ne (qe_cmp (op_eqD (hu64 hr)) opd_eq (qe_call defF_len rfl tk G_view (hr.mono (by decide)) (by rfl) T.g_view T.k_view T.b_view (qa_cons (qv 2) (qa_cons (qv 6) qa_nil))) (qe_call defF_len rfl tk G_view (hr.mono (by decide)) (by rfl) T.g_view T.k_view T.b_view (qa_cons (qv 3) (qa_cons (qv 6) qa_nil))) (nomark _)) (qe_ix ix_seq opd_ix (qv 5) (qv 6) (fun _ _ => rfl)) (nomark _)) (qw_or1 (qt_cmp op_notB opd_notB (qe_call defF_len rfl tk G_alike (hr.mono (by decide)) (by rfl) T.g_alike T.k_alike T.b_alike (qa_cons (qv 2) (qa_cons (qv 2) (qa_cons (qv 6) qa_nil)))) qe_bl (nomark _))))).pt (qs_one (qs_ret qe_bl)) qs_nil)
      (qs_one (qs_for hp rfl rfl (qi_range (by rfl) T.b_range (qe_callB call_len cd_len (by rfl) T.b_len (by decide +kernel) (qa_cons (qe_ix ix_seq opd_ix (qv 2) qe_int (fun _ _ => rfl)) qa_nil))) (qg_name (i := 8) sc.nd rfl (by first | exact Or.inl rfl | exact Or.inr rfl)) (qs_one (qs_if ((qw_and (qt_val (qe_ix ix_seq opd_ix (qv 5) (qv 6) (fun _ _ => rfl))) (qw_and1 (qt_cmp op_notB opd_notB (qe_call defF_len rfl tk G_alike (hr.mono (by decide)) (by rfl) T.g_alike T.k_alike T.b_alike (qa_cons (qe_call defF_len rfl tk G_cut_to (hr.mono (by decide)) (by rfl) T.g_cut_to T.k_cut_to T.b_cut_to (qa_cons (qv 2) (qa_cons (qv 8) qa_nil))) (qa_cons (qe_call defF_len rfl tk G_cut_to (hr.mono (by decide)) (by rfl) T.g_cut_to T.k_cut_to T.b_cut_to (qa_cons (qv 3) (qa_cons (qv 8) qa_nil))) (qa_cons (qv 6) qa_nil)))) qe_bl (nomark _))))).pt (qs_one (qs_ret qe_bl)) qs_nil)))))))
      (qs_one (qs_ret qe_bl))))))))
end
/-! ### the end -/
theorem all_mk {l : PySem.W.OpenLaw} {w : World} {K : PySem.W.Frag} {h : Heap} {mg : Str → Option Value} {fa : Addr} {cl : Str → Value} (X : K.In h) (G : h.Ns mainGlobals mg) (hfa : mg "law" = some (.ref fa))
    {p0 p1 p2 p3 p4 p5 p6 p7 p8 p9 p10 p11 p12 p13 p14 : Addr} {od0 an0 od1 an1 od2 an2 od3 an3 od4 an4 od5 an5 od6 an6 od7 an7 od8 an8 od9 an9 od10 an10 od11 an11 od12 an12 od13 an13 od14 an14 : Option Addr} {sl0 sl1 sl2 sl3 sl4 sl5 sl6 sl7 sl8 sl9 sl10 sl11 sl12 sl13 sl14 : Array (Option Value)} {oc0 kV0 dc0 pm0 cd0 ct0 oc1 kV1 dc1 pm1 cd1 ct1 oc2 kV2 dc2 pm2 cd2 ct2 oc3 kV3 dc3 pm3 cd3 ct3 oc4 kV4 dc4 pm4 cd4 ct4 oc5 kV5 dc5 pm5 cd5 ct5 oc6 kV6 dc6 pm6 cd6 ct6 oc7 kV7 dc7 pm7 cd7 ct7 oc8 kV8 dc8 pm8 cd8 ct8 oc9 kV9 dc9 pm9 cd9 ct9 oc10 kV10 dc10 pm10 cd10 ct10 oc11 kV11 dc11 pm11 cd11 ct11 oc12 kV12 dc12 pm12 cd12 ct12 oc13 kV13 dc13 pm13 cd13 ct13 oc14 kV14 dc14 pm14 cd14 ct14 : Value}
    (a0 : PySem.W.nsIn K mainGlobals "came_to" = some (some (.ref p0))) (l0 : K.lookup p0 = some ⟨oc0, od0, .func (PySem.W.fnOf "came_to" "came_to" (defArgs s_came_to) (defBody s_came_to) (defScope s_came_to) .none kV0 dc0 pm0 an0 cd0 ct0), sl0⟩) (c0 : PySem.W.codeIn K cd0 "came_to" = true) (k0 : PySem.W.keepIn K (.ref p0) = true)
    (a1 : PySem.W.nsIn K mainGlobals "cut_to" = some (some (.ref p1))) (l1 : K.lookup p1 = some ⟨oc1, od1, .func (PySem.W.fnOf "cut_to" "cut_to" (defArgs s_cut_to) (defBody s_cut_to) (defScope s_cut_to) .none kV1 dc1 pm1 an1 cd1 ct1), sl1⟩) (c1 : PySem.W.codeIn K cd1 "cut_to" = true) (k1 : PySem.W.keepIn K (.ref p1) = true)
    (a2 : PySem.W.nsIn K mainGlobals "heard_spots" = some (some (.ref p2))) (l2 : K.lookup p2 = some ⟨oc2, od2, .func (PySem.W.fnOf "heard_spots" "heard_spots" (defArgs s_heard_spots) (defBody s_heard_spots) (defScope s_heard_spots) .none kV2 dc2 pm2 an2 cd2 ct2), sl2⟩) (c2 : PySem.W.codeIn K cd2 "heard_spots" = true) (k2 : PySem.W.keepIn K (.ref p2) = true)
    (a3 : PySem.W.nsIn K mainGlobals "view" = some (some (.ref p3))) (l3 : K.lookup p3 = some ⟨oc3, od3, .func (PySem.W.fnOf "view" "view" (defArgs s_view) (defBody s_view) (defScope s_view) .none kV3 dc3 pm3 an3 cd3 ct3), sl3⟩) (c3 : PySem.W.codeIn K cd3 "view" = true) (k3 : PySem.W.keepIn K (.ref p3) = true)
    (a4 : PySem.W.nsIn K mainGlobals "alike" = some (some (.ref p4))) (l4 : K.lookup p4 = some ⟨oc4, od4, .func (PySem.W.fnOf "alike" "alike" (defArgs s_alike) (defBody s_alike) (defScope s_alike) .none kV4 dc4 pm4 an4 cd4 ct4), sl4⟩) (c4 : PySem.W.codeIn K cd4 "alike" = true) (k4 : PySem.W.keepIn K (.ref p4) = true)
    (a5 : PySem.W.nsIn K mainGlobals "_law_cell_at" = some (some (.ref p5))) (l5 : K.lookup p5 = some ⟨oc5, od5, .func (PySem.W.fnOf "_law_cell_at" "_law_cell_at" (defArgs s__law_cell_at) (defBody s__law_cell_at) (defScope s__law_cell_at) .none kV5 dc5 pm5 an5 cd5 ct5), sl5⟩) (c5 : PySem.W.codeIn K cd5 "_law_cell_at" = true) (k5 : PySem.W.keepIn K (.ref p5) = true)
    (a6 : PySem.W.nsIn K mainGlobals "_law_mix" = some (some (.ref p6))) (l6 : K.lookup p6 = some ⟨oc6, od6, .func (PySem.W.fnOf "_law_mix" "_law_mix" (defArgs s__law_mix) (defBody s__law_mix) (defScope s__law_mix) .none kV6 dc6 pm6 an6 cd6 ct6), sl6⟩) (c6 : PySem.W.codeIn K cd6 "_law_mix" = true) (k6 : PySem.W.keepIn K (.ref p6) = true)
    (a7 : PySem.W.nsIn K mainGlobals "_law_pairs" = some (some (.ref p7))) (l7 : K.lookup p7 = some ⟨oc7, od7, .func (PySem.W.fnOf "_law_pairs" "_law_pairs" (defArgs s__law_pairs) (defBody s__law_pairs) (defScope s__law_pairs) .none kV7 dc7 pm7 an7 cd7 ct7), sl7⟩) (c7 : PySem.W.codeIn K cd7 "_law_pairs" = true) (k7 : PySem.W.keepIn K (.ref p7) = true)
    (a8 : PySem.W.nsIn K mainGlobals "_law_weather" = some (some (.ref p8))) (l8 : K.lookup p8 = some ⟨oc8, od8, .func (PySem.W.fnOf "_law_weather" "_law_weather" (defArgs s__law_weather) (defBody s__law_weather) (defScope s__law_weather) .none kV8 dc8 pm8 an8 cd8 ct8), sl8⟩) (c8 : PySem.W.codeIn K cd8 "_law_weather" = true) (k8 : PySem.W.keepIn K (.ref p8) = true)
    (a9 : PySem.W.nsIn K mainGlobals "_law_values" = some (some (.ref p9))) (l9 : K.lookup p9 = some ⟨oc9, od9, .func (PySem.W.fnOf "_law_values" "_law_values" (defArgs s__law_values) (defBody s__law_values) (defScope s__law_values) .none kV9 dc9 pm9 an9 cd9 ct9), sl9⟩) (c9 : PySem.W.codeIn K cd9 "_law_values" = true) (k9 : PySem.W.keepIn K (.ref p9) = true)
    (a10 : PySem.W.nsIn K mainGlobals "_law_long_run" = some (some (.ref p10))) (l10 : K.lookup p10 = some ⟨oc10, od10, .func (PySem.W.fnOf "_law_long_run" "_law_long_run" (defArgs s__law_long_run) (defBody s__law_long_run) (defScope s__law_long_run) .none kV10 dc10 pm10 an10 cd10 ct10), sl10⟩) (c10 : PySem.W.codeIn K cd10 "_law_long_run" = true) (k10 : PySem.W.keepIn K (.ref p10) = true)
    (a11 : PySem.W.nsIn K mainGlobals "_law_senders" = some (some (.ref p11))) (l11 : K.lookup p11 = some ⟨oc11, od11, .func (PySem.W.fnOf "_law_senders" "_law_senders" (defArgs s__law_senders) (defBody s__law_senders) (defScope s__law_senders) .none kV11 dc11 pm11 an11 cd11 ct11), sl11⟩) (c11 : PySem.W.codeIn K cd11 "_law_senders" = true) (k11 : PySem.W.keepIn K (.ref p11) = true)
    (a12 : PySem.W.nsIn K mainGlobals "_law_changed" = some (some (.ref p12))) (l12 : K.lookup p12 = some ⟨oc12, od12, .func (PySem.W.fnOf "_law_changed" "_law_changed" (defArgs s__law_changed) (defBody s__law_changed) (defScope s__law_changed) .none kV12 dc12 pm12 an12 cd12 ct12), sl12⟩) (c12 : PySem.W.codeIn K cd12 "_law_changed" = true) (k12 : PySem.W.keepIn K (.ref p12) = true)
    (a13 : PySem.W.nsIn K mainGlobals "_law_same" = some (some (.ref p13))) (l13 : K.lookup p13 = some ⟨oc13, od13, .func (PySem.W.fnOf "_law_same" "_law_same" (defArgs s__law_same) (defBody s__law_same) (defScope s__law_same) .none kV13 dc13 pm13 an13 cd13 ct13), sl13⟩) (c13 : PySem.W.codeIn K cd13 "_law_same" = true) (k13 : PySem.W.keepIn K (.ref p13) = true)
    (a14 : PySem.W.nsIn K mainGlobals "law" = some (some (.ref p14))) (l14 : K.lookup p14 = some ⟨oc14, od14, .func (PySem.W.fnOf "law" "law" (defArgs s_law) (defBody s_law) (defScope s_law) .none kV14 dc14 pm14 an14 cd14 ct14), sl14⟩) (c14 : PySem.W.codeIn K cd14 "law" = true) (k14 : PySem.W.keepIn K (.ref p14) = true)
    (z_bool : PySem.W.nsIn K mainGlobals "bool" = some none)
    (z_isinstance : PySem.W.nsIn K mainGlobals "isinstance" = some none)
    (z_len : PySem.W.nsIn K mainGlobals "len" = some none)
    (z_list : PySem.W.nsIn K mainGlobals "list" = some none)
    (z_range : PySem.W.nsIn K mainGlobals "range" = some none)
    (z_sorted : PySem.W.nsIn K mainGlobals "sorted" = some none)
    (z_tuple : PySem.W.nsIn K mainGlobals "tuple" = some none)
    (z_zip : PySem.W.nsIn K mainGlobals "zip" = some none) :
    ∃ fd : FuncData, (∀ (s : Shared) (v : Value), BindsTo s fd ⟨[v], []⟩ [("_law_script", v)]) ∧ ∀ base : Heap, K.In base → base.Ns mainGlobals mg → FnOk l.prog w K mg base (L2.CX l.prog w) 5 fa fd ["_law_script"] (spF K cl 1 F_law) := by
  have e := hfa.symm.trans (PySem.W.mg_of X G a14)
  have e2 : p14 = fa := by injection e with e3; injection e3 with e4; exact e4.symm
  subst e2
  have F0 := fun_mk (st := s_came_to) l0 c0 k0
  have F1 := fun_mk (st := s_cut_to) l1 c1 k1
  have F2 := fun_mk (st := s_heard_spots) l2 c2 k2
  have F3 := fun_mk (st := s_view) l3 c3 k3
  have F4 := fun_mk (st := s_alike) l4 c4 k4
  have F5 := fun_mk (st := s__law_cell_at) l5 c5 k5
  have F6 := fun_mk (st := s__law_mix) l6 c6 k6
  have F7 := fun_mk (st := s__law_pairs) l7 c7 k7
  have F8 := fun_mk (st := s__law_weather) l8 c8 k8
  have F9 := fun_mk (st := s__law_values) l9 c9 k9
  have F10 := fun_mk (st := s__law_long_run) l10 c10 k10
  have F11 := fun_mk (st := s__law_senders) l11 c11 k11
  have F12 := fun_mk (st := s__law_changed) l12 c12 k12
  have F13 := fun_mk (st := s__law_same) l13 c13 k13
  have F14 := fun_mk (st := s_law) l14 c14 k14
  have T : Txt K mg (fun i => [p0, p1, p2, p3, p4, p5, p6, p7, p8, p9, p10, p11, p12, p13, p14].getD i 0) (fun i => [PySem.W.fnOf "came_to" "came_to" (defArgs s_came_to) (defBody s_came_to) (defScope s_came_to) .none kV0 dc0 pm0 an0 cd0 ct0, PySem.W.fnOf "cut_to" "cut_to" (defArgs s_cut_to) (defBody s_cut_to) (defScope s_cut_to) .none kV1 dc1 pm1 an1 cd1 ct1, PySem.W.fnOf "heard_spots" "heard_spots" (defArgs s_heard_spots) (defBody s_heard_spots) (defScope s_heard_spots) .none kV2 dc2 pm2 an2 cd2 ct2, PySem.W.fnOf "view" "view" (defArgs s_view) (defBody s_view) (defScope s_view) .none kV3 dc3 pm3 an3 cd3 ct3, PySem.W.fnOf "alike" "alike" (defArgs s_alike) (defBody s_alike) (defScope s_alike) .none kV4 dc4 pm4 an4 cd4 ct4, PySem.W.fnOf "_law_cell_at" "_law_cell_at" (defArgs s__law_cell_at) (defBody s__law_cell_at) (defScope s__law_cell_at) .none kV5 dc5 pm5 an5 cd5 ct5, PySem.W.fnOf "_law_mix" "_law_mix" (defArgs s__law_mix) (defBody s__law_mix) (defScope s__law_mix) .none kV6 dc6 pm6 an6 cd6 ct6, PySem.W.fnOf "_law_pairs" "_law_pairs" (defArgs s__law_pairs) (defBody s__law_pairs) (defScope s__law_pairs) .none kV7 dc7 pm7 an7 cd7 ct7, PySem.W.fnOf "_law_weather" "_law_weather" (defArgs s__law_weather) (defBody s__law_weather) (defScope s__law_weather) .none kV8 dc8 pm8 an8 cd8 ct8, PySem.W.fnOf "_law_values" "_law_values" (defArgs s__law_values) (defBody s__law_values) (defScope s__law_values) .none kV9 dc9 pm9 an9 cd9 ct9, PySem.W.fnOf "_law_long_run" "_law_long_run" (defArgs s__law_long_run) (defBody s__law_long_run) (defScope s__law_long_run) .none kV10 dc10 pm10 an10 cd10 ct10, PySem.W.fnOf "_law_senders" "_law_senders" (defArgs s__law_senders) (defBody s__law_senders) (defScope s__law_senders) .none kV11 dc11 pm11 an11 cd11 ct11, PySem.W.fnOf "_law_changed" "_law_changed" (defArgs s__law_changed) (defBody s__law_changed) (defScope s__law_changed) .none kV12 dc12 pm12 an12 cd12 ct12, PySem.W.fnOf "_law_same" "_law_same" (defArgs s__law_same) (defBody s__law_same) (defScope s__law_same) .none kV13 dc13 pm13 an13 cd13 ct13, PySem.W.fnOf "law" "law" (defArgs s_law) (defBody s_law) (defScope s_law) .none kV14 dc14 pm14 an14 cd14 ct14].getD i (PySem.W.fnOf "law" "law" (defArgs s_law) (defBody s_law) (defScope s_law) .none kV0 dc0 pm0 an0 cd0 ct0)) :=
    ⟨F0, PySem.W.mg_of X G a0, k0, F0.binds (fun _ _ _ _ _ _ us hl => match us, hl with | [_, _, _], _ => rfl), F1, PySem.W.mg_of X G a1, k1, F1.binds (fun _ _ _ _ _ _ us hl => match us, hl with | [_, _], _ => rfl), F2, PySem.W.mg_of X G a2, k2, F2.binds (fun _ _ _ _ _ _ us hl => match us, hl with | [_, _], _ => rfl), F3, PySem.W.mg_of X G a3, k3, F3.binds (fun _ _ _ _ _ _ us hl => match us, hl with | [_, _], _ => rfl), F4, PySem.W.mg_of X G a4, k4, F4.binds (fun _ _ _ _ _ _ us hl => match us, hl with | [_, _, _], _ => rfl), F5, PySem.W.mg_of X G a5, k5, F5.binds (fun _ _ _ _ _ _ us hl => match us, hl with | [_, _], _ => rfl), F6, PySem.W.mg_of X G a6, k6, F6.binds (fun _ _ _ _ _ _ us hl => match us, hl with | [_, _], _ => rfl), F7, PySem.W.mg_of X G a7, k7, F7.binds (fun _ _ _ _ _ _ us hl => match us, hl with | [_], _ => rfl), F8, PySem.W.mg_of X G a8, k8, F8.binds (fun _ _ _ _ _ _ us hl => match us, hl with | [_, _], _ => rfl), F9, PySem.W.mg_of X G a9, k9, F9.binds (fun _ _ _ _ _ _ us hl => match us, hl with | [_], _ => rfl), F10, PySem.W.mg_of X G a10, k10, F10.binds (fun _ _ _ _ _ _ us hl => match us, hl with | [_, _], _ => rfl), F11, PySem.W.mg_of X G a11, k11, F11.binds (fun _ _ _ _ _ _ us hl => match us, hl with | [_, _, _], _ => rfl), F12, PySem.W.mg_of X G a12, k12, F12.binds (fun _ _ _ _ _ _ us hl => match us, hl with | [_, _], _ => rfl), F13, PySem.W.mg_of X G a13, k13, F13.binds (fun _ _ _ _ _ _ us hl => match us, hl with | [_, _], _ => rfl), F14, PySem.W.mg_of X G a14, k14, F14.binds (fun _ _ _ _ _ _ us hl => match us, hl with | [_], _ => rfl), PySem.W.mg_none_of X G z_bool, PySem.W.mg_none_of X G z_isinstance, PySem.W.mg_none_of X G z_len, PySem.W.mg_none_of X G z_list, PySem.W.mg_none_of X G z_range, PySem.W.mg_none_of X G z_sorted, PySem.W.mg_none_of X G z_tuple, PySem.W.mg_none_of X G z_zip⟩
  refine ⟨PySem.W.fnOf "law" "law" (defArgs s_law) (defBody s_law) (defScope s_law) .none kV14 dc14 pm14 an14 cd14 ct14, fun s v => .of_eq rfl, fun base _ _ => ?_⟩
  have G_came_to := ok_came_to (P := l.prog) (w := w) (base := base) (cl := cl) T
  have G_cut_to := ok_cut_to (P := l.prog) (w := w) (base := base) (cl := cl) T
  have G_heard_spots := ok_heard_spots (P := l.prog) (w := w) (base := base) (cl := cl) T G_came_to
  have G_view := ok_view (P := l.prog) (w := w) (base := base) (cl := cl) T G_heard_spots G_came_to
  have G_alike := ok_alike (P := l.prog) (w := w) (base := base) (cl := cl) T G_view
  have G__law_cell_at := ok__law_cell_at (P := l.prog) (w := w) (base := base) (cl := cl) T
  have G__law_mix := ok__law_mix (P := l.prog) (w := w) (base := base) (cl := cl) T
  have G__law_pairs := ok__law_pairs (P := l.prog) (w := w) (base := base) (cl := cl) T
  have G__law_weather := ok__law_weather (P := l.prog) (w := w) (base := base) (cl := cl) T G__law_pairs
  have G__law_values := ok__law_values (P := l.prog) (w := w) (base := base) (cl := cl) T G__law_cell_at
  have G__law_long_run := ok__law_long_run (P := l.prog) (w := w) (base := base) (cl := cl) T G__law_values G__law_mix G__law_cell_at G__law_weather
  have G__law_senders := ok__law_senders (P := l.prog) (w := w) (base := base) (cl := cl) T
  have G__law_changed := ok__law_changed (P := l.prog) (w := w) (base := base) (cl := cl) T G__law_pairs
  have G__law_same := ok__law_same (P := l.prog) (w := w) (base := base) (cl := cl) T G__law_senders
  have G_law := ok_law (P := l.prog) (w := w) (base := base) (cl := cl) T G__law_cell_at G__law_long_run G__law_mix G__law_changed G__law_same G_alike G_view G_cut_to
  exact G_law
end Lw
end
section
namespace Lw
open PySem PySem.Spec PyProof.Rows L2 Ab
abbrev e2 : Int × Int → D := eP D.int D.int
abbrev eI : List Int → D := eT D.int
abbrev eW : List (Int × Int) → D := eT e2
abbrev Rn := List Int × List (List (Int × Int))
abbrev eR : Rn → D := eP eI (eT eW)
theorem enc2 : EncOk e2 1 := enc_pair enc_int enc_int
theorem encI : EncOk eI 1 := enc_tup enc_int
theorem encW : EncOk eW 2 := enc_tup enc2
theorem encR : EncOk eR 4 := enc_pair encI (enc_tup encW)
theorem gTuple_sq {d : D} {A : Sl} {es : List D} (h : sqOf (see A d) = some es) (hf : isFs es = true) : gTuple [d] A = some (.tup es) := by unfold gTuple; simp only [h, hf, if_true]
theorem gIxl_3 {d : D} {a b c i : Int} {A : Sl} (hs : sqOf (see A d) = some [.int a, .int b, .int c]) (h0 : 0 ≤ i) (h1 : i < 3) : gIx d (.int i) A = some (.int (if i = 0 then a else if i = 1 then b else c)) := by
  rcases (by omega : i = 0 ∨ i = 1 ∨ i = 2) with rfl | rfl | rfl
  · exact gIx_at hs rfl rfl
  · exact gIx_at hs rfl rfl
  · exact gIx_at hs rfl rfl
theorem cutG_map {α β : Type} (f : α → β) (xs : List α) (lo hi : Option Int) : cutG (xs.map f) lo hi = (cutG xs lo hi).map f := by
  unfold cutG; rw [List.length_map, List.map_take, List.map_drop]
theorem pickG_map {α β : Type} (f : α → β) (xs : List α) (lo hi st : Option Int) : pickG (xs.map f) lo hi st = (pickG xs lo hi st).map f := by
  unfold pickG pickAt
  rw [List.length_map, List.map_filterMap]
  refine filterMap_same fun j _ => ?_
  rw [List.getElem?_map]
theorem gSl_tup {α : Type} {f : α → D} {d : D} {xs : List α} {lo hi : Option Int} {A : Sl} (hd : see A d = .tup (xs.map f)) (hf : isFs (xs.map f) = true) : gSl d lo hi A = some (.tup ((cutG xs lo hi).map f)) := by
  unfold gSl; simp only [hd, hf, if_true, cutG_map]
theorem gSl_lst {α : Type} {f : α → D} {d : D} {xs : List α} {lo hi : Option Int} {A : Sl} (hd : lsOf (see A d) = some (xs.map f)) (hf : isFs (xs.map f) = true) : gSl d lo hi A = some (.mu ((cutG xs lo hi).map f)) := by
  unfold gSl
  split
  · rename_i q; rw [q] at hd; cases hd
  · rename_i q; rw [q] at hd; cases hd
  · rw [hd]; simp only [hf, if_true, cutG_map]
theorem gSlS_lst {α : Type} {f : α → D} {d : D} {xs : List α} {lo hi st : Option Int} {A : Sl} (hd : lsOf (see A d) = some (xs.map f)) (hf : isFs (xs.map f) = true) (h0 : st ≠ some 0) : gSlS d lo hi st A = some (.mu ((pickG xs lo hi st).map f)) := by
  unfold gSlS
  split
  · rename_i q; rw [q] at hd; cases hd
  · rw [hd]; simp only [hf, h0, ne_eq, not_false_eq_true, and_self, if_true, pickG_map]
theorem gSlS_rev {α : Type} {f : α → D} {d : D} {xs : List α} {A : Sl} (hd : see A d = .tup (xs.map f)) (hf : isFs (xs.map f) = true) : gSlS d none none (some (-1)) A = some (.tup (xs.reverse.map f)) := by
  unfold gSlS; simp only [hd, hf, and_self, if_true, List.map_reverse]
theorem ev_slS {fe : FE} {fl fh ft : FO} {l h t : Option Int} {A A1 A2 A3 A4 : Sl} {d r : D} (h1 : fe A = .ok d A1) (h2 : fl A1 = .ok l A2) (h3 : fh A2 = .ok h A3) (h4 : ft A3 = .ok t A4) (h5 : gSlS d l h t A4 = some r) : fSlS fe fl fh ft A = .ok r A4 := by
  unfold fSlS; rw [h1]; simp only [Ou.bind_ok, h2, h3, h4, h5]
/-! evaluation by rules: the key "ab" -/
local macro_rules | `(tactic| walk_at "ab g") => `(tactic| first
  | exact gMinus_ok | exact gAdd_ok | (refine gMul_l ?_; omega) | (refine gMul_r ?_; omega) | (refine gMod_ok ?_; omega) | (refine gDiv_ok ?_ ?_ <;> omega)
  | exact gLt_ok | exact gLe_ok | exact gGt_ok | exact gGe_ok | exact gEq_int | exact gNe_int
  | exact gPow_ok (b := 60) (by decide) (by decide) | exact gPow_ok (b := 59) (by decide) (by decide) | exact gPow_ok (b := 12) (by decide) (by decide)
  | (refine gIxl_3 rfl ?_ ?_ <;> omega)
  | exact isi_ii | exact isi_ib | exact isi_tt | exact isi_ll | exact isi_ml | exact isi_bi | exact isi_bb | exact isi_ss
  | exact gIn_enc enc_int rfl | exact gNotIn_enc enc_int rfl | exact gIn_enc enc2 rfl | exact gNotIn_enc enc2 rfl
  | (exact gTuple_sq rfl (EncOk.fs enc_int _)) | (exact gTuple_sq rfl (EncOk.fs enc2 _)) | (exact gTuple_sq rfl (EncOk.fs encW _))
  | rfl)
local macro_rules | `(tactic| walk_at "ab f") => `(tactic| first | rfl | (simp only [isF, isFs, Bool.and_self, Bool.and_true]; done) | (exact EncOk.fs enc_int _) | (exact EncOk.fs (enc_tup enc_int) _) | (exact EncOk.fs enc2 _) | (exact EncOk.fs encW _) | (exact encW.f _) | (exact encI.f _) | (exact encR.f _) | (simp [EncOk.fs enc_int, EncOk.fs enc2, EncOk.fs encW, isF, isFs]; done))
local macro_rules | `(tactic| walk_at "ab") => `(tactic| first
  | (with_reducible exact ev_C)
  | ((with_reducible apply ev_var); (· rfl); (· walk_at "ab f"))
  | ((with_reducible apply ev_al); (· rfl); (· walk_at "ab f"))
  | ((with_reducible apply ev_bin); (· walk_at "ab"); (· walk_at "ab"); (· walk_at "ab g"))
  | ((with_reducible apply ev_un); (· walk_at "ab"); (· walk_at "ab g"))
  | (with_reducible exact ev_nil)
  | ((with_reducible apply ev_cons); (· walk_at "ab"); (· walk_at "ab"))
  | ((with_reducible apply ev_tup); (· walk_at "ab"); (· walk_at "ab f"); (· walk_at "ab l"))
  | ((with_reducible apply ev_lst); (· walk_at "ab"); (· walk_at "ab f"); (· walk_at "ab l"))
  | ((with_reducible apply ev_cb); (· walk_at "ab"); (· walk_at "ab g"))
  | ((with_reducible apply ev_call); (· walk_at "ab"); (· walk_at "ab f"); (· walk_at "ab c"))
  | ((with_reducible apply ev_mtl); (· walk_at "ab"); (· rfl); (· walk_at "ab"); (· walk_at "ab g"))
  | (with_reducible exact ev_noPart)
  | ((with_reducible apply ev_part); (· walk_at "ab"))
  | ((with_reducible apply ev_sl); (· walk_at "ab"); (· walk_at "ab"); (· walk_at "ab"); (· walk_at "ab g"))
  | ((with_reducible apply ev_B); (· walk_at "ab"))
  | ((with_reducible apply ev_not); (· walk_at "ab"))
  | ((with_reducible apply ev_notV); (· walk_at "ab"))
  | ((with_reducible apply ev_asgF); (· walk_at "ab"); (· walk_at "ab f"))
  | ((with_reducible apply ev_asgF_mu); (· walk_at "ab"); (· walk_at "ab f"))
  | ((with_reducible apply ev_asg); (· walk_at "ab"); (· exact fun j q => nomatch q))
  | ((with_reducible apply ev_asgM); (· rfl))
  | ((with_reducible apply ev_drop); (· walk_at "ab"))
  | ((with_reducible apply ev_app); (· rfl); (· walk_at "ab"); (· walk_at "ab f"); (· walk_at "ab l"))
  | ((with_reducible apply ev_ext_mu); (· rfl); (· walk_at "ab"); (· rfl); (· walk_at "ab f"); (· walk_at "ab l"))
  | ((with_reducible apply ev_clr); (· rfl))
  | ((with_reducible apply ev_ret_al); (· rfl))
  | ((with_reducible apply ev_ret); (· walk_at "ab"); (· exact fun j q => nomatch q))
  | ((with_reducible apply ev_range); (· walk_at "ab"); (· walk_at "ab l"))
  | ((with_reducible apply ev_it); (· walk_at "ab"); (· walk_at "ab f"); (· first | rfl | (exact if_pos (EncOk.fs enc_int _)) | (exact if_pos (EncOk.fs enc2 _)) | (exact if_pos (EncOk.fs encW _)) | (simp [iterOf, EncOk.fs enc_int, EncOk.fs enc2, EncOk.fs encW]; done)))
  | ((with_reducible apply ev_it_al); (· rfl); (· walk_at "ab f"))
  | ((with_reducible apply ev_it_mu); (· walk_at "ab"); (· walk_at "ab f")))
local macro_rules | `(tactic| walk_at "ab l") => `(tactic| first | decide | (have := sizeLine_eq; simp; omega) | omega)
local macro_rules | `(tactic| walk_at "ab set") => `(tactic| (try simp only [List.set_cons_zero, List.set_cons_succ]))
/- a statement, then the rest -/
local macro_rules | `(tactic| walk_at "ab seq") => `(tactic| ((with_reducible apply w_seq_n); (· walk_at "ab"); walk_at "ab set"))
/- the last statement -/
local macro_rules | `(tactic| walk_at "ab last") => `(tactic| ((with_reducible apply w_of); (· walk_at "ab"); walk_at "ab set"))
local macro_rules | `(tactic| walk_at "ab ret") => `(tactic| ((with_reducible apply w_ret); (· walk_at "ab"); (· walk_at "ab f")))
theorem mix_ex (c k : Int) (h0 : 0 ≤ k) (h1 : k ≤ 1000) : ∃ v : Int, F__law_mix [.int c, .int k] = .ok (.int v) ∧ 0 ≤ v := by
  obtain ⟨d, e, v, rfl, h⟩ := def_w (ds := [.int c, .int k]) (P := fun d => ∃ v : Int, d = .int v ∧ 0 ≤ v) (k := 2) (n := 4) (fs := f__law_mix) [some (.int c), some (.int k), none, none] rfl rfl (by
    unfold f__law_mix
    apply w_seq_if
    · walk_at "ab"
    · intro _
      apply w_seq_ret
      apply w_seq_n
      · apply ev_asgF
        · apply ev_bin
          · apply ev_bin
            · exact ev_var rfl rfl
            · exact ev_bin ev_C ev_C (gPow_ok (b := 12) (by decide) (by decide))
            · exact gDiv_ok (by decide) (by decide)
          · exact ev_C
          · exact gMinus_ok
        · rfl
      walk_at "ab set"
      apply w_seq_for (fun j A => ∃ (n : Int) (l : Option D), A = [some (.int n), some (.int k), none, l])
      · walk_at "ab"
      · exact ⟨_, _, rfl⟩
      · rintro j d A hd ⟨n, l, rfl⟩
        obtain ⟨rfl, hj⟩ := range_get hd
        refine ⟨_, rfl, ?_⟩
        walk_at "ab set"
        walk_at "ab last"
        exact ⟨by simp, _, _, rfl⟩
      · rintro A ⟨n, l, rfl⟩
        walk_at "ab ret"
        exact ⟨_, rfl, ret_of rfl ⟨_, rfl, Int.emod_nonneg _ (by decide)⟩⟩
    · intro _
      apply w_seq_next
      walk_at "ab seq"
      walk_at "ab seq"
      walk_at "ab ret"
      refine ret_of rfl ⟨_, rfl, ?_⟩
      refine Int.ediv_nonneg (Int.emod_nonneg _ (by decide)) (by decide))
  exact ⟨v, e, h⟩
/-! ### the script's numbers, runs -/
abbrev eS (ns : List Int) : D := .fro (ns.map D.int)
def cell (ns : List Int) (k : Int) : Int := if k < ns.length then ns.getD k.toNat 0 else 0
theorem cell_eq (ns : List Int) (k : Int) (h0 : 0 ≤ k) : F__law_cell_at [eS ns, .int k] = .ok (.int (cell ns k)) := by
  refine def_is [some (eS ns), some (.int k)] rfl rfl ?_
  unfold f__law_cell_at cell
  apply w_seq_if
  · walk_at "ab"
  · intro h
    have h : k < ns.length := by simpa using h
    rw [if_pos h]
    apply w_seq_ret
    have hk : k.toNat < ns.length := by omega
    apply w_ret
    · apply ev_bin
      · walk_at "ab"
      · walk_at "ab"
      · exact gIx_map (xs := ns) rfl h0 (getD_get (d := 0) hk) rfl
    · rfl
    · exact ⟨_, rfl, ret_of rfl rfl⟩
  · intro h
    have h : ¬ k < ns.length := by simpa using h
    rw [if_neg h]
    apply w_seq_next
    walk_at "ab ret"
    exact ret_of rfl rfl
def mixV (c k : Int) : Int := match F__law_mix [.int c, .int k] with
  | .ok (.int v) => v
  | _ => 0
theorem mix_eq (c k : Int) (h0 : 0 ≤ k) (h1 : k ≤ 1000) : F__law_mix [.int c, .int k] = .ok (.int (mixV c k)) := by
  obtain ⟨v, e, _⟩ := mix_ex c k h0 h1
  unfold mixV
  rw [e]
theorem mix_nn (c k : Int) (h0 : 0 ≤ k) (h1 : k ≤ 1000) : 0 ≤ mixV c k := by
  obtain ⟨v, e, h⟩ := mix_ex c k h0 h1
  unfold mixV
  rw [e]
  exact h
def row_ (h a : Nat) : List (Int × Int) := ((List.range h).filter fun b : Nat => decide ((a : Int) ≠ (b : Int))).map fun b : Nat => ((a : Int), (b : Int))
def pairs_ (h : Nat) : List (Int × Int) := (List.range h).flatMap (row_ h)
theorem pairs_len (h : Nat) (h2 : 2 ≤ h ∧ h ≤ 4) : 0 < (pairs_ h).length ∧ (pairs_ h).length ≤ 12 := by
  rcases (by omega : h = 2 ∨ h = 3 ∨ h = 4) with rfl | rfl | rfl <;> decide
theorem flat_part (h k : Nat) (hk : k ≤ h) (hh : h ≤ 4) : ((List.range k).flatMap (row_ h)).length ≤ 16 := by
  have : ∀ h : Fin 5, ∀ k : Fin 5, ((List.range k.1).flatMap (row_ h.1)).length ≤ 16 := by decide
  exact this ⟨h, by omega⟩ ⟨k, by omega⟩
theorem pairs_eq (h : Nat) (h2 : 2 ≤ h ∧ h ≤ 4) : F__law_pairs [.int h] = .ok (.mu ((pairs_ h).map e2)) := by
  refine def_is [some (.int h), none, none, none] rfl rfl ?_
  unfold f__law_pairs
  walk_at "ab seq"
  apply w_seq_for (fun j A => ∃ a b, A = [some (.int h), some (.mu (((List.range j).flatMap (row_ h)).map e2)), a, b])
  · walk_at "ab"
  · exact ⟨_, _, rfl⟩
  · rintro j d A hd ⟨a, b, rfl⟩
    obtain ⟨rfl, hj⟩ := range_get hd
    refine ⟨_, rfl, ?_⟩
    walk_at "ab set"
    rw [Int.toNat_natCast] at hj
    have hfl := flat_part h j (by omega) h2.2
    apply w_for (fun i A => ∃ b, A = [some (.int h), some (.mu (((List.range j).flatMap (row_ h) ++ ((List.range i).filter fun b : Nat => decide ((j : Int) ≠ (b : Int))).map fun b : Nat => ((j : Int), (b : Int))).map e2)), some (.int j), b])
    · walk_at "ab"
    · exact ⟨b, by simp⟩
    · rintro i d A hd ⟨b, rfl⟩
      obtain ⟨rfl, hi⟩ := range_get hd
      rw [Int.toNat_natCast] at hi
      refine ⟨_, rfl, ?_⟩
      walk_at "ab set"
      have hfi : ((List.range i).filter fun b : Nat => decide ((j : Int) ≠ (b : Int))).length ≤ i := Nat.le_trans (List.length_filter_le _ _) (by simp)
      apply w_if
      · walk_at "ab"
      · intro hb
        have hb : (j : Int) ≠ i := by simpa using hb
        apply w_of
        · apply ev_drop
          apply ev_app
          · rfl
          · walk_at "ab"
          · walk_at "ab f"
          · have := sizeLine_eq; simp only [List.length_map, List.length_append]; omega
        · refine ⟨by simp, some (.int i), ?_⟩
          rw [List.range_succ, List.filter_append, List.filter_cons_of_pos (by simpa using hb)]
          simp
      · intro hb
        have hb : (j : Int) = i := by simpa using hb
        apply wf_next
        refine ⟨by simp, some (.int i), ?_⟩
        rw [List.range_succ, List.filter_append, List.filter_cons_of_neg (by simpa using hb)]
        simp
    · rintro A ⟨b, rfl⟩
      refine ⟨by simp, some (.int j), b, ?_⟩
      rw [List.range_succ, List.flatMap_append, List.length_map, List.length_range]
      simp [row_]
  · rintro A ⟨a, b, rfl⟩
    apply w_ret_al rfl
    refine ret_mu ?_
    rw [List.length_map, List.length_range, Int.toNat_natCast]
    rfl
theorem weather_eq (n : Int) (h : Nat) (h2 : 2 ≤ h ∧ h ≤ 4) : ∃ d, F__law_weather [.int n, .int h] = .ok d ∧ ∃ w : List (Int × Int), d = eW w ∧ w.length ≤ 12 := by
  have hp := pairs_len h h2
  refine def_w [some (.int n), some (.int h), none, none] rfl rfl ?_
  unfold f__law_weather
  walk_at "ab seq"
  apply w_seq_for (xs := (pairs_ h).map e2) (fun j A => ∃ (m : Int) (w : List (Int × Int)) (l : Option D), A = [some (.int m), some (.int h), some (.mu (w.map e2)), l] ∧ w.length ≤ j)
  · refine ev_it_mu (ev_call (ev_cons (ev_var rfl rfl) ev_nil) rfl (pairs_eq h h2)) (enc2.fs _)
  · exact ⟨_, [], _, rfl, by simp⟩
  · rintro j d A hd ⟨m, w, l, rfl, hl⟩
    obtain ⟨q, hq, rfl⟩ := map_get hd
    have hj : j < (pairs_ h).length := (List.getElem?_eq_some_iff.mp hq).1
    refine ⟨_, rfl, ?_⟩
    walk_at "ab set"
    apply w_seq_if
    · walk_at "ab"
    · intro _
      apply w_seq_n
      · apply ev_drop
        apply ev_app
        · rfl
        · exact ev_var rfl (enc2.f q)
        · exact enc2.f q
        · have := sizeLine_eq; rw [List.length_map]; omega
      walk_at "ab set"
      walk_at "ab last"
      exact ⟨by simp, _, w ++ [q], _, by rw [List.map_append]; rfl, by simp; omega⟩
    · intro _
      apply w_seq_next
      walk_at "ab last"
      exact ⟨by simp, _, w, _, rfl, by omega⟩
  · rintro A ⟨m, w, l, rfl, hl⟩
    apply w_ret
    · apply ev_cb (ev_cons (ev_al rfl (by simp [isF])) ev_nil)
      exact gTuple_sq rfl (enc2.fs _)
    · exact encW.f w
    · exact ret_of (encW.f w) ⟨w, rfl, by rw [List.length_map] at hl; omega⟩
local macro_rules | `(tactic| walk_at "ab c") => `(tactic| first | exact cell_eq _ _ (by omega) | exact mix_eq _ _ (by omega) (by omega))
theorem values_eq (ns : List Int) : ∃ d, F__law_values [eS ns] = .ok d ∧ ∃ a b c : Int, d = .mu [.int a, .int b, .int c] := by
  refine def_w [some (eS ns), none, none] rfl rfl ?_
  unfold f__law_values
  have p60 : (0 : Int) < 10 ^ 60 := by decide
  have p59 : (0 : Int) < 10 ^ 59 := by decide
  have fin : ∀ (a b : Int), W (fRet (fLst (fCons (fBin gDiv (fVar 1) (fC (.int 10))) (fCons (fBin gMinus (fBin gDiv (fVar 2) (fC (.int 10))) (fC (.int 1))) (fCons (fBin gAdd (fC (.int 7)) (fBin gDiv (fVar 1) (fC (.int 10)))) (fNil))))) [some (eS ns), some (.int a), some (.int b)]) (Ret fun d => ∃ a b c : Int, d = .mu [.int a, .int b, .int c]) := by
    intro a b
    apply w_ret_mu
    · walk_at "ab"
    · exact ret_mu ⟨_, _, _, rfl⟩
  apply w_seq_n
  · apply ev_asgF
    · apply ev_bin
      · walk_at "ab"
      · walk_at "ab"
      · exact gMod_ok p60
    · rfl
  walk_at "ab set"
  walk_at "ab seq"
  apply w_seq_if
  · walk_at "ab"
  · intro _
    apply w_seq_n
    · apply ev_asgF
      · apply ev_bin
        · walk_at "ab"
        · apply ev_bin
          · walk_at "ab"
          · walk_at "ab"
          · exact gMod_ok p59
        · exact gMinus_ok
      · rfl
    walk_at "ab set"
    exact fin _ _
  · intro _
    apply w_seq_next
    exact fin _ _
theorem run_eq (ns : List Int) (hn : ns.length ≤ 63) (h : Nat) (h2 : 2 ≤ h ∧ h ≤ 4) : ∃ d, F__law_long_run [eS ns, .int h] = .ok d ∧ ∃ r : Rn, d = eR r ∧ r.1.length = h ∧ r.2.length ≤ 5 ∧ ∀ w ∈ r.2, w.length ≤ 12 := by
  have hz := sizeLine_eq
  obtain ⟨_, ev, a, b, c, rfl⟩ := values_eq ns
  refine def_w [some (eS ns), some (.int h), none, none, none, none, none, none, none] rfl rfl ?_
  unfold f__law_long_run
  apply w_seq_n
  · apply ev_asgF_mu
    · exact ev_call (ev_cons (ev_var rfl rfl) ev_nil) rfl ev
    · rfl
  walk_at "ab set"
  apply w_seq_n
  · apply ev_asgF
    · apply ev_cb
      · apply ev_cons
        · refine fcomp_map (e := fun i : Nat => D.int i) (e' := D.int) (xs := List.range (h : Int).toNat) (fun k => if mixV (cell ns (8 + k)) k % 3 = 0 then a else if mixV (cell ns (8 + k)) k % 3 = 1 then b else c) (ev_range (ev_var rfl rfl) (by omega)) (by simp; omega) fun k hk => ⟨_, rfl, ?_, (fun i q => nomatch q), rfl⟩
          have hk : k < h := by simpa using hk
          have := mix_nn (cell ns (8 + k)) k (by omega) (by omega)
          walk_at "ab set"
          walk_at "ab"
        · exact ev_nil
      · exact gTuple_sq rfl (enc_int.fs _)
    · exact encI.f _
  walk_at "ab set"
  generalize hv : List.map (fun k : Nat => if mixV (cell ns (8 + k)) k % 3 = 0 then a else if mixV (cell ns (8 + k)) k % 3 = 1 then b else c) (List.range (h : Int).toNat) = vs
  have hvl : vs.length = h := by rw [← hv]; simp
  walk_at "ab seq"
  walk_at "ab seq"
  have hm : 0 ≤ cell ns 0 / 3 % 6 ∧ cell ns 0 / 3 % 6 ≤ 5 := by omega
  generalize cell ns 0 / 3 % 6 = m at hm ⊢
  apply w_seq_for (fun j A => ∃ (ws : List (List (Int × Int))) (l6 l7 l8 : Option D), A = [some (eS ns), some (.int h), some (.lst [.int a, .int b, .int c]), some (eI vs), some (.mu (ws.map eW)), some (.int m), l6, l7, l8] ∧ ws.length = j ∧ ∀ w ∈ ws, w.length ≤ 12)
  · walk_at "ab"
  · exact ⟨[], _, _, _, rfl, rfl, by simp⟩
  · rintro j d A hd ⟨ws, l6, l7, l8, rfl, hl, hw⟩
    obtain ⟨rfl, hj⟩ := range_get hd
    refine ⟨_, rfl, ?_⟩
    walk_at "ab set"
    walk_at "ab seq"
    apply w_seq_for (fun i A => ∃ (n : Int) (l8 : Option D), A = [some (eS ns), some (.int h), some (.lst [.int a, .int b, .int c]), some (eI vs), some (.mu (ws.map eW)), some (.int m), some (.int j), some (.int n), l8])
    · apply ev_it_mu (ds := (pickG (cutG ns none (some 63)) (some j) none (some m)).map D.int)
      · apply ev_slS
        · exact ev_sl (ev_var rfl rfl) ev_noPart (ev_part ev_C) (gSl_lst (xs := ns) rfl (enc_int.fs _))
        · walk_at "ab"
        · walk_at "ab"
        · walk_at "ab"
        · exact gSlS_lst rfl (enc_int.fs _) (by simp; omega)
      · exact enc_int.fs _
    · exact ⟨_, _, rfl⟩
    · rintro i d A hd ⟨n, l8, rfl⟩
      obtain ⟨q, hq, rfl⟩ := map_get hd
      refine ⟨_, rfl, ?_⟩
      walk_at "ab set"
      walk_at "ab last"
      exact ⟨by simp, _, _, rfl⟩
    · rintro A ⟨n, l8, rfl⟩
      obtain ⟨_, ew, w, rfl, hwl⟩ := weather_eq n h h2
      apply w_of
      · apply ev_drop
        apply ev_app
        · rfl
        · exact ev_call (ev_cons (ev_var rfl rfl) (ev_cons (ev_var rfl rfl) ev_nil)) rfl ew
        · exact encW.f w
        · rw [List.length_map]; omega
      · refine ⟨.inl rfl, ws ++ [w], _, _, _, by rw [List.map_append]; rfl, by simp [hl], fun x hx => ?_⟩
        rcases List.mem_append.mp hx with q | q
        · exact hw x q
        · rw [List.mem_singleton.mp q]; exact hwl
  · rintro A ⟨ws, l6, l7, l8, rfl, hl, hw⟩
    rw [List.length_map, List.length_range] at hl
    apply w_ret
    · apply ev_tup
      · apply ev_cons
        · exact ev_var rfl (encI.f vs)
        · apply ev_cons
          · apply ev_cb (ev_cons (ev_al rfl (by simp [isF])) ev_nil)
            exact gTuple_sq rfl (encW.fs _)
          · exact ev_nil
      · have := encI.f vs; have := (enc_tup encW).f ws; simp only [isFs, isF] at *; simp [*]
      · simp; omega
    · exact encR.f (vs, ws)
    · exact ret_of (encR.f (vs, ws)) ⟨(vs, ws), rfl, hvl, by show ws.length ≤ 5; omega, hw⟩
/-! ### letters that come -/
def comes (w : List (Int × Int)) (j : Int) (i : Nat) : Bool := !decide ((i : Int) = j) && !decide (((i : Int), j) ∈ w)
def came (h : Nat) (w : List (Int × Int)) (j : Int) : List Int := ((List.range h).filter (comes w j)).map fun i : Nat => (i : Int)
theorem came_to_eq (h : Nat) (hh : h ≤ 4) (w : List (Int × Int)) (j : Int) : F_came_to [.int h, eW w, .int j] = .ok (eI (came h w j)) := by
  have hz := sizeLine_eq
  refine def_is [some (.int h), some (eW w), some (.int j), none] rfl rfl ?_
  unfold f_came_to
  apply w_ret
  · apply ev_cb
    · apply ev_cons
      · refine fcomp_filter (e := fun i : Nat => D.int i) (e' := D.int) (xs := List.range (h : Int).toNat) (fun i : Nat => (i : Int)) (comes w j) (ev_range (ev_var rfl rfl) (by omega)) (by simp; omega) fun i hi => ⟨_, rfl, ?_, fun _ => ⟨?_, fun i q => nomatch q⟩, rfl⟩
        · walk_at "ab set"
          unfold comes
          apply ev_and2
          · walk_at "ab"
          · intro _
            apply ev_B
            apply ev_bin
            · walk_at "ab"
            · exact ev_var rfl (encW.f w)
            · exact (gNotIn_enc (x := ((i : Int), j)) (ys := w) (d := eW w) enc2 rfl).trans (by congr)
        · walk_at "ab set"
          exact ev_var rfl rfl
      · exact ev_nil
    · exact gTuple_sq rfl (enc_int.fs _)
  · exact encI.f _
  · exact ret_of (encI.f _) rfl
theorem gIx_fst {d : D} {r : Rn} {A : Sl} (hs : see A d = eR r) : gIx d (.int 0) A = some (eI r.1) := gIx_at (ds := [eI r.1, eT eW r.2]) (by rw [hs]; rfl) rfl (encI.f _)
theorem gIx_snd {d : D} {r : Rn} {A : Sl} (hs : see A d = eR r) : gIx d (.int 1) A = some (eT eW r.2) := gIx_at (ds := [eI r.1, eT eW r.2]) (by rw [hs]; rfl) rfl ((enc_tup encW).f _)
theorem cut_to_eq (r : Rn) (k : Int) : F_cut_to [eR r, .int k] = .ok (eR (r.1, cutG r.2 none (some k))) := by
  refine def_is [some (eR r), some (.int k)] rfl rfl ?_
  unfold f_cut_to
  apply w_ret
  · apply ev_tup
    · apply ev_cons
      · exact ev_bin (ev_var rfl (encR.f r)) ev_C (gIx_fst rfl)
      · apply ev_cons
        · apply ev_sl
          · exact ev_bin (ev_var rfl (encR.f r)) ev_C (gIx_snd rfl)
          · exact ev_noPart
          · exact ev_part (ev_var rfl rfl)
          · exact gSl_tup rfl (encW.fs _)
        · exact ev_nil
    · have := encI.f r.1; have := (enc_tup encW).f (cutG r.2 none (some k)); simp only [isFs, isF] at *; simp [*]
    · walk_at "ab l"
  · exact encR.f (r.1, cutG r.2 none (some k))
  · exact ret_of (encR.f (r.1, cutG r.2 none (some k))) rfl
/-! ### heard spots -/
theorem came_lt (h : Nat) (w : List (Int × Int)) (j o : Int) (m : o ∈ came h w j) : 0 ≤ o ∧ o < h := by
  unfold came at m
  obtain ⟨i, hi, rfl⟩ := List.mem_map.mp m
  have := List.mem_range.mp (List.mem_filter.mp hi).1
  omega
theorem came_len (h : Nat) (w : List (Int × Int)) (j : Int) : (came h w j).length ≤ h := by
  unfold came
  rw [List.length_map]
  exact Nat.le_trans (List.length_filter_le _ _) (by simp)
theorem senders_eq (h : Nat) (hh : h ≤ 4) (w : List (Int × Int)) (j : Int) : F__law_senders [.int h, eW w, .int j] = .ok (eI (came h w j)) := by
  have hz := sizeLine_eq
  refine def_is [some (.int h), some (eW w), some (.int j), none, none] rfl rfl ?_
  unfold f__law_senders
  walk_at "ab seq"
  apply w_seq_for (fun k A => ∃ l4, A = [some (.int h), some (eW w), some (.int j), some (.mu ((came k w j).map D.int)), l4])
  · walk_at "ab"
  · exact ⟨none, rfl⟩
  · rintro k d A hd ⟨l4, rfl⟩
    obtain ⟨rfl, hk⟩ := range_get hd
    rw [Int.toNat_natCast] at hk
    refine ⟨_, rfl, ?_⟩
    walk_at "ab set"
    have e : came (k + 1) w j = came k w j ++ (([k].filter (comes w j)).map fun i : Nat => (i : Int)) := by
      unfold came
      rw [List.range_succ, List.filter_append, List.map_append]
    apply w_if (b := comes w j k)
    · unfold comes
      apply ev_and2
      · walk_at "ab"
      · intro _
        apply ev_B
        apply ev_bin
        · walk_at "ab"
        · exact ev_var rfl (encW.f w)
        · exact (gNotIn_enc (x := ((k : Int), j)) (ys := w) (d := eW w) enc2 rfl).trans (by congr)
    · intro hc
      apply w_of
      · apply ev_drop
        apply ev_app
        · rfl
        · walk_at "ab"
        · rfl
        · have := came_len k w j; rw [List.length_map]; omega
      · refine ⟨by simp, some (.int k), ?_⟩
        rw [e, List.filter_cons_of_pos hc, List.map_append]
        rfl
    · intro hc
      apply wf_next
      refine ⟨by simp, some (.int k), ?_⟩
      rw [e, List.filter_cons_of_neg (by rw [hc]; exact Bool.false_ne_true)]
      simp
  · rintro A ⟨l4, rfl⟩
    rw [List.length_map, List.length_range, Int.toNat_natCast]
    apply w_ret
    · apply ev_cb (ev_cons (ev_al rfl (by simp [isF])) ev_nil)
      exact gTuple_sq rfl (enc_int.fs _)
    · exact encI.f _
    · exact ret_of (encI.f _) rfl
def add1 (acc : List Int) (x : Int) : List Int := if x ∈ acc then acc else acc ++ [x]
def addAll (acc xs : List Int) : List Int := xs.foldl add1 acc
def hear (h : Nat) (heard : List Int) (w : List (Int × Int)) : List Int := heard.foldl (fun acc o => addAll acc (came h w o)) heard
theorem mem_addAll (x : Int) : ∀ (xs acc : List Int), x ∈ addAll acc xs ↔ x ∈ acc ∨ x ∈ xs
  | [], acc => by simp [addAll]
  | y :: xs, acc => by
    show x ∈ addAll (add1 acc y) xs ↔ _
    rw [mem_addAll x xs]
    unfold add1
    split
    · rename_i m
      simp only [List.mem_cons]
      constructor
      · rintro (a | a) <;> simp [a]
      · rintro (a | rfl | a)
        · exact .inl a
        · exact .inl m
        · exact .inr a
    · simp only [List.mem_append, List.mem_cons, List.not_mem_nil, or_false]
      constructor
      · rintro ((a | a) | a) <;> simp [a]
      · rintro (a | a | a) <;> simp [a]
theorem mem_hearL (h : Nat) (w : List (Int × Int)) (x : Int) : ∀ (os acc : List Int), x ∈ os.foldl (fun acc o => addAll acc (came h w o)) acc ↔ x ∈ acc ∨ ∃ o ∈ os, x ∈ came h w o
  | [], acc => by simp
  | o :: os, acc => by
    rw [List.foldl_cons, mem_hearL h w x os, mem_addAll]
    constructor
    · rintro ((a | a) | ⟨o', m, a⟩)
      · exact .inl a
      · exact .inr ⟨o, by simp, a⟩
      · exact .inr ⟨o', by simp [m], a⟩
    · rintro (a | ⟨o', m, a⟩)
      · exact .inl (.inl a)
      · rcases List.mem_cons.mp m with rfl | m
        · exact .inl (.inr a)
        · exact .inr ⟨o', m, a⟩
theorem mem_hear (h : Nat) (heard : List Int) (w : List (Int × Int)) (x : Int) : x ∈ hear h heard w ↔ x ∈ heard ∨ ∃ o ∈ heard, x ∈ came h w o := mem_hearL h w x heard heard
/-- short: no more than all hands -/
def Ok (h : Nat) (l : List Int) : Prop := l.Nodup ∧ ∀ x ∈ l, 0 ≤ x ∧ x < (h : Int)
theorem Ok.len : ∀ {h : Nat} {l : List Int}, Ok h l → l.length ≤ h
  | 0, [], _ => Nat.le_refl _
  | 0, x :: _, k => by have := k.2 x List.mem_cons_self; omega
  | h + 1, l, k => by
    have k2 : Ok h (l.erase (h : Int)) := by
      refine ⟨k.1.erase _, fun x m => ?_⟩
      have a := k.2 x (List.mem_of_mem_erase m)
      have b : x ≠ (h : Int) := fun e => (k.1.not_mem_erase (a := (h : Int))) (by rw [← e]; exact (by rw [← e] at m; exact m))
      omega
    have := Ok.len k2
    by_cases m : (h : Int) ∈ l
    · rw [List.length_erase_of_mem m] at this; omega
    · rw [List.erase_of_not_mem m] at this; omega
theorem Ok.add1 {h : Nat} {l : List Int} (k : Ok h l) {x : Int} (hx : 0 ≤ x ∧ x < (h : Int)) : Ok h (add1 l x) := by
  unfold Lw.add1
  split
  · exact k
  · rename_i nm
    refine ⟨?_, fun y m => ?_⟩
    · rw [List.nodup_append]
      exact ⟨k.1, by simp, fun a ha b hb e => nm (by simp at hb; rw [← hb, ← e]; exact ha)⟩
    · rcases List.mem_append.mp m with m | m
      · exact k.2 y m
      · rw [List.mem_singleton.mp m]; exact hx
theorem Ok.addAll {h : Nat} : ∀ {xs l : List Int}, Ok h l → (∀ x ∈ xs, 0 ≤ x ∧ x < (h : Int)) → Ok h (addAll l xs)
  | [], l, k, _ => k
  | x :: xs, l, k, hx => Ok.addAll (xs := xs) (k.add1 (hx x List.mem_cons_self)) fun y m => hx y (List.mem_cons_of_mem _ m)
theorem Ok.hearL {h : Nat} {w : List (Int × Int)} : ∀ {os l : List Int}, Ok h l → Ok h (os.foldl (fun acc o => Lw.addAll acc (came h w o)) l)
  | [], l, k => k
  | o :: os, l, k => Ok.hearL (os := os) (k.addAll fun x m => came_lt h w o x m)
theorem Ok.hear {h : Nat} {w : List (Int × Int)} {l : List Int} (k : Ok h l) : Ok h (Lw.hear h l w) := Ok.hearL k
/-- heard, backwards: G of the weathers from the last on -/
def hearG (h : Nat) (a : Int) (rs : List (List (Int × Int))) : List (List Int) := rs.foldl (fun r w => hear h (r.headD []) w :: r) [[a]]
theorem hearG_len (h : Nat) (a : Int) (rs : List (List (Int × Int))) : (hearG h a rs).length = rs.length + 1 := by
  have : ∀ (rs : List (List (Int × Int))) (r : List (List Int)), (rs.foldl (fun r w => hear h (r.headD []) w :: r) r).length = rs.length + r.length := by
    intro rs
    induction rs with
    | nil => intro r; simp
    | cons w rs ih => intro r; rw [List.foldl_cons, ih]; simp; omega
  exact this rs [[a]]
theorem hearG_snoc (h : Nat) (a : Int) (rs : List (List (Int × Int))) (w : List (Int × Int)) : hearG h a (rs ++ [w]) = hear h ((hearG h a rs).headD []) w :: hearG h a rs := by
  unfold hearG
  rw [List.foldl_append]
  rfl
theorem hearG_ok (h : Nat) (a : Int) (ha : 0 ≤ a ∧ a < (h : Int)) (rs : List (List (Int × Int))) : Ok h ((hearG h a rs).headD []) := by
  have : ∀ (rs : List (List (Int × Int))) (r : List (List Int)), Ok h (r.headD []) → Ok h ((rs.foldl (fun r w => hear h (r.headD []) w :: r) r).headD []) := by
    intro rs
    induction rs with
    | nil => intro r k; exact k
    | cons w rs ih => intro r k; rw [List.foldl_cons]; exact ih _ (Ok.hear k)
  exact this rs [[a]] ⟨by simp, by simpa using ha⟩
theorem pickG_rev {α : Type} (xs : List α) : pickG xs none none (some (-1)) = xs.reverse := by
  have hj : pickJs none none (some (-1)) xs.length = (List.range xs.length).map fun k => xs.length - 1 - k := by
    unfold pickJs sliceBounds sliceRange
    simp only [Option.getD_some, show ¬ ((-1 : Int) > 0) from by decide, if_false, show (-(-1) : Int) = 1 from by decide, Int.ediv_one]
    have : (if (xs.length : Int) - 1 > -1 then (xs.length : Int) - 1 - -1 - -1 - 1 else 0).toNat = xs.length := by split <;> omega
    rw [this]
    refine List.map_congr_left fun k hk => ?_
    have := List.mem_range.mp hk
    omega
  unfold pickG pickAt
  rw [hj, List.filterMap_map]
  rw [filterMap_same (g := fun m => xs.reverse[m]?)]
  · have := pick_run xs.reverse.toArray 0 xs.length
    simp only [Nat.zero_add, List.getElem?_toArray] at this
    rw [List.map_id'] at this
    rw [this]
    simp only [List.drop_zero]
    rw [List.take_of_length_le (by simp)]
  · intro m hm
    have h1 : m < xs.length := List.mem_range.mp hm
    show xs[xs.length - 1 - m]? = _
    rw [List.getElem?_reverse h1]
theorem gLen_tup {α : Type} {e : α → D} {xs : List α} {A : Sl} : gLen [.tup (xs.map e)] A = some (.int xs.length) := by
  show some (D.int ((xs.map e).length : Int)) = _
  rw [List.length_map]

abbrev eLi : List Int → D := eL D.int
theorem encLi : EncOk eLi 1 := enc_lst enc_int
theorem hearF_take (h : Nat) (w : List (Int × Int)) (acc : List Int) (os : List Int) (i : Nat) (o : Int) (e : os[i]? = some o) : (os.take (i + 1)).foldl (fun acc o => addAll acc (came h w o)) acc = addAll ((os.take i).foldl (fun acc o => addAll acc (came h w o)) acc) (came h w o) := by
  rw [List.take_add_one, e, List.foldl_append]
  rfl
theorem Ok.take {h : Nat} {w : List (Int × Int)} {os l : List Int} (k : Ok h l) (i : Nat) : Ok h ((os.take i).foldl (fun acc o => Lw.addAll acc (came h w o)) l) := Ok.hearL k
theorem heard_eq (r : Rn) (h : Nat) (hl : r.1.length = h) (hh : h ≤ 4) (hw : r.2.length ≤ 5) (a : Int) (ha : 0 ≤ a ∧ a < (h : Int)) : F_heard_spots [eR r, .int a] = .ok (.mu ((hearG h a r.2.reverse).map eLi)) := by
  have hz := sizeLine_eq
  refine def_is [some (eR r), some (.int a), none, none, none, none, none, none] rfl rfl ?_
  unfold f_heard_spots
  apply w_seq_n
  · apply ev_asgF_mu
    · exact ev_lst (ev_cons (ev_var rfl rfl) ev_nil) rfl (by walk_at "ab l")
    · rfl
  walk_at "ab set"
  apply w_seq_n
  · apply ev_asg
    · exact ev_lst (ev_cons (ev_var rfl rfl) ev_nil) rfl (by walk_at "ab l")
    · exact fun j q => nomatch q
  walk_at "ab set"
  apply w_seq_for (xs := r.2.reverse.map eW) (fun j A => ∃ l4 l5 l6 l7, A = [some (eR r), some (.int a), some (eLi ((hearG h a (r.2.reverse.take j)).headD [])), some (.mu ((hearG h a (r.2.reverse.take j)).reverse.map eLi)), l4, l5, l6, l7])
  · apply ev_it (d := .tup (r.2.reverse.map eW))
    · apply ev_slS
      · exact ev_bin (ev_var rfl (encR.f r)) ev_C (gIx_snd rfl)
      · exact ev_noPart
      · exact ev_noPart
      · walk_at "ab"
      · exact gSlS_rev rfl (encW.fs _)
    · exact (enc_tup encW).f _
    · exact if_pos (encW.fs _)
  · exact ⟨none, none, none, none, by rw [List.take_zero]; rfl⟩
  · rintro j d A hd ⟨l4, l5, l6, l7, rfl⟩
    obtain ⟨w, hw1, rfl⟩ := map_get hd
    have hj : j < r.2.reverse.length := (List.getElem?_eq_some_iff.mp hw1).1
    rw [List.length_reverse] at hj
    have ok := hearG_ok h a ha (r.2.reverse.take j)
    have glen := hearG_len h a (r.2.reverse.take j)
    have esn : hearG h a (r.2.reverse.take (j + 1)) = hear h ((hearG h a (r.2.reverse.take j)).headD []) w :: hearG h a (r.2.reverse.take j) := by
      rw [List.take_add_one, hw1]
      exact hearG_snoc h a _ w
    rw [esn, List.headD_cons, List.reverse_cons, List.map_append]
    generalize hearG h a (r.2.reverse.take j) = rs at ok glen ⊢
    rw [List.length_take] at glen
    generalize rs.headD [] = hd at ok ⊢
    refine ⟨_, rfl, ?_⟩
    walk_at "ab set"
    apply w_seq_n
    · apply ev_asg
      · apply ev_cb (ev_cons (ev_var rfl rfl) ev_nil)
        show (if isFs (hd.map D.int) = true then some (D.mu (hd.map D.int)) else none) = _
        rw [if_pos (enc_int.fs hd)]
      · exact fun j q => nomatch q
    walk_at "ab set"
    apply w_seq_for (xs := hd.map D.int) (fun i A => ∃ l6 l7, A = [some (eR r), some (.int a), some (eLi hd), some (.mu (rs.reverse.map eLi)), some (eW w), some (.mu (((hd.take i).foldl (fun acc o => addAll acc (came h w o)) hd).map D.int)), l6, l7])
    · exact ev_it (ev_var rfl rfl) rfl rfl
    · exact ⟨_, _, by rw [List.take_zero]; rfl⟩
    · rintro i d A hd1 ⟨l6, l7, rfl⟩
      obtain ⟨o, ho, rfl⟩ := map_get hd1
      have oki := Ok.take (w := w) (os := hd) ok i
      rw [hearF_take h w hd hd i o ho]
      generalize (hd.take i).foldl (fun acc o => addAll acc (came h w o)) hd = acc at oki ⊢
      refine ⟨_, rfl, ?_⟩
      walk_at "ab set"
      apply w_for (xs := (came h w o).map D.int) (fun m A => ∃ l7, A = [some (eR r), some (.int a), some (eLi hd), some (.mu (rs.reverse.map eLi)), some (eW w), some (.mu ((addAll acc ((came h w o).take m)).map D.int)), some (.int o), l7])
      · apply ev_it (d := eI (came h w o))
        · apply ev_call
          · apply ev_cons
            · exact ev_cb (ev_cons (ev_bin (ev_var rfl (encR.f r)) ev_C (gIx_fst rfl)) ev_nil) gLen_tup
            · exact ev_cons (ev_var rfl (encW.f w)) (ev_cons (ev_var rfl rfl) ev_nil)
          · simp [isFs, isF, enc2.fs]
          · rw [hl]; exact came_to_eq h hh w o
        · exact encI.f _
        · exact if_pos (enc_int.fs _)
      · exact ⟨_, by rw [List.take_zero]; rfl⟩
      · rintro m d A hd2 ⟨l7, rfl⟩
        obtain ⟨x, hx, rfl⟩ := map_get hd2
        have okm : Ok h (addAll acc ((came h w o).take m)) := oki.addAll fun y my => came_lt h w o y (List.mem_of_mem_take my)
        have e2 : addAll acc ((came h w o).take (m + 1)) = add1 (addAll acc ((came h w o).take m)) x := by
          unfold addAll
          rw [List.take_add_one, hx, List.foldl_append]
          rfl
        rw [e2]
        generalize addAll acc ((came h w o).take m) = ac at okm ⊢
        have hlen := okm.len
        refine ⟨_, rfl, ?_⟩
        walk_at "ab set"
        apply w_if
        · apply ev_B
          apply ev_bin
          · exact ev_var rfl rfl
          · exact ev_al rfl (by simp [isF])
          · exact gNotIn_enc (x := x) (ys := ac) enc_int rfl
        · intro q
          have nm : x ∉ ac := by simpa using q
          apply w_of
          · apply ev_drop
            apply ev_app
            · rfl
            · exact ev_var rfl rfl
            · rfl
            · rw [List.length_map]; omega
          · refine ⟨by simp, some (.int x), ?_⟩
            unfold add1
            rw [if_neg nm, List.map_append]
            rfl
        · intro q
          have nm : x ∈ ac := by simpa using q
          apply wf_next
          refine ⟨by simp, some (.int x), ?_⟩
          unfold add1
          rw [if_pos nm]
      · rintro A ⟨l7, rfl⟩
        refine ⟨by simp, some (.int o), l7, ?_⟩
        rw [List.length_map, List.take_length]
    · rintro A ⟨l6, l7, rfl⟩
      rw [List.length_map, List.take_length]
      apply w_seq_n
      · exact ev_asgF_al rfl (enc_int.fs _)
      walk_at "ab set"
      apply w_of
      · apply ev_drop
        apply ev_app
        · rfl
        · exact ev_var rfl rfl
        · rfl
        · rw [List.length_map, List.length_reverse]; omega
      · exact ⟨by simp, _, _, _, _, rfl⟩
  · rintro A ⟨l4, l5, l6, l7, rfl⟩
    rw [List.length_map, List.take_length]
    apply w_ret_mu
    · apply ev_slS
      · exact ev_al rfl (by simp [isF])
      · exact ev_noPart
      · exact ev_noPart
      · walk_at "ab"
      · exact gSlS_lst (xs := (hearG h a r.2.reverse).reverse) rfl (encLi.fs _) (by decide)
    · rw [pickG_rev, List.reverse_reverse]
      exact ret_mu rfl
/-! ### views -/
abbrev eOi : Option Int → D := eO D.int
abbrev eOs : Option (List Int) → D := eO eI
abbrev Vw := Int × List (Option Int) × List (List (Option (List Int)))
abbrev eV : Vw → D := fun v => .tup [.int v.1, eT eOi v.2.1, eT (eT eOs) v.2.2]
theorem encOi : EncOk eOi 0 := enc_opt enc_int (fun x => by simp [dat, PyData.eqv]) fun x => by simp [dat, PyData.eqv]
theorem encOs : EncOk eOs 1 := enc_opt encI (fun x => by simp [dat, PyData.eqv]) fun x => by simp [dat, PyData.eqv]
theorem enc_trip {α β γ : Type} [DecidableEq α] [DecidableEq β] [DecidableEq γ] {e : α → D} {e' : β → D} {e2 : γ → D} {n : Nat} (h : EncOk e n) (h' : EncOk e' n) (h2 : EncOk e2 n) : EncOk (fun v : α × β × γ => .tup [e v.1, e' v.2.1, e2 v.2.2]) (n + 1) where
  f := fun p => by simp [isF, isFs, h.f, h'.f, h2.f]
  lay := fun p => by simp [dat, dats, PyData.canLay0, PyData.canLayAll0, h.lay, h'.lay, h2.lay]
  dep := fun p => by
    simp only [dat, dats, PyData.depth, PyData.depthAll]
    have := h.dep p.1; have := h'.dep p.2.1; have := h2.dep p.2.2
    omega
  eqv := fun p q => by
    obtain ⟨a, b, c⟩ := p
    obtain ⟨a', b', c'⟩ := q
    simp only [dat, dats, PyData.eqv, PyData.eqvAll, h.eqv, h'.eqv, h2.eqv, Bool.and_true, Prod.mk.injEq]
    by_cases h1 : a = a' <;> by_cases h2 : b = b' <;> by_cases h3 : c = c' <;> simp [h1, h2, h3]
theorem enc_up {α : Type} [DecidableEq α] {e : α → D} {n m : Nat} (h : EncOk e n) (k : n ≤ m) : EncOk e m := ⟨h.f, h.lay, fun x => Nat.le_trans (h.dep x) k, h.eqv⟩
theorem encV : EncOk eV 4 := enc_trip (n := 3) (enc_up enc_int (by decide)) (enc_up (enc_tup encOi) (by decide)) (enc_tup (enc_tup encOs))
def vals (h : Nat) (st : List Int) (heard : List Int) : List (Option Int) := (List.range h).map fun o : Nat => if (o : Int) ∈ heard then some (st.getD o 0) else none
def camesAt (h : Nat) (heard : List Int) (w : List (Int × Int)) : List (Option (List Int)) := (List.range h).map fun o : Nat => if (o : Int) ∈ heard then some (came h w o) else none
def rows_ (h : Nat) (a : Int) (ws : List (List (Int × Int))) : List (List Int) := hearG h a ws.reverse
def cames (h : Nat) (a : Int) (ws : List (List (Int × Int))) : List (List (Option (List Int))) := List.zipWith (camesAt h) ((rows_ h a ws).drop 1) ws
def view_ (h : Nat) (r : Rn) (a : Int) : Vw := (a, vals h r.1 ((rows_ h a r.2).headD []), cames h a r.2)
theorem cut_drop {α : Type} (s : List α) (h : 1 ≤ s.length) : cutG s (some 1) none = s.drop 1 := by
  have e1 : HT.sIx s.length 0 (some 1) = 1 := by unfold HT.sIx; simp; omega
  have e2 : HT.sIx s.length s.length none = s.length := rfl
  unfold cutG
  rw [e1, e2, List.take_of_length_le]
  rw [List.length_drop]
  exact Nat.le_refl _
theorem zw_map {α β γ : Type} (e : α → D) (e' : β → D) (g : γ → D) (f : α → β → γ) : ∀ (xs : List α) (ys : List β) (j : Nat) (d : D), (List.zipWith (fun x y => D.tup [x, y]) (xs.map e) (ys.map e'))[j]? = some d → ∃ x y, xs[j]? = some x ∧ ys[j]? = some y ∧ d = .tup [e x, e' y] := by
  intro xs ys j d h
  rw [List.getElem?_zipWith, List.getElem?_map, List.getElem?_map] at h
  cases hx : xs[j]? with
  | none => rw [hx] at h; cases h
  | some x =>
    cases hy : ys[j]? with
    | none => rw [hx, hy] at h; cases h
    | some y => rw [hx, hy] at h; exact ⟨x, y, rfl, rfl, (Option.some.inj h).symm⟩
theorem tu2 {i j : Nat} {d e : D} {A : Sl} (h1 : isF d = true) (h2 : isF e = true) : (Tg.tu [i, j]).set (.tup [d, e]) A = some ((A.set i (some d)).set j (some e)) := by
  have hf : isFs [d, e] = true := by simp only [isFs, h1, h2, Bool.and_self]
  show (if isFs [d, e] = true then setAll [i, j] [d, e] A else none) = _
  rw [if_pos hf]
  rfl
theorem view_eq (r : Rn) (h : Nat) (hl : r.1.length = h) (h2 : 2 ≤ h ∧ h ≤ 4) (hw : r.2.length ≤ 5) (a : Int) (ha : 0 ≤ a ∧ a < (h : Int)) : F_view [eR r, .int a] = .ok (eV (view_ h r a)) := by
  have hz := sizeLine_eq
  have hh := h2.2
  have glen := hearG_len h a r.2.reverse
  rw [List.length_reverse] at glen
  refine def_is [some (eR r), some (.int a), none, none, none, none, none, none, none, none] rfl rfl ?_
  unfold f_view
  apply w_seq_n
  · apply ev_asgF_mu
    · exact ev_call (ev_cons (ev_var rfl (encR.f r)) (ev_cons (ev_var rfl rfl) ev_nil)) (by simp [isFs, isF, enc_int.fs, encW.fs]) (heard_eq r h hl hh hw a ha)
    · exact encLi.fs _
  walk_at "ab set"
  have erow : hearG h a r.2.reverse = rows_ h a r.2 := rfl
  unfold view_ cames
  rw [erow] at glen ⊢
  generalize rows_ h a r.2 = rs at glen ⊢
  have hhd : rs[0]? = some (rs.headD []) := by
    cases rs with
    | nil => simp at glen
    | cons x xs => rfl
  apply w_seq_n
  · apply ev_asgF
    · exact ev_cb (ev_cons (ev_bin (ev_var rfl (encR.f r)) ev_C (gIx_fst rfl)) ev_nil) gLen_tup
    · rfl
  walk_at "ab set"
  rw [hl]
  walk_at "ab seq"
  apply w_seq_for (fun k A => ∃ l5, A = [some (eR r), some (.int a), some (.lst (rs.map eLi)), some (.int h), some (.mu (((List.range k).map fun o : Nat => if (o : Int) ∈ rs.headD [] then some (r.1.getD o 0) else none).map eOi)), l5, none, none, none, none])
  · walk_at "ab"
  · exact ⟨none, rfl⟩
  · rintro k d A hd ⟨l5, rfl⟩
    obtain ⟨rfl, hk⟩ := range_get hd
    rw [Int.toNat_natCast] at hk
    refine ⟨_, rfl, ?_⟩
    walk_at "ab set"
    apply w_if
    · apply ev_B
      apply ev_bin
      · exact ev_var rfl rfl
      · exact ev_bin (ev_var rfl rfl) ev_C (gIx_map (xs := rs) (x := rs.headD []) rfl (by decide) hhd (encLi.f _))
      · exact gIn_enc (x := (k : Int)) (ys := rs.headD []) enc_int rfl
    · intro q
      have m : (k : Int) ∈ rs.headD [] := by simpa using q
      apply w_of
      · apply ev_drop
        apply ev_app (e := .int (r.1.getD k 0))
        · rfl
        · exact ev_bin (ev_bin (ev_var rfl (encR.f r)) ev_C (gIx_fst rfl)) (ev_var rfl rfl) (gIx_map (xs := r.1) (x := r.1.getD k 0) rfl (by omega) (by rw [Int.toNat_natCast]; exact getD_get (by omega)) rfl)
        · rfl
        · rw [List.length_map, List.length_map, List.length_range]; omega
      · refine ⟨by simp, some (.int k), ?_⟩
        rw [List.range_succ, List.map_append, List.map_append, List.map_singleton, if_pos m]
        rfl
    · intro q
      have m : (k : Int) ∉ rs.headD [] := by simpa using q
      apply w_of
      · apply ev_drop
        apply ev_app (e := .non)
        · rfl
        · exact ev_C
        · rfl
        · rw [List.length_map, List.length_map, List.length_range]; omega
      · refine ⟨by simp, some (.int k), ?_⟩
        rw [List.range_succ, List.map_append, List.map_append, List.map_singleton, if_neg m]
        rfl
  rintro A ⟨l5, rfl⟩
  rw [List.length_map, List.length_range, Int.toNat_natCast]
  walk_at "ab seq"
  apply w_seq_for (xs := List.zipWith (fun x y => D.tup [x, y]) ((rs.drop 1).map eLi) (r.2.map eW)) (fun j A => ∃ l5 l7 l8 l9, A = [some (eR r), some (.int a), some (.lst (rs.map eLi)), some (.int h), some (.mu ((vals h r.1 (rs.headD [])).map eOi)), l5, some (.mu (((List.zipWith (camesAt h) (rs.drop 1) r.2).take j).map (eT eOs))), l7, l8, l9])
  · have e1 : fCons (fSl (fVar 2) (fPart (fC (.int 1))) fNoPart) (fCons (fBin gIx (fVar 0) (fC (.int 1))) fNil) [some (eR r), some (.int a), some (.lst (rs.map eLi)), some (.int h), some (.mu ((vals h r.1 (rs.headD [])).map eOi)), l5, some (.mu []), none, none, none]
        = .ok [.mu ((rs.drop 1).map eLi), eT eW r.2] [some (eR r), some (.int a), some (.lst (rs.map eLi)), some (.int h), some (.mu ((vals h r.1 (rs.headD [])).map eOi)), l5, some (.mu []), none, none, none] := by
      apply ev_cons
      · rw [← cut_drop rs (by omega)]
        exact ev_sl (ev_var rfl rfl) (ev_part ev_C) ev_noPart (gSl_lst (xs := rs) rfl (encLi.fs _))
      · exact ev_cons (ev_bin (ev_var rfl (encR.f r)) ev_C (gIx_snd rfl)) ev_nil
    unfold fZip
    rw [show (List.map eOi ((List.range h).map fun o : Nat => if (o : Int) ∈ rs.headD [] then some (r.1.getD o 0) else none)) = (vals h r.1 (rs.headD [])).map eOi from rfl]
    rw [e1]
    simp only [Ou.bind_ok]
    rw [if_pos ⟨encLi.fs _, encW.fs _⟩]
  · exact ⟨_, _, _, _, by rw [List.take_zero]; rfl⟩
  · rintro j d A hd ⟨l5, l7, l8, l9, rfl⟩
    obtain ⟨he, w, hx, hy, rfl⟩ := zw_map eLi eW (eT eOs) (camesAt h) _ _ _ _ hd
    have hj : j < r.2.length := (List.getElem?_eq_some_iff.mp hy).1
    have etk : (List.zipWith (camesAt h) (rs.drop 1) r.2).take (j + 1) = (List.zipWith (camesAt h) (rs.drop 1) r.2).take j ++ [camesAt h he w] := by
      rw [List.take_add_one, List.getElem?_zipWith, hx, hy]
      rfl
    have tl : ((List.zipWith (camesAt h) (rs.drop 1) r.2).take j).length ≤ j := by rw [List.length_take]; omega
    rw [etk, List.map_append]
    generalize (List.zipWith (camesAt h) (rs.drop 1) r.2).take j = cs at tl ⊢
    refine ⟨_, tu2 rfl (encW.f w), ?_⟩
    walk_at "ab set"
    walk_at "ab seq"
    apply w_seq_for (fun k A => ∃ l5, A = [some (eR r), some (.int a), some (.lst (rs.map eLi)), some (.int h), some (.mu ((vals h r.1 (rs.headD [])).map eOi)), l5, some (.mu (cs.map (eT eOs))), some (eLi he), some (eW w), some (.mu (((List.range k).map fun o : Nat => if (o : Int) ∈ he then some (came h w o) else none).map eOs))])
    · walk_at "ab"
    · exact ⟨_, rfl⟩
    · rintro k d A hd2 ⟨l5, rfl⟩
      obtain ⟨rfl, hk⟩ := range_get hd2
      rw [Int.toNat_natCast] at hk
      refine ⟨_, rfl, ?_⟩
      walk_at "ab set"
      apply w_if
      · apply ev_B
        apply ev_bin
        · exact ev_var rfl rfl
        · exact ev_var rfl rfl
        · exact gIn_enc (x := (k : Int)) (ys := he) enc_int rfl
      · intro q
        have m : (k : Int) ∈ he := by simpa using q
        apply w_of
        · apply ev_drop
          apply ev_app (e := eI (came h w k))
          · rfl
          · apply ev_call
            · exact ev_cons (ev_var rfl rfl) (ev_cons (ev_var rfl (encW.f w)) (ev_cons (ev_var rfl rfl) ev_nil))
            · simp [isFs, isF, enc2.fs]
            · exact came_to_eq h hh w k
          · exact encI.f _
          · rw [List.length_map, List.length_map, List.length_range]; omega
        · refine ⟨by simp, some (.int k), ?_⟩
          rw [List.range_succ, List.map_append, List.map_append, List.map_singleton, if_pos m]
          rfl
      · intro q
        have m : (k : Int) ∉ he := by simpa using q
        apply w_of
        · apply ev_drop
          apply ev_app (e := .non)
          · rfl
          · exact ev_C
          · rfl
          · rw [List.length_map, List.length_map, List.length_range]; omega
        · refine ⟨by simp, some (.int k), ?_⟩
          rw [List.range_succ, List.map_append, List.map_append, List.map_singleton, if_neg m]
          rfl
    · rintro A ⟨l5, rfl⟩
      rw [List.length_map, List.length_range, Int.toNat_natCast]
      apply w_of
      · apply ev_drop
        apply ev_app (e := eT eOs (camesAt h he w))
        · rfl
        · apply ev_cb (ev_cons (ev_al rfl (by simp [isF])) ev_nil)
          exact gTuple_sq rfl (encOs.fs _)
        · exact (enc_tup encOs).f _
        · rw [List.length_map]; omega
      · exact ⟨by simp, _, _, _, _, rfl⟩
  · rintro A ⟨l5, l7, l8, l9, rfl⟩
    have lw : (List.zipWith (fun x y => D.tup [x, y]) ((rs.drop 1).map eLi) (r.2.map eW)).length = (List.zipWith (camesAt h) (rs.drop 1) r.2).length := by simp
    rw [lw, List.take_length]
    apply w_ret
    · apply ev_tup
      · apply ev_cons
        · exact ev_var rfl rfl
        · apply ev_cons
          · apply ev_cb (ev_cons (ev_al rfl (by simp [isF])) ev_nil)
            exact gTuple_sq rfl (encOi.fs _)
          · apply ev_cons
            · apply ev_cb (ev_cons (ev_al rfl (by simp [isF])) ev_nil)
              exact gTuple_sq rfl ((enc_tup encOs).fs _)
            · exact ev_nil
      · simp only [isFs, isF, encOi.fs, (enc_tup encOs).fs, Bool.and_self]
      · walk_at "ab l"
    · exact encV.f (a, vals h r.1 (rs.headD []), List.zipWith (camesAt h) (rs.drop 1) r.2)
    · exact ret_of (encV.f (a, vals h r.1 (rs.headD []), List.zipWith (camesAt h) (rs.drop 1) r.2)) rfl
theorem alike_eq (r q : Rn) (h : Nat) (hl : r.1.length = h) (hl' : q.1.length = h) (h2 : 2 ≤ h ∧ h ≤ 4) (hw : r.2.length ≤ 5) (hw' : q.2.length ≤ 5) (a : Int) (ha : 0 ≤ a ∧ a < (h : Int)) : F_alike [eR r, eR q, .int a] = .ok (.bl (decide (view_ h r a = view_ h q a))) := by
  have fr : ∀ r : Rn, isFs [eR r, .int a] = true := fun r => by simp [isFs, isF, enc_int.fs, encW.fs]
  refine def_is [some (eR r), some (eR q), some (.int a)] rfl rfl ?_
  unfold f_alike
  apply w_ret
  · apply ev_bin
    · exact ev_call (ev_cons (ev_var rfl (encR.f r)) (ev_cons (ev_var rfl rfl) ev_nil)) (fr r) (view_eq r h hl h2 hw a ha)
    · exact ev_call (ev_cons (ev_var rfl (encR.f q)) (ev_cons (ev_var rfl rfl) ev_nil)) (fr q) (view_eq q h hl' h2 hw' a ha)
    · exact gEq_enc encV
  · rfl
  · exact ret_of rfl rfl
/-! ### the plain law -/
def bAt (b : List Bool) (o : Int) : Bool := b.getD o.toNat false
def held (h : Nat) (b : List Bool) (w1 w2 : List (Int × Int)) (o : Int) : Bool := (came h w1 o).foldl (fun acc s => acc && bAt b s) (bAt b o && decide (came h w1 o = came h w2 o))
def stepS (h : Nat) (b : List Bool) (w1 w2 : List (Int × Int)) : List Bool := (List.range h).map fun o : Nat => held h b w1 w2 o
def sameL (h : Nat) (b : List Bool) (ps : List (List (Int × Int) × List (Int × Int))) : List Bool := ps.foldl (fun b p => stepS h b p.1 p.2) b
def base (h : Nat) (s1 s2 : List Int) : List Bool := (List.range h).map fun o : Nat => decide (s1.getD o 0 = s2.getD o 0)
theorem getD_range {α : Type} (f : Nat → α) (d : α) (h k : Nat) (hk : k < h) : ((List.range h).map f).getD k d = f k := by
  rw [List.getD_eq_getElem?_getD, List.getElem?_map, List.getElem?_range hk]
  rfl
theorem fold_and (b : List Bool) : ∀ (xs : List Int) (c : Bool), xs.foldl (fun acc s => acc && bAt b s) c = true ↔ c = true ∧ ∀ s ∈ xs, bAt b s = true
  | [], c => by simp
  | x :: xs, c => by
    rw [List.foldl_cons, fold_and b xs]
    simp only [Bool.and_eq_true, List.mem_cons, forall_eq_or_imp]
    constructor
    · rintro ⟨⟨p, q⟩, r⟩; exact ⟨p, q, r⟩
    · rintro ⟨p, q, r⟩; exact ⟨⟨p, q⟩, r⟩
theorem step_at (h : Nat) (b : List Bool) (w1 w2 : List (Int × Int)) (o : Int) (ho : 0 ≤ o ∧ o < (h : Int)) : bAt (stepS h b w1 w2) o = true ↔ bAt b o = true ∧ came h w1 o = came h w2 o ∧ ∀ s ∈ came h w1 o, bAt b s = true := by
  have e : bAt (stepS h b w1 w2) o = held h b w1 w2 o := by
    unfold bAt stepS
    rw [getD_range _ _ _ _ (by omega), show ((o.toNat : Nat) : Int) = o by omega]
  rw [e]
  unfold held
  rw [fold_and]
  simp only [Bool.and_eq_true, decide_eq_true_eq]
  constructor
  · rintro ⟨⟨p, q⟩, r⟩; exact ⟨p, q, r⟩
  · rintro ⟨p, q, r⟩; exact ⟨⟨p, q⟩, r⟩
abbrev hd_ (h : Nat) (a : Int) (ws : List (List (Int × Int))) : List Int := (rows_ h a ws).headD []
theorem rows_cons (h : Nat) (a : Int) (w : List (Int × Int)) (ws : List (List (Int × Int))) : rows_ h a (w :: ws) = hear h (hd_ h a ws) w :: rows_ h a ws := by
  unfold hd_ rows_
  rw [List.reverse_cons]
  exact hearG_snoc h a ws.reverse w
theorem rows_hd (h : Nat) (a : Int) (ws : List (List (Int × Int))) : rows_ h a ws = hd_ h a ws :: (rows_ h a ws).drop 1 := by
  have : (rows_ h a ws).length ≠ 0 := by
    unfold rows_
    rw [hearG_len]
    exact Nat.succ_ne_zero _
  unfold hd_
  cases e : rows_ h a ws with
  | nil => rw [e] at this; exact absurd rfl this
  | cons x xs => rfl
theorem cames_cons (h : Nat) (a : Int) (w : List (Int × Int)) (ws : List (List (Int × Int))) : cames h a (w :: ws) = camesAt h (hd_ h a ws) w :: cames h a ws := by
  have e : cames h a (w :: ws) = List.zipWith (camesAt h) (rows_ h a ws) (w :: ws) := by
    unfold cames
    rw [rows_cons]
    rfl
  rw [e, rows_hd h a ws]
  rfl
theorem hd_ok (h : Nat) (a : Int) (ha : 0 ≤ a ∧ a < (h : Int)) (ws : List (List (Int × Int))) : Ok h (hd_ h a ws) := hearG_ok h a ha ws.reverse
theorem camesAt_eq (h : Nat) (l1 l2 : List Int) (k : Ok h l1) (e : ∀ x, x ∈ l1 ↔ x ∈ l2) (w1 w2 : List (Int × Int)) : camesAt h l1 w1 = camesAt h l2 w2 ↔ ∀ o ∈ l1, came h w1 o = came h w2 o := by
  unfold camesAt
  rw [List.map_inj_left]
  constructor
  · intro q o m
    have r := k.2 o m
    have q2 := q o.toNat (List.mem_range.mpr (by omega))
    rw [show ((o.toNat : Nat) : Int) = o by omega, if_pos m, if_pos ((e o).mp m)] at q2
    exact Option.some.inj q2
  · intro q o _
    by_cases m : (o : Int) ∈ l1
    · rw [if_pos m, if_pos ((e _).mp m), q _ m]
    · rw [if_neg m, if_neg fun z => m ((e _).mpr z)]
theorem hd_cons (h : Nat) (a : Int) (w : List (Int × Int)) (ws : List (List (Int × Int))) : hd_ h a (w :: ws) = hear h (hd_ h a ws) w := by
  unfold hd_
  rw [rows_cons]
  rfl
theorem main_ (h : Nat) (a : Int) (ha : 0 ≤ a ∧ a < (h : Int)) : ∀ (ps : List (List (Int × Int) × List (Int × Int))) (b : List Bool),
    (bAt (sameL h b ps) a = true ↔ cames h a (ps.map Prod.fst) = cames h a (ps.map Prod.snd) ∧ ∀ o ∈ hd_ h a (ps.map Prod.fst), bAt b o = true) ∧
    (cames h a (ps.map Prod.fst) = cames h a (ps.map Prod.snd) → ∀ x, x ∈ hd_ h a (ps.map Prod.fst) ↔ x ∈ hd_ h a (ps.map Prod.snd))
  | [], b => by
    have e : hd_ h a [] = [a] := rfl
    refine ⟨?_, fun _ _ => Iff.rfl⟩
    show bAt b a = true ↔ _
    rw [List.map_nil, List.map_nil, e]
    simp
  | (w1, w2) :: ps, b => by
    obtain ⟨ih, ihe⟩ := main_ h a ha ps (stepS h b w1 w2)
    have ok := hd_ok h a ha (ps.map Prod.fst)
    rw [List.map_cons, List.map_cons, cames_cons, cames_cons, hd_cons, hd_cons]
    have es : sameL h b ((w1, w2) :: ps) = sameL h (stepS h b w1 w2) ps := rfl
    rw [es, ih]
    generalize hd_ h a (ps.map Prod.fst) = l1 at ok ihe ⊢
    generalize hd_ h a (ps.map Prod.snd) = l2 at ihe ⊢
    refine ⟨⟨fun ⟨c, q⟩ => ?_, fun ⟨c, q⟩ => ?_⟩, fun c => ?_⟩
    · have q2 := fun o m => (step_at h b w1 w2 o (ok.2 o m)).mp (q o m)
      refine ⟨by rw [(camesAt_eq h l1 l2 ok (ihe c) w1 w2).mpr fun o m => (q2 o m).2.1, c], fun o m => ?_⟩
      rcases (mem_hear h l1 w1 o).mp m with m | ⟨o', m, ms⟩
      · exact (q2 o m).1
      · exact (q2 o' m).2.2 o ms
    · obtain ⟨c1, c2⟩ := List.cons.inj c
      have q1 := (camesAt_eq h l1 l2 ok (ihe c2) w1 w2).mp c1
      refine ⟨c2, fun o m => (step_at h b w1 w2 o (ok.2 o m)).mpr ⟨q o ((mem_hear h l1 w1 o).mpr (.inl m)), q1 o m, fun s ms => q s ((mem_hear h l1 w1 s).mpr (.inr ⟨o, m, ms⟩))⟩⟩
    · obtain ⟨c1, c2⟩ := List.cons.inj c
      have q1 := (camesAt_eq h l1 l2 ok (ihe c2) w1 w2).mp c1
      intro x
      rw [mem_hear, mem_hear]
      constructor
      · rintro (m | ⟨o, m, ms⟩)
        · exact .inl ((ihe c2 x).mp m)
        · exact .inr ⟨o, (ihe c2 o).mp m, by rw [← q1 o m]; exact ms⟩
      · rintro (m | ⟨o, m, ms⟩)
        · exact .inl ((ihe c2 x).mpr m)
        · exact .inr ⟨o, (ihe c2 o).mpr m, by rw [q1 o ((ihe c2 o).mpr m)]; exact ms⟩
theorem vals_eq (h : Nat) (s1 s2 l1 l2 : List Int) (k : Ok h l1) (e : ∀ x, x ∈ l1 ↔ x ∈ l2) : vals h s1 l1 = vals h s2 l2 ↔ ∀ o ∈ l1, bAt (base h s1 s2) o = true := by
  have eb : ∀ o, 0 ≤ o ∧ o < (h : Int) → bAt (base h s1 s2) o = decide (s1.getD o.toNat 0 = s2.getD o.toNat 0) := fun o ho => by
    unfold bAt base
    rw [getD_range _ _ _ _ (by omega)]
  unfold vals
  rw [List.map_inj_left]
  constructor
  · intro q o m
    have r := k.2 o m
    have q2 := q o.toNat (List.mem_range.mpr (by omega))
    rw [show ((o.toNat : Nat) : Int) = o by omega, if_pos m, if_pos ((e o).mp m)] at q2
    rw [eb o r, decide_eq_true_eq]
    exact Option.some.inj q2
  · intro q o ho
    by_cases m : (o : Int) ∈ l1
    · have q2 := q _ m
      rw [eb _ (k.2 _ m), decide_eq_true_eq, Int.toNat_natCast] at q2
      rw [if_pos m, if_pos ((e _).mp m), q2]
    · rw [if_neg m, if_neg fun z => m ((e _).mpr z)]
def due (h : Nat) (r q : Rn) : List Bool := sameL h (base h r.1 q.1) (r.2.zip q.2)
theorem view_iff (h : Nat) (r q : Rn) (hl : r.2.length = q.2.length) (a : Int) (ha : 0 ≤ a ∧ a < (h : Int)) : view_ h r a = view_ h q a ↔ bAt (due h r q) a = true := by
  obtain ⟨m1, m2⟩ := main_ h a ha (r.2.zip q.2) (base h r.1 q.1)
  have e1 : (r.2.zip q.2).map Prod.fst = r.2 := List.map_fst_zip (by omega)
  have e2 : (r.2.zip q.2).map Prod.snd = q.2 := List.map_snd_zip (by omega)
  rw [e1, e2] at m1 m2
  unfold due
  rw [m1]
  unfold view_
  have ok := hd_ok h a ha r.2
  constructor
  · intro e
    have e3 := congrArg (fun v : Vw => v.2.2) e
    have e4 := congrArg (fun v : Vw => v.2.1) e
    exact ⟨e3, (vals_eq h r.1 q.1 _ _ ok (m2 e3)).mp e4⟩
  · rintro ⟨e3, e4⟩
    rw [(vals_eq h r.1 q.1 _ _ ok (m2 e3)).mpr e4, e3]
/-- what is alike at the end was alike before -/
theorem same_le (h : Nat) (a : Int) (ha : 0 ≤ a ∧ a < (h : Int)) : ∀ (ps : List (List (Int × Int) × List (Int × Int))) (b : List Bool), bAt (sameL h b ps) a = true → bAt b a = true
  | [], b, q => q
  | p :: ps, b, q => ((step_at h b p.1 p.2 a ha).mp (same_le h a ha ps (stepS h b p.1 p.2) q)).1
theorem zip_take {α β : Type} : ∀ (k : Nat) (xs : List α) (ys : List β), (xs.take k).zip (ys.take k) = (xs.zip ys).take k
  | 0, xs, ys => by simp
  | k + 1, [], ys => by simp
  | k + 1, x :: xs, [] => by simp
  | k + 1, x :: xs, y :: ys => by
    rw [List.take_succ_cons, List.take_succ_cons, List.zip_cons_cons, zip_take k xs ys, List.zip_cons_cons, List.take_succ_cons]
theorem due_cut (h : Nat) (r q : Rn) (k : Nat) (a : Int) (ha : 0 ≤ a ∧ a < (h : Int)) (d : bAt (due h r q) a = true) : bAt (due h (r.1, r.2.take k) (q.1, q.2.take k)) a = true := by
  unfold due at d ⊢
  have e : (r.2.take k).zip (q.2.take k) = (r.2.zip q.2).take k := zip_take k r.2 q.2
  rw [e]
  have e2 : sameL h (base h r.1 q.1) (r.2.zip q.2) = sameL h (sameL h (base h r.1 q.1) ((r.2.zip q.2).take k)) ((r.2.zip q.2).drop k) := by
    unfold sameL
    rw [← List.foldl_append, List.take_append_drop]
  rw [e2] at d
  exact same_le h a ha _ _ d
theorem due_sym (h : Nat) (r q : Rn) (hl : r.2.length = q.2.length) (a : Int) (ha : 0 ≤ a ∧ a < (h : Int)) : bAt (due h q r) a = bAt (due h r q) a := by
  have x := view_iff h r q hl a ha
  have y := view_iff h q r hl.symm a ha
  have z : bAt (due h q r) a = true ↔ bAt (due h r q) a = true := by rw [← x, ← y]; exact eq_comm
  cases e1 : bAt (due h q r) a <;> cases e2 : bAt (due h r q) a <;> simp_all
/-! ### the law's own defs -/
theorem enc_bl : EncOk D.bl 0 := ⟨fun _ => by simp [isF], fun _ => by simp [dat, PyData.canLay0], fun _ => by simp [dat, PyData.depth], fun x y => by
  rw [dat, dat, PyData.eqv]
  cases x <;> cases y <;> rfl⟩
theorem bools_at {b : List Bool} {o : Int} {d : D} {A : Sl} {h : Nat} (hd : sqOf (see A d) = some (b.map D.bl)) (hl : b.length = h) (ho : 0 ≤ o ∧ o < (h : Int)) : gIx d (.int o) A = some (.bl (bAt b o)) :=
  gIx_map hd ho.1 (getD_get (by omega)) rfl
theorem stepS_len (h : Nat) (b : List Bool) (w1 w2 : List (Int × Int)) : (stepS h b w1 w2).length = h := by unfold stepS; simp
theorem sameL_len (h : Nat) : ∀ (ps : List (List (Int × Int) × List (Int × Int))) (b : List Bool), b.length = h → (sameL h b ps).length = h
  | [], b, e => e
  | p :: ps, b, _ => sameL_len h ps _ (stepS_len h b p.1 p.2)
theorem base_len (h : Nat) (s1 s2 : List Int) : (base h s1 s2).length = h := by unfold base; simp
theorem same_eq (r q : Rn) (h : Nat) (hl : r.1.length = h) (hl' : q.1.length = h) (hh : h ≤ 4) (he : r.2.length = q.2.length) (hw : r.2.length ≤ 5) : F__law_same [eR r, eR q] = .ok (.mu ((due h r q).map D.bl)) := by
  have hz := sizeLine_eq
  have vr : ∀ A : Sl, A[0]? = some (some (eR r)) → fVar 0 A = .ok (eR r) A := fun A h => ev_var h (encR.f r)
  have vq : ∀ A : Sl, A[1]? = some (some (eR q)) → fVar 1 A = .ok (eR q) A := fun A h => ev_var h (encR.f q)
  refine def_is [some (eR r), some (eR q), none, none, none, none, none, none, none, none] rfl rfl ?_
  unfold f__law_same
  apply w_seq_n
  · apply ev_asgF
    · exact ev_cb (ev_cons (ev_bin (vr _ rfl) ev_C (gIx_fst rfl)) ev_nil) gLen_tup
    · rfl
  walk_at "ab set"
  rw [hl]
  apply w_seq_n
  · apply ev_asg
    · refine fcomp_map (A0 := [some (eR r), some (eR q), some (.int h), none, none, none, none, none, none, none]) (e := fun i : Nat => D.int i) (e' := D.bl) (xs := List.range (h : Int).toNat) (fun o : Nat => decide (r.1.getD o 0 = q.1.getD o 0)) (ev_range (ev_var rfl rfl) (by omega)) (by simp; omega) fun k hk => ⟨_, rfl, ?_, (fun i q => nomatch q), rfl⟩
      have hk : k < h := by simpa using hk
      walk_at "ab set"
      apply ev_bin
      · exact ev_bin (ev_bin (vr _ rfl) ev_C (gIx_fst rfl)) (ev_var rfl rfl) (gIx_map (xs := r.1) (x := r.1.getD k 0) rfl (by omega) (by rw [Int.toNat_natCast]; exact getD_get (by omega)) rfl)
      · exact ev_bin (ev_bin (vq _ rfl) ev_C (gIx_fst rfl)) (ev_var rfl rfl) (gIx_map (xs := q.1) (x := q.1.getD k 0) rfl (by omega) (by rw [Int.toNat_natCast]; exact getD_get (by omega)) rfl)
      · exact gEq_int
    · exact fun j q => nomatch q
  walk_at "ab set"
  apply w_seq_for (xs := (List.range r.2.length).map fun i => D.int (i : Nat)) (fun j A => ∃ l4 l5 l6 l7 l8 l9, A = [some (eR r), some (eR q), some (.int h), some (.mu ((sameL h (base h r.1 q.1) ((r.2.zip q.2).take j)).map D.bl)), l4, l5, l6, l7, l8, l9])
  · have := ev_range (fe := fCB gLen (fCons (fBin gIx (fVar 0) (fC (.int 1))) fNil)) (ev_cb (ev_cons (ev_bin (vr [some (eR r), some (eR q), some (.int h), some (.mu ((base h r.1 q.1).map D.bl)), none, none, none, none, none, none] rfl) ev_C (gIx_snd rfl)) ev_nil) gLen_tup) (by omega)
    rw [Int.toNat_natCast] at this
    exact this
  · exact ⟨none, none, none, none, none, none, by rw [List.take_zero]; rfl⟩
  · rintro j d A hd ⟨l4, l5, l6, l7, l8, l9, rfl⟩
    obtain ⟨rfl, hj⟩ := range_get hd
    refine ⟨_, rfl, ?_⟩
    walk_at "ab set"
    have g1 : r.2[j]? = some (r.2.getD j []) := getD_get hj
    have g2 : q.2[j]? = some (q.2.getD j []) := getD_get (by omega)
    generalize r.2.getD j [] = w1 at g1
    generalize q.2.getD j [] = w2 at g2
    have gz : (r.2.zip q.2)[j]? = some (w1, w2) := by
      rw [List.getElem?_zip_eq_some]
      exact ⟨g1, g2⟩
    have etk : sameL h (base h r.1 q.1) ((r.2.zip q.2).take (j + 1)) = stepS h (sameL h (base h r.1 q.1) ((r.2.zip q.2).take j)) w1 w2 := by
      unfold sameL
      rw [List.take_add_one, gz, List.foldl_append]
      rfl
    have bl := sameL_len h ((r.2.zip q.2).take j) _ (base_len h r.1 q.1)
    rw [etk]
    generalize sameL h (base h r.1 q.1) ((r.2.zip q.2).take j) = b at bl ⊢
    walk_at "ab seq"
    apply w_seq_for (fun k A => ∃ l6 l7 l8 l9, A = [some (eR r), some (eR q), some (.int h), some (.mu (b.map D.bl)), some (.int j), some (.mu (((List.range k).map fun o : Nat => held h b w1 w2 o).map D.bl)), l6, l7, l8, l9])
    · walk_at "ab"
    · exact ⟨_, _, _, _, rfl⟩
    · rintro k d A hd2 ⟨l6, l7, l8, l9, rfl⟩
      obtain ⟨rfl, hk⟩ := range_get hd2
      rw [Int.toNat_natCast] at hk
      refine ⟨_, rfl, ?_⟩
      walk_at "ab set"
      apply w_seq_n
      · apply ev_asgF
        · apply ev_call
          · apply ev_cons
            · exact ev_var rfl rfl
            · apply ev_cons
              · exact ev_bin (ev_bin (vr _ rfl) ev_C (gIx_snd rfl)) (ev_var rfl rfl) (gIx_map (xs := r.2) (x := w1) rfl (by omega) (by rw [Int.toNat_natCast]; exact g1) (encW.f w1))
              · exact ev_cons (ev_var rfl rfl) ev_nil
          · simp [isFs, isF, enc2.fs]
          · exact senders_eq h hh w1 k
        · exact encI.f _
      walk_at "ab set"
      apply w_seq_n
      · apply ev_asgF
        · apply ev_andV (a := bAt b k) (b := decide (came h w1 k = came h w2 k))
          · exact ev_bin (ev_al rfl (by simp [isF])) (ev_var rfl rfl) (bools_at rfl bl (by omega))
          · intro _
            apply ev_bin
            · exact ev_var rfl (encI.f _)
            · apply ev_call
              · apply ev_cons
                · exact ev_var rfl rfl
                · apply ev_cons
                  · exact ev_bin (ev_bin (vq _ rfl) ev_C (gIx_snd rfl)) (ev_var rfl rfl) (gIx_map (xs := q.2) (x := w2) rfl (by omega) (by rw [Int.toNat_natCast]; exact g2) (encW.f w2))
                  · exact ev_cons (ev_var rfl rfl) ev_nil
              · simp [isFs, isF, enc2.fs]
              · exact senders_eq h hh w2 k
            · exact gEq_enc encI
        · rfl
      walk_at "ab set"
      apply w_seq_for (xs := (came h w1 k).map D.int) (fun i A => ∃ l9, A = [some (eR r), some (eR q), some (.int h), some (.mu (b.map D.bl)), some (.int j), some (.mu (((List.range k).map fun o : Nat => held h b w1 w2 o).map D.bl)), some (.int k), some (eI (came h w1 k)), some (.bl (((came h w1 k).take i).foldl (fun acc s => acc && bAt b s) (bAt b k && decide (came h w1 k = came h w2 k)))), l9])
      · exact ev_it (ev_var rfl (encI.f _)) (encI.f _) (if_pos (enc_int.fs _))
      · exact ⟨_, by rw [List.take_zero]; rfl⟩
      · rintro i d A hd3 ⟨l9, rfl⟩
        obtain ⟨s, hs, rfl⟩ := map_get hd3
        have sr := came_lt h w1 k s (List.mem_of_getElem? hs)
        refine ⟨_, rfl, ?_⟩
        walk_at "ab set"
        apply w_of
        · apply ev_asgF
          · apply ev_andV (b := bAt b s)
            · exact ev_var rfl rfl
            · intro _
              exact ev_bin (ev_al rfl (by simp [isF])) (ev_var rfl rfl) (bools_at rfl bl sr)
          · rfl
        · refine ⟨.inl rfl, some (.int s), ?_⟩
          rw [List.take_add_one, hs, List.foldl_append]
          rfl
      · rintro A ⟨l9, rfl⟩
        rw [List.length_map, List.take_length]
        apply w_of
        · apply ev_drop
          apply ev_app
          · rfl
          · exact ev_var rfl rfl
          · rfl
          · rw [List.length_map, List.length_map, List.length_range]; omega
        · refine ⟨by simp, some (.int k), some (eI (came h w1 k)), some (.bl (held h b w1 w2 k)), l9, ?_⟩
          rw [List.range_succ, List.map_append, List.map_append]
          rfl
    · rintro A ⟨l6, l7, l8, l9, rfl⟩
      rw [List.length_map, List.length_range, Int.toNat_natCast]
      apply w_of
      · exact ev_asgM rfl
      · exact ⟨by simp, _, _, _, _, _, _, rfl⟩
  · rintro A ⟨l4, l5, l6, l7, l8, l9, rfl⟩
    apply w_ret_al rfl
    refine ret_mu ?_
    rw [List.length_map, List.length_range]
    unfold due
    rw [List.take_of_length_le (by rw [List.length_zip]; omega)]
theorem cut_to_len {α : Type} (s : List α) (k : Int) (h : 0 ≤ k ∧ k ≤ s.length) : (cutG s none (some k)).length = k.toNat := by
  unfold cutG HT.sIx
  simp only [if_neg (show ¬ k < 0 by omega), Nat.sub_zero, List.drop_zero, List.length_take]
  omega
theorem cut_from_len {α : Type} (s : List α) (k : Int) (h : 0 ≤ k ∧ k ≤ s.length) : (cutG s (some k) none).length = s.length - k.toNat := by
  unfold cutG HT.sIx
  simp only [if_neg (show ¬ k < 0 by omega), List.length_take, List.length_drop]
  omega
theorem cut_to_mem {α : Type} {s : List α} {lo hi : Option Int} {x : α} (m : x ∈ cutG s lo hi) : x ∈ s := by
  unfold cutG at m
  exact List.mem_of_mem_drop (List.mem_of_mem_take m)
theorem changed_eq (n : Int) (hn : 0 ≤ n) (r : Rn) (h B : Nat) (hB : B ≤ 1000) (hl : r.1.length = h) (h2 : 2 ≤ h ∧ h ≤ 4) (hw : r.2.length ≤ 5) (hb : ∀ w ∈ r.2, w.length ≤ B) :
    ∃ d, F__law_changed [.int n, eR r] = .ok d ∧ ∃ q : Rn, d = eR q ∧ q.1.length = h ∧ q.2.length = r.2.length ∧ ∀ w ∈ q.2, w.length ≤ B + 1 := by
  have hz := sizeLine_eq
  obtain ⟨p1, p2⟩ := pairs_len h h2
  have vr : ∀ A : Sl, A[1]? = some (some (eR r)) → fVar 1 A = .ok (eR r) A := fun A h => ev_var h (encR.f r)
  refine def_w [some (.int n), some (eR r), none, none, none, none, none, none, none] rfl rfl ?_
  unfold f__law_changed
  apply w_seq_n
  · apply ev_asgF
    · exact ev_cb (ev_cons (ev_bin (vr _ rfl) ev_C (gIx_fst rfl)) ev_nil) gLen_tup
    · rfl
  walk_at "ab set"
  rw [hl]
  apply w_seq_if
  · apply ev_or2 (a := decide (n % 3 = 0)) (b := decide (r.2 = []))
    · walk_at "ab"
    · intro _
      apply ev_B
      apply ev_bin
      · exact ev_bin (vr _ rfl) ev_C (gIx_snd rfl)
      · exact ev_tup ev_nil rfl (by decide)
      · exact gEq_enc (x := r.2) (y := []) (enc_tup encW)
  · intro _
    apply w_seq_ret
    have hk0 := Int.emod_nonneg (n / 3) (show (h : Int) ≠ 0 by omega)
    have hk1 := Int.emod_lt_of_pos (n / 3) (show (0 : Int) < h by omega)
    apply w_seq_n
    · apply ev_asgF
      · apply ev_bin
        · walk_at "ab"
        · exact ev_var rfl rfl
        · exact gMod_ok (by omega)
      · rfl
    walk_at "ab set"
    generalize n / 3 % (h : Int) = k at hk0 hk1 ⊢
    have L1 := cut_to_len r.1 k ⟨hk0, by omega⟩
    have L2 := cut_from_len r.1 (k + 1) ⟨by omega, by omega⟩
    apply w_ret
    · apply ev_tup
      · apply ev_cons
        · apply ev_bin
          · apply ev_bin
            · exact ev_sl (ev_bin (vr _ rfl) ev_C (gIx_fst rfl)) ev_noPart (ev_part (ev_var rfl rfl)) (gSl_tup rfl (enc_int.fs _))
            · apply ev_tup (ds := [r.1.getD k.toNat 0 / 10 + n / 12 % 2].map D.int)
              · apply ev_cons
                · apply ev_bin
                  · apply ev_bin
                    · exact ev_bin (ev_bin (vr _ rfl) ev_C (gIx_fst rfl)) (ev_var rfl rfl) (gIx_map (xs := r.1) (x := r.1.getD k.toNat 0) rfl hk0 (getD_get (by omega)) rfl)
                    · exact ev_C
                    · exact gDiv_ok (by decide) (by decide)
                  · walk_at "ab"
                  · exact gAdd_ok
                · exact ev_nil
              · exact enc_int.fs [_]
              · walk_at "ab l"
            · exact gAdd_tup (enc_int.fs _) (enc_int.fs _) (by simp only [List.length_map, List.length_cons, List.length_nil]; omega)
          · exact ev_sl (ev_bin (vr _ rfl) ev_C (gIx_fst rfl)) (ev_part (ev_bin (ev_var rfl rfl) ev_C gAdd_ok)) ev_noPart (gSl_tup rfl (enc_int.fs _))
          · rw [← List.map_append]
            exact gAdd_tup (enc_int.fs _) (enc_int.fs _) (by simp only [List.length_map, List.length_append, List.length_cons, List.length_nil]; omega)
        · exact ev_cons (ev_bin (vr _ rfl) ev_C (gIx_snd rfl)) ev_nil
      · rw [← List.map_append]
        simp only [isFs, isF, enc_int.fs, encW.fs, Bool.and_self]
      · walk_at "ab l"
    · rw [← List.map_append]
      simp only [isFs, isF, enc_int.fs, encW.fs, Bool.and_self]
    · rw [← List.map_append]
      refine ⟨_, rfl, ret_of (by simp only [isFs, isF, enc_int.fs, encW.fs, Bool.and_self]) ⟨(_, r.2), rfl, ?_, rfl, fun w m => Nat.le_succ_of_le (hb w m)⟩⟩
      simp only [List.length_append, List.length_cons, List.length_nil]
      omega
  · intro q
    have hne : r.2 ≠ [] := by
      simp only [Bool.or_eq_false_iff, decide_eq_false_iff_not] at q
      exact q.2
    have hpos : 0 < r.2.length := List.length_pos_iff.mpr hne
    apply w_seq_next
    have hk0 := Int.emod_nonneg (n / 3) (show (r.2.length : Int) ≠ 0 by omega)
    have hk1 := Int.emod_lt_of_pos (n / 3) (show (0 : Int) < r.2.length by omega)
    apply w_seq_n
    · apply ev_asgF
      · apply ev_bin
        · walk_at "ab"
        · exact ev_cb (ev_cons (ev_bin (vr _ rfl) ev_C (gIx_snd rfl)) ev_nil) gLen_tup
        · exact gMod_ok (by omega)
      · rfl
    walk_at "ab set"
    generalize n / 3 % (r.2.length : Int) = k at hk0 hk1 ⊢
    apply w_seq_n
    · apply ev_asgF_mu
      · exact ev_call (ev_cons (ev_var rfl rfl) ev_nil) rfl (pairs_eq h h2)
      · exact enc2.fs _
    walk_at "ab set"
    have hx0 := Int.emod_nonneg (n / 18) (show ((pairs_ h).length : Int) ≠ 0 by omega)
    have hx1 := Int.emod_lt_of_pos (n / 18) (show (0 : Int) < (pairs_ h).length by omega)
    have g1 : r.2[k.toNat]? = some (r.2.getD k.toNat []) := getD_get (by omega)
    have hw1 : (r.2.getD k.toNat []).length ≤ B := hb _ (List.mem_of_getElem? g1)
    generalize r.2.getD k.toNat [] = w at g1 hw1
    apply w_seq_n
    · apply ev_asgF (d := e2 ((pairs_ h).getD (n / 18 % ((pairs_ h).length : Int)).toNat (0, 0)))
      · apply ev_bin
        · exact ev_var rfl rfl
        · apply ev_bin
          · walk_at "ab"
          · exact ev_cb (ev_cons (ev_var rfl rfl) ev_nil) (show gLen [.lst ((pairs_ h).map e2)] _ = some (.int ((pairs_ h).length : Int)) by show some (D.int (((pairs_ h).map e2).length : Int)) = _; rw [List.length_map])
          · exact gMod_ok (by omega)
        · exact gIx_map (xs := pairs_ h) rfl hx0 (getD_get (by omega)) (enc2.f _)
      · exact enc2.f _
    walk_at "ab set"
    generalize (pairs_ h).getD (n / 18 % ((pairs_ h).length : Int)).toNat (0, 0) = pr
    apply w_seq_n
    · apply ev_asgF
      · apply ev_cb
        · apply ev_cons
          · refine fcomp_filter (A0 := [some (.int n), some (eR r), some (.int h), some (.int k), some (eL e2 (pairs_ h)), some (e2 pr), none, none, none]) (e := e2) (e' := e2) (xs := w) (fun x => x) (fun x => !decide (x = pr)) ?_ (by omega) fun x hx => ⟨_, rfl, ?_, fun _ => ⟨?_, fun i q => nomatch q⟩, rfl⟩
            · apply ev_it (d := eW w)
              · exact ev_bin (ev_bin (vr _ rfl) ev_C (gIx_snd rfl)) (ev_var rfl rfl) (gIx_map (xs := r.2) rfl hk0 g1 (encW.f w))
              · exact encW.f w
              · exact if_pos (enc2.fs w)
            · walk_at "ab set"
              apply ev_B
              apply ev_bin
              · exact ev_var rfl (enc2.f x)
              · exact ev_var rfl (enc2.f pr)
              · exact gNe_enc enc2
            · walk_at "ab set"
              exact ev_var rfl (enc2.f x)
          · exact ev_nil
        · exact gTuple_sq rfl (enc2.fs _)
      · exact encW.f _
    walk_at "ab set"
    have hv : (List.map (fun x => x) (w.filter fun x => !decide (x = pr))).length ≤ B := by
      rw [List.length_map]
      exact Nat.le_trans (List.length_filter_le _ _) hw1
    generalize List.map (fun x => x) (w.filter fun x => !decide (x = pr)) = v at hv ⊢
    have fin : ∀ v : List (Int × Int), v.length ≤ B + 1 → W (fRet (fTup (fCons (fBin gIx (fVar 1) (fC (.int 0))) (fCons (fBin gAdd (fBin gAdd (fSl (fBin gIx (fVar 1) (fC (.int 1))) fNoPart (fPart (fVar 3))) (fTup (fCons (fVar 6) (fNil)))) (fSl (fBin gIx (fVar 1) (fC (.int 1))) (fPart (fBin gAdd (fVar 3) (fC (.int 1)))) fNoPart)) (fNil)))) [some (.int n), some (eR r), some (.int h), some (.int k), some (eL e2 (pairs_ h)), some (e2 pr), some (eW v), none, none])
        (Ret fun d => ∃ q : Rn, d = eR q ∧ q.1.length = h ∧ q.2.length = r.2.length ∧ ∀ w ∈ q.2, w.length ≤ B + 1) := by
      intro v hv
      have L1 := cut_to_len r.2 k ⟨hk0, by omega⟩
      have L2 := cut_from_len r.2 (k + 1) ⟨by omega, by omega⟩
      apply w_ret
      · apply ev_tup
        · apply ev_cons
          · exact ev_bin (vr _ rfl) ev_C (gIx_fst rfl)
          · apply ev_cons
            · apply ev_bin
              · apply ev_bin
                · exact ev_sl (ev_bin (vr _ rfl) ev_C (gIx_snd rfl)) ev_noPart (ev_part (ev_var rfl rfl)) (gSl_tup rfl (encW.fs _))
                · apply ev_tup (ds := [v].map eW)
                  · exact ev_cons (ev_var rfl (encW.f v)) ev_nil
                  · exact encW.fs [v]
                  · walk_at "ab l"
                · exact gAdd_tup (encW.fs _) (encW.fs _) (by simp only [List.length_map, List.length_cons, List.length_nil]; omega)
              · exact ev_sl (ev_bin (vr _ rfl) ev_C (gIx_snd rfl)) (ev_part (ev_bin (ev_var rfl rfl) ev_C gAdd_ok)) ev_noPart (gSl_tup rfl (encW.fs _))
              · rw [← List.map_append]
                exact gAdd_tup (encW.fs _) (encW.fs _) (by simp only [List.length_map, List.length_append, List.length_cons, List.length_nil]; omega)
            · exact ev_nil
        · rw [← List.map_append]
          simp only [isFs, isF, enc_int.fs, encW.fs, Bool.and_self]
        · walk_at "ab l"
      · rw [← List.map_append]
        simp only [isFs, isF, enc_int.fs, encW.fs, Bool.and_self]
      · rw [← List.map_append]
        refine ret_of (by simp only [isFs, isF, enc_int.fs, encW.fs, Bool.and_self]) ⟨(r.1, cutG r.2 none (some k) ++ [v] ++ cutG r.2 (some (k + 1)) none), rfl, hl, ?_, fun u m => ?_⟩
        · simp only [List.length_append, List.length_cons, List.length_nil]
          omega
        · rcases List.mem_append.mp m with m | m
          · rcases List.mem_append.mp m with m | m
            · exact Nat.le_succ_of_le (hb u (cut_to_mem m))
            · rw [List.mem_singleton.mp m]; exact hv
          · exact Nat.le_succ_of_le (hb u (cut_to_mem m))
    apply w_seq_if
    · apply ev_B
      apply ev_bin
      · exact ev_var rfl (encW.f v)
      · exact ev_bin (ev_bin (vr _ rfl) ev_C (gIx_snd rfl)) (ev_var rfl rfl) (gIx_map (xs := r.2) rfl hk0 g1 (encW.f w))
      · exact gEq_enc (x := v) (y := w) encW
    · intro _
      apply w_seq_n
      · apply ev_asgF (d := eW (sortP (v ++ [pr])))
        · apply ev_cb (ds := [.mu ((sortP (v ++ [pr])).map pd)])
          · apply ev_cons
            · apply ev_cb (ds := [.mu ((v ++ [pr]).map e2)])
              · apply ev_cons
                · apply ev_bin
                  · apply ev_cb (ev_cons (ev_var rfl (encW.f v)) ev_nil)
                    show (if isFs (v.map e2) = true then some (D.mu (v.map e2)) else none) = _
                    rw [if_pos (enc2.fs v)]
                  · exact ev_lst (ds := [pr].map e2) (ev_cons (ev_var rfl (enc2.f pr)) ev_nil) (enc2.fs [pr]) (by walk_at "ab l")
                  · refine (gAdd_lst rfl rfl (enc2.fs v) (enc2.fs [pr]) ?_).trans ?_
                    · simp only [List.length_map, List.length_cons, List.length_nil]; omega
                    · rw [← List.map_append]
                · exact ev_nil
              · show (match prsOf ((v ++ [pr]).map pd) with | some ps => some (D.mu ((sortP ps).map pd)) | none => none) = _
                rw [prsOf_map]
            · exact ev_nil
          · exact gTuple_sq rfl (enc2.fs (sortP (v ++ [pr])))
        · exact encW.f _
      walk_at "ab set"
      refine fin _ ?_
      unfold sortP
      rw [List.length_mergeSort, List.length_append, List.length_singleton]
      omega
    · intro _
      apply w_seq_next
      exact fin v (by omega)
theorem cut_take {α : Type} (s : List α) (k : Nat) (h : k ≤ s.length) : cutG s none (some (k : Int)) = s.take k := by
  have e : HT.sIx s.length s.length (some (k : Int)) = k := by
    show (if (k : Int) < 0 then ((k : Int) + s.length).toNat else min (k : Int).toNat s.length) = k
    rw [if_neg (by omega), Int.toNat_natCast]
    exact Nat.min_eq_left h
  have e0 : HT.sIx s.length 0 none = 0 := rfl
  unfold cutG
  rw [e, e0, List.drop_zero, Nat.sub_zero]
theorem ev_orF {A A1 A2 : Sl} {ft fu : FT} {b : Bool} (h : ft A = .ok false A1) (k : fu A1 = .ok b A2) : fOr ft fu A = .ok b A2 := by
  unfold fOr; rw [h]
  exact k
theorem ev_notT {A A1 : Sl} {ft : FT} (h : ft A = .ok true A1) : fNot ft A = .ok false A1 := ev_not h
theorem ev_andF {A A1 : Sl} {ft fu : FT} {a : Bool} (h : ft A = .ok a A1) (k : a = true → fu A1 = .ok false A1) : fAnd ft fu A = .ok false A1 := by
  unfold fAnd; rw [h]
  cases a with
  | true => exact k rfl
  | false => rfl
theorem law_true (ns : List Int) (hl : ns.length ≤ 63) : F_law [.fro (ns.map D.int)] = .ok (.bl true) := by
  have hz := sizeLine_eq
  have hh : 2 ≤ 2 + cell ns 0 % 3 ∧ 2 + cell ns 0 % 3 ≤ 4 := by omega
  refine def_is [some (eS ns), none, none, none, none, none, none, none, none] rfl rfl ?_
  unfold f_law
  walk_at "ab seq"
  obtain ⟨h, e⟩ : ∃ h : Nat, 2 + cell ns 0 % 3 = (h : Int) := ⟨(2 + cell ns 0 % 3).toNat, by omega⟩
  rw [e] at hh ⊢
  have h2 : 2 ≤ h ∧ h ≤ 4 := by omega
  obtain ⟨_, er, r, rfl, r1, r2, r3⟩ := run_eq ns hl h h2
  have vi : ∀ (r : Rn) (i : Nat) (A : Sl), A[i]? = some (some (eR r)) → fVar i A = .ok (eR r) A := fun r i A h => ev_var h (encR.f r)
  apply w_seq_n
  · apply ev_asgF
    · exact ev_call (ev_cons (ev_var rfl rfl) (ev_cons (ev_var rfl rfl) ev_nil)) rfl er
    · exact encR.f r
  walk_at "ab set"
  apply w_seq_n
  · apply ev_asgF
    · exact vi r 2 _ rfl
    · exact encR.f r
  walk_at "ab set"
  have hm := mix_nn (cell ns 3) 3 (by decide) (by decide)
  apply w_seq_for (xs := (List.range (mixV (cell ns 3) 3 % 4).toNat).map fun i => D.int (i : Nat)) (fun j A => ∃ (q : Rn) (l4 : Option D), A = [some (eS ns), some (.int h), some (eR r), some (eR q), l4, none, none, none, none] ∧ q.1.length = h ∧ q.2.length = r.2.length ∧ ∀ w ∈ q.2, w.length ≤ 12 + j)
  · walk_at "ab"
  · exact ⟨r, none, rfl, r1, rfl, r3⟩
  · rintro j d A hd ⟨q, l4, rfl, q1, q2, q3⟩
    obtain ⟨rfl, hj⟩ := range_get hd
    refine ⟨_, rfl, ?_⟩
    walk_at "ab set"
    have hm2 := mix_nn (cell ns (4 + j)) (90 + j) (by omega) (by omega)
    obtain ⟨_, ec, q', rfl, c1, c2, c3⟩ := changed_eq (mixV (cell ns (4 + j)) (90 + j)) hm2 q h (12 + j) (by omega) q1 h2 (by omega) q3
    apply w_of
    · apply ev_asgF
      · apply ev_call
        · apply ev_cons
          · walk_at "ab"
          · exact ev_cons (vi q 3 _ rfl) ev_nil
        · simp [isFs, isF, enc_int.fs, encW.fs]
        · exact ec
      · exact encR.f q'
    · exact ⟨by simp, q', _, rfl, c1, by omega, fun w m => by have := c3 w m; omega⟩
  rintro A ⟨q, l4, rfl, q1, q2, -⟩
  have fs2 : ∀ (a b : Rn), isFs [eR a, eR b] = true := fun a b => by simp [isFs, isF, enc_int.fs, encW.fs]
  have fs3 : ∀ (a b : Rn) (c : Int), isFs [eR a, eR b, .int c] = true := fun a b c => by simp [isFs, isF, enc_int.fs, encW.fs]
  have fs1 : ∀ (a : Rn) (c : Int), isFs [eR a, .int c] = true := fun a c => by simp [isFs, isF, enc_int.fs, encW.fs]
  apply w_seq_n
  · apply ev_asgF_mu
    · exact ev_call (ev_cons (vi r 2 _ rfl) (ev_cons (vi q 3 _ rfl) ev_nil)) (fs2 r q) (same_eq r q h r1 q1 h2.2 q2.symm r2)
    · exact enc_bl.fs _
  walk_at "ab set"
  have dl : (due h r q).length = h := sameL_len h _ _ (base_len h r.1 q.1)
  apply w_seq_for (fun j A => ∃ l6 l7 l8, A = [some (eS ns), some (.int h), some (eR r), some (eR q), l4, some (.lst ((due h r q).map D.bl)), l6, l7, l8])
  · walk_at "ab"
  · exact ⟨_, _, _, rfl⟩
  · rintro a d A hd ⟨l6, l7, l8, rfl⟩
    obtain ⟨rfl, ha⟩ := range_get hd
    rw [Int.toNat_natCast] at ha
    refine ⟨_, rfl, ?_⟩
    walk_at "ab set"
    have ha2 : 0 ≤ (a : Int) ∧ (a : Int) < (h : Int) := by omega
    have bi : ∀ A : Sl, gIx (.lst ((due h r q).map D.bl)) (.int a) A = some (.bl (bAt (due h r q) a)) := fun A => bools_at rfl dl ha2
    have vd : ∀ A : Sl, A[5]? = some (some (.lst ((due h r q).map D.bl))) → A[6]? = some (some (.int a)) → fBin gIx (fVar 5) (fVar 6) A = .ok (.bl (bAt (due h r q) a)) A := fun A h5 h6 => ev_bin (ev_var h5 rfl) (ev_var h6 rfl) (bi A)
    have d1 : decide (view_ h r a = view_ h q a) = bAt (due h r q) a := by
      have := view_iff h r q q2.symm a ha2
      cases e1 : bAt (due h r q) a <;> simp_all
    have d2 : decide (view_ h q a = view_ h r a) = bAt (due h r q) a := by
      rw [← d1]
      congr 1
      exact propext eq_comm
    have a1 := alike_eq r q h r1 q1 h2 r2 (by omega) a ha2
    have a2 := alike_eq q r h q1 r1 h2 (by omega) r2 a ha2
    have a3 := alike_eq r r h r1 r1 h2 r2 r2 a ha2
    rw [d1] at a1
    rw [d2] at a2
    rw [show decide (view_ h r (a : Int) = view_ h r a) = true by simp] at a3
    apply w_seq_for (xs := [D.bl (bAt (due h r q) a), D.bl (bAt (due h r q) a)]) (fun j A => ∃ l7 l8, A = [some (eS ns), some (.int h), some (eR r), some (eR q), l4, some (.lst ((due h r q).map D.bl)), some (.int a), l7, l8])
    · apply ev_it_mu
      · apply ev_lst
        · apply ev_cons
          · exact ev_call (ev_cons (vi r 2 _ rfl) (ev_cons (vi q 3 _ rfl) (ev_cons (ev_var rfl rfl) ev_nil))) (fs3 r q a) a1
          · apply ev_cons
            · exact ev_call (ev_cons (vi q 3 _ rfl) (ev_cons (vi r 2 _ rfl) (ev_cons (ev_var rfl rfl) ev_nil))) (fs3 q r a) a2
            · exact ev_nil
        · rfl
        · walk_at "ab l"
      · rfl
    · exact ⟨_, _, rfl⟩
    · rintro j d A hd2 ⟨l7, l8, rfl⟩
      obtain ⟨x, hx, rfl⟩ := map_get (f := D.bl) (xs := [bAt (due h r q) a, bAt (due h r q) a]) hd2
      have ex : x = bAt (due h r q) a := by
        have := List.mem_of_getElem? hx
        simpa using this
      subst ex
      refine ⟨_, rfl, ?_⟩
      walk_at "ab set"
      apply w_if (b := false)
      · apply ev_orF
        · exact ev_notT (ev_B (ev_cb (ev_cons (ev_var rfl rfl) (ev_cons ev_C ev_nil)) isi_bb))
        · exact ev_B (ev_bin (ev_var rfl rfl) (vd _ rfl rfl) ((gNe_enc enc_bl).trans (by simp)))
      · intro z; cases z
      · intro _
        apply wf_next
        exact ⟨.inl rfl, _, _, rfl⟩
    rintro A ⟨l7, l8, rfl⟩
    apply w_seq_if (b := false)
    · apply ev_orF
      · apply ev_B
        apply ev_bin (d := .bl (bAt (due h r q) a)) _ (vd [some (eS ns), some (.int h), some (eR r), some (eR q), l4, some (.lst ((due h r q).map D.bl)), some (.int a), l7, l8] rfl rfl)
        rotate_left
        · apply ev_bin
          · exact ev_call (ev_cons (vi r 2 _ rfl) (ev_cons (ev_var rfl rfl) ev_nil)) (fs1 r a) (view_eq r h r1 h2 r2 a ha2)
          · exact ev_call (ev_cons (vi q 3 _ rfl) (ev_cons (ev_var rfl rfl) ev_nil)) (fs1 q a) (view_eq q h q1 h2 (by omega) a ha2)
          · exact (gEq_enc encV).trans (by rw [d1])
        · exact (gNe_enc enc_bl).trans (by simp)
      · apply ev_B
        apply ev_bin (d := .bl true)
        · exact ev_call (ev_cons (vi r 2 _ rfl) (ev_cons (vi r 2 _ rfl) (ev_cons (ev_var rfl rfl) ev_nil))) (fs3 r r a) a3
        · exact ev_C
        · rfl
    · intro z; cases z
    intro _
    apply w_seq_next
    apply w_for (xs := (List.range r.2.length).map fun i => D.int (i : Nat)) (fun j A => ∃ l8, A = [some (eS ns), some (.int h), some (eR r), some (eR q), l4, some (.lst ((due h r q).map D.bl)), some (.int a), l7, l8])
    · have := ev_range (fe := fCB gLen (fCons (fBin gIx (fVar 2) (fC (.int 1))) fNil)) (ev_cb (ev_cons (ev_bin (vi r 2 [some (eS ns), some (.int h), some (eR r), some (eR q), l4, some (.lst ((due h r q).map D.bl)), some (.int a), l7, l8] rfl) ev_C (gIx_snd rfl)) ev_nil) gLen_tup) (by omega)
      rw [Int.toNat_natCast] at this
      exact this
    · exact ⟨_, rfl⟩
    · rintro k d A hd3 ⟨l8, rfl⟩
      obtain ⟨rfl, hk⟩ := range_get hd3
      refine ⟨_, rfl, ?_⟩
      walk_at "ab set"
      apply w_if (b := false)
      · apply ev_andF (a := bAt (due h r q) a)
        · exact ev_B (vd _ rfl rfl)
        · intro hd4
          have c1 := due_cut h r q k a ha2 hd4
          have c2 := (view_iff h (r.1, r.2.take k) (q.1, q.2.take k) (by simp [q2]) a ha2).mpr c1
          have c3 := alike_eq (r.1, r.2.take k) (q.1, q.2.take k) h r1 q1 h2 (by simp; omega) (by simp; omega) a ha2
          rw [show decide (view_ h (r.1, r.2.take k) (a : Int) = view_ h (q.1, q.2.take k) a) = true by simp [c2]] at c3
          have e1 := cut_to_eq r k
          have e2 := cut_to_eq q k
          rw [cut_take r.2 k (by omega)] at e1
          rw [cut_take q.2 k (by omega)] at e2
          apply ev_B
          apply ev_bin (d := .bl true)
          · apply ev_call
            · apply ev_cons
              · exact ev_call (ev_cons (vi r 2 _ rfl) (ev_cons (ev_var rfl rfl) ev_nil)) (fs1 r k) e1
              · apply ev_cons
                · exact ev_call (ev_cons (vi q 3 _ rfl) (ev_cons (ev_var rfl rfl) ev_nil)) (fs1 q k) e2
                · exact ev_cons (ev_var rfl rfl) ev_nil
            · exact fs3 _ _ a
            · exact c3
          · exact ev_C
          · rfl
      · intro z; cases z
      · intro _
        apply wf_next
        exact ⟨.inl rfl, _, rfl⟩
    · rintro A ⟨l8, rfl⟩
      exact ⟨.inl rfl, _, _, _, rfl⟩
  · rintro A ⟨l6, l7, l8, rfl⟩
    apply w_ret
    · exact ev_C
    · rfl
    · exact ret_of rfl rfl
end Lw
end
section
open PySem PySem.W PyProof.Rows
set_option maxHeartbeats 0 in
theorem PySem.Challenge.cw_losspact_k13_alike_holds : PySem.Challenge.rw_losspact_k13_alike.Holds := by
  w_on; o_law; k_head; (case hw => w_witness2)
  k_fill
  refine L2.walk_of (l := PySem.Challenge.rw_losspact_k13_alike) (n := 63) (k := 5) (x := "_law_script") (CX := fun w => L2.CX PySem.Challenge.rw_losspact_k13_alike.prog w) (sp := fun w => Ab.spF _ (fun _ => .none) 1 Lw.F_law) rfl (by decide) rfl ⟨rfl, by decide, by decide⟩ (fun w h Y => PySem.W.kIn_of Y) ?F (fun _ _ a ns hl _ hS => Ab.law_sp (Lw.law_true ns hl) hS) (fun _ _ _ _ _ h => Ab.law_cx h)
  case F =>
    intro w mg fa h KX G hmg
    refine' Lw.all_mk KX G hmg ?a0 ?l0 ?c0 ?k0 ?a1 ?l1 ?c1 ?k1 ?a2 ?l2 ?c2 ?k2 ?a3 ?l3 ?c3 ?k3 ?a4 ?l4 ?c4 ?k4 ?a5 ?l5 ?c5 ?k5 ?a6 ?l6 ?c6 ?k6 ?a7 ?l7 ?c7 ?k7 ?a8 ?l8 ?c8 ?k8 ?a9 ?l9 ?c9 ?k9 ?a10 ?l10 ?c10 ?k10 ?a11 ?l11 ?c11 ?k11 ?a12 ?l12 ?c12 ?k12 ?a13 ?l13 ?c13 ?k13 ?a14 ?l14 ?c14 ?k14 ?z_bool ?z_isinstance ?z_len ?z_list ?z_range ?z_sorted ?z_tuple ?z_zip
    (case a0 => k_is); (case l0 => k_is); (case c0 => k_is); (case k0 => k_is); (case a1 => k_is); (case l1 => k_is); (case c1 => k_is); (case k1 => k_is); (case a2 => k_is); (case l2 => k_is); (case c2 => k_is); (case k2 => k_is); (case a3 => k_is); (case l3 => k_is); (case c3 => k_is); (case k3 => k_is); (case a4 => k_is); (case l4 => k_is); (case c4 => k_is); (case k4 => k_is); (case a5 => k_is); (case l5 => k_is); (case c5 => k_is); (case k5 => k_is); (case a6 => k_is); (case l6 => k_is); (case c6 => k_is); (case k6 => k_is); (case a7 => k_is); (case l7 => k_is); (case c7 => k_is); (case k7 => k_is); (case a8 => k_is); (case l8 => k_is); (case c8 => k_is); (case k8 => k_is); (case a9 => k_is); (case l9 => k_is); (case c9 => k_is); (case k9 => k_is); (case a10 => k_is); (case l10 => k_is); (case c10 => k_is); (case k10 => k_is); (case a11 => k_is); (case l11 => k_is); (case c11 => k_is); (case k11 => k_is); (case a12 => k_is); (case l12 => k_is); (case c12 => k_is); (case k12 => k_is); (case a13 => k_is); (case l13 => k_is); (case c13 => k_is); (case k13 => k_is); (case a14 => k_is); (case l14 => k_is); (case c14 => k_is); (case k14 => k_is); (case z_bool => k_is); (case z_isinstance => k_is); (case z_len => k_is); (case z_list => k_is); (case z_range => k_is); (case z_sorted => k_is); (case z_tuple => k_is); (case z_zip => k_is)
end

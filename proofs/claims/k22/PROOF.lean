import PyProof.Rows.All
import Wide.All
import OpenK.AllK
import Wide.FinOn
import HandS.ForMost
import HandS.ForExc
import HandS.Deep
import HandS.TupAny
import HandS.IsInst
import HandS.Wide
import HandS.Zip
import PySem.Challenge.RW_losspact_k22_runs_by_number
set_option Elab.async false
set_option linter.all false
set_option maxRecDepth 100000
set_option maxHeartbeats 4000000
section
/-! Ab: plain data under the hand layer. D is a value told without addresses; R says that a value of the layer bears it; Abs that the slots, the temporaries and the heap bear what is told. -/
namespace Ab
open PySem PySem.Spec PyProof.Rows L2

/-- a value, told without addresses: lst, fdi are never changed again (fro: a list that may be the law's own script); mut, mdi stand at an address of their own; al i is what slot i owns -/
inductive D where
  | non | bl (b : Bool) | int (i : Int) | str (x : Str)
  | tup (ds : List D) | lst (ds : List D) | mu (ds : List D) | fro (ds : List D)
  | fdi (n : Bool) (ks vs : List D) | mdi (n : Bool) (ks vs : List D)
  | al (i : Nat) | exc (c : Str) | obj (c : Str) (fs : List Str) (vs : List D) | ty (n : String)
  deriving Inhabited

abbrev Sl := List (Option D)
/-- what comes of an expression or a statement -/
inductive Ou (α : Type) where
  | ok (a : α) (A : Sl) | exc (c : Str) (A : Sl) | stuck
def Ou.bind {α β : Type} (x : Ou α) (f : α → Sl → Ou β) : Ou β :=
  match x with | .ok a A => f a A | .exc c A => .exc c A | .stuck => .stuck
@[simp] theorem Ou.bind_ok {α β : Type} (a : α) (A : Sl) (f : α → Sl → Ou β) : (Ou.ok a A).bind f = f a A := rfl
@[simp] theorem Ou.bind_exc {α β : Type} (c : Str) (A : Sl) (f : α → Sl → Ou β) : (Ou.exc c A : Ou α).bind f = .exc c A := rfl
@[simp] theorem Ou.bind_stuck {α β : Type} (f : α → Sl → Ou β) : (Ou.stuck : Ou α).bind f = .stuck := rfl
abbrev FE := Sl → Ou D
abbrev FA := Sl → Ou (List D)
abbrev FT := Sl → Ou Bool
inductive Fl where
  | next | brk | cont | ret (d : D)
abbrev FS := Sl → Ou Fl

mutual
inductive R (K : PySem.W.Frag) (G H : Hp) : V → D → List Addr → Prop
  | non : R K G H .non .non []
  | bl (b : Bool) : R K G H (.bl b) (.bl b) []
  | int (i : Int) : R K G H (.int i) (.int i) []
  | str (x : Str) : R K G H (.str x) (.str x) []
  | ty (n : String) : R K G H (.ty n) (.ty n) []
  | tup {a : Addr} {xs : List V} {ds : List D} {L : List Addr} : G a = some (.tup xs) → Rs K G H xs ds L → R K G H (.ref a) (.tup ds) L
  | lst {a : Addr} {xs : List V} {ds : List D} : G a = some (.lst xs) → Rs K G H xs ds [] → R K G H (.ref a) (.lst ds) []
  | fro {a : Addr} {xs : List V} {ds : List D} : SqL K G a xs → Rs K G H xs ds [] → R K G H (.ref a) (.fro ds) []
  | mu {p : Addr} {xs : List V} {ds : List D} {L : List Addr} : H p = some (.lst xs) → G p = none → Rs K G H xs ds L → R K G H (.ref p) (.mu ds) (p :: L)
inductive Rs (K : PySem.W.Frag) (G H : Hp) : List V → List D → List Addr → Prop
  | nil : Rs K G H [] [] []
  | cons {v : V} {d : D} {L : List Addr} {vs : List V} {ds : List D} {L' : List Addr} : R K G H v d L → Rs K G H vs ds L' → Rs K G H (v :: vs) (d :: ds) (L ++ L')
end

theorem sq_l {K : PySem.W.Frag} {H H' : Hp} {a : Addr} {xs : List V} (e : Same H H') (h : SqL K H a xs) : SqL K H' a xs := e.seq h
theorem sq_t {K : PySem.W.Frag} {H H' : Hp} {a : Addr} {xs : List V} (e : Same H H') (h : SqT K H a xs) : SqT K H' a xs := by
  rcases h with (h | ⟨o, h⟩) | h
  · exact .inl (.inl (e _ _ h))
  · exact .inl (.inr ⟨o, e _ _ h⟩)
  · exact .inr h

section
variable {K : PySem.W.Frag} {G G' H H' : Hp}
mutual
/-- what is borne is borne further: the known part grows, what is owned stays -/
theorem R.mono (eg : Same G G') : ∀ {v : V} {d : D} {L : List Addr}, R K G H v d L → (∀ a ∈ L, H' a = H a ∧ G' a = none) → R K G' H' v d L
  | _, _, _, .non, _ => .non
  | _, _, _, .bl b, _ => .bl b
  | _, _, _, .int i, _ => .int i
  | _, _, _, .str x, _ => .str x
  | _, _, _, .ty x, _ => .ty x
  | _, _, _, .tup q r, h => .tup (eg _ _ q) (Rs.mono eg r h)
  | _, _, _, .lst q r, h => .lst (eg _ _ q) (Rs.mono eg r h)
  | _, _, _, .fro q r, h => .fro (sq_l eg q) (Rs.mono eg r h)
  | _, _, _, .mu e n r, h => .mu ((h _ List.mem_cons_self).1.trans e) (h _ List.mem_cons_self).2 (Rs.mono eg r fun a ha => h a (List.mem_cons_of_mem _ ha))
theorem Rs.mono (eg : Same G G') : ∀ {vs : List V} {ds : List D} {L : List Addr}, Rs K G H vs ds L → (∀ a ∈ L, H' a = H a ∧ G' a = none) → Rs K G' H' vs ds L
  | _, _, _, .nil, _ => .nil
  | _, _, _, .cons r t, h => .cons (R.mono eg r fun a ha => h a (List.mem_append_left _ ha)) (Rs.mono eg t fun a ha => h a (List.mem_append_right _ ha))
end
mutual
theorem R.own : ∀ {v : V} {d : D} {L : List Addr}, R K G H v d L → ∀ a ∈ L, G a = none ∧ H a ≠ none
  | _, _, _, .non, _, h => nomatch h
  | _, _, _, .bl b, _, h => nomatch h
  | _, _, _, .int i, _, h => nomatch h
  | _, _, _, .str x, _, h => nomatch h
  | _, _, _, .ty x, _, h => nomatch h
  | _, _, _, .tup q r, a, h => Rs.own r a h
  | _, _, _, .lst q r, a, h => nomatch h
  | _, _, _, .fro q r, a, h => nomatch h
  | _, _, _, .mu e n r, a, h => by
    rcases List.mem_cons.mp h with h | h
    · rw [h]; exact ⟨n, by rw [e]; exact fun z => nomatch z⟩
    · exact Rs.own r a h
theorem Rs.own : ∀ {vs : List V} {ds : List D} {L : List Addr}, Rs K G H vs ds L → ∀ a ∈ L, G a = none ∧ H a ≠ none
  | _, _, _, .nil, _, h => nomatch h
  | _, _, _, .cons r t, a, h => by
    rcases List.mem_append.mp h with h | h
    · exact R.own r a h
    · exact Rs.own t a h
end
theorem Rs.length {vs : List V} {ds : List D} {L : List Addr} (r : Rs K G H vs ds L) : vs.length = ds.length := by
  induction vs generalizing ds L with
  | nil => cases r; rfl
  | cons v vs ih => cases r with | cons r t => simp [ih t]
theorem Rs.get : ∀ {vs : List V} {ds : List D} {L : List Addr} {i : Nat} {v : V}, Rs K G H vs ds L → vs[i]? = some v → ∃ d Li, ds[i]? = some d ∧ R K G H v d Li ∧ Li.Sublist L
  | _, _, _, i, v, .nil, e => by simp at e
  | _, _, _, 0, v, .cons (L := L) (L' := L') r t, e => by
    simp at e; subst e
    exact ⟨_, L, rfl, r, List.sublist_append_left _ _⟩
  | _, _, _, i + 1, v, .cons (L := L) (L' := L') r t, e => by
    obtain ⟨d, Li, h1, h2, h3⟩ := Rs.get (i := i) (v := v) t (by simpa using e)
    exact ⟨d, Li, by simpa using h1, h2, h3.trans (List.sublist_append_right _ _)⟩
theorem Rs.getD : ∀ {vs : List V} {ds : List D} {L : List Addr} {i : Nat} {d : D}, Rs K G H vs ds L → ds[i]? = some d → ∃ v Li, vs[i]? = some v ∧ R K G H v d Li ∧ Li.Sublist L
  | _, _, _, i, v, .nil, e => by simp at e
  | _, _, _, 0, v, .cons (L := L) (L' := L') r t, e => by
    simp at e; subst e
    exact ⟨_, L, rfl, r, List.sublist_append_left _ _⟩
  | _, _, _, i + 1, v, .cons (L := L) (L' := L') r t, e => by
    obtain ⟨d, Li, h1, h2, h3⟩ := Rs.getD (i := i) (d := v) t (by simpa using e)
    exact ⟨d, Li, by simpa using h1, h2, h3.trans (List.sublist_append_right _ _)⟩
theorem Rs.app : ∀ {vs ws : List V} {ds es : List D} {L M : List Addr}, Rs K G H vs ds L → Rs K G H ws es M → Rs K G H (vs ++ ws) (ds ++ es) (L ++ M)
  | _, _, _, _, _, _, .nil, s => s
  | _, _, _, _, _, _, .cons r t, s => by
    rw [List.append_assoc]
    exact .cons r (Rs.app t s)
theorem Rs.one {v : V} {d : D} {L : List Addr} (r : R K G H v d L) : Rs K G H [v] [d] L := by
  have := Rs.cons r (Rs.nil (K := K) (G := G) (H := H))
  simpa using this
/-- nothing owned: each item, by places -/
theorem Rs.nil_get {vs : List V} {ds : List D} {i : Nat} {v : V} {d : D} (r : Rs K G H vs ds []) (e1 : vs[i]? = some v) (e2 : ds[i]? = some d) : R K G H v d [] := by
  obtain ⟨d', Li, h1, h2, h3⟩ := r.get e1
  rw [e2] at h1; cases h1
  rw [List.sublist_nil.mp h3] at h2
  exact h2
end

/-! ### freezing -/
mutual
def fz : D → D
  | .mu ds => .lst (fzs ds)
  | .tup ds => .tup (fzs ds)
  | .non => .non | .bl b => .bl b | .int i => .int i | .str x => .str x | .lst ds => .lst ds | .fro ds => .fro ds | .fdi n ks vs => .fdi n ks vs | .mdi n ks vs => .mdi n ks vs | .al i => .al i | .exc c => .exc c | .obj c fs vs => .obj c fs vs | .ty n => .ty n
def fzs : List D → List D
  | [] => []
  | d :: ds => fz d :: fzs ds
end
theorem fzs_map : ∀ ds : List D, fzs ds = ds.map fz
  | [] => by simp [fzs]
  | d :: ds => by simp [fzs, fzs_map ds]
/-- G with what is owned -/
def grab (G H : Hp) (L : List Addr) : Hp := fun a => if a ∈ L then H a else G a
theorem grab_same {G H : Hp} {L : List Addr} (h : ∀ a ∈ L, G a = none) : Same G (grab G H L) := fun a o e => by
  unfold grab
  by_cases m : a ∈ L
  · rw [h a m] at e; cases e
  · rw [if_neg m]; exact e
theorem grab_in {G H : Hp} {L : List Addr} {a : Addr} (h : a ∈ L) : grab G H L a = H a := if_pos h
theorem grab_out {G H : Hp} {L : List Addr} {a : Addr} (h : a ∉ L) : grab G H L a = G a := if_neg h
section
variable {K : PySem.W.Frag} {G G' H H' : Hp}
mutual
theorem R.fz (eg : Same G G') : ∀ {v : V} {d : D} {L : List Addr}, R K G H v d L → (∀ a ∈ L, G' a = H a) → R K G' H v (fz d) []
  | _, _, _, .non, _ => by rw [Ab.fz]; exact .non
  | _, _, _, .bl b, _ => by rw [Ab.fz]; exact .bl b
  | _, _, _, .int i, _ => by rw [Ab.fz]; exact .int i
  | _, _, _, .str x, _ => by rw [Ab.fz]; exact .str x
  | _, _, _, .ty x, _ => by rw [Ab.fz]; exact .ty x
  | _, _, _, .tup q r, h => by rw [Ab.fz]; exact .tup (eg _ _ q) (Rs.fzs eg r h)
  | _, _, _, .lst q r, h => by rw [Ab.fz]; exact .lst (eg _ _ q) (Rs.mono eg r fun _ z => nomatch z)
  | _, _, _, .fro q r, h => by rw [Ab.fz]; exact .fro (sq_l eg q) (Rs.mono eg r fun _ z => nomatch z)
  | _, _, _, .mu e n r, h => by
    rw [Ab.fz]
    exact .lst ((h _ List.mem_cons_self).trans e) (Rs.fzs eg r fun a ha => h a (List.mem_cons_of_mem _ ha))
theorem Rs.fzs (eg : Same G G') : ∀ {vs : List V} {ds : List D} {L : List Addr}, Rs K G H vs ds L → (∀ a ∈ L, G' a = H a) → Rs K G' H vs (fzs ds) []
  | _, _, _, .nil, _ => by rw [Ab.fzs]; exact .nil
  | _, _, _, .cons r t, h => by
    rw [Ab.fzs]
    exact Rs.cons (R.fz eg r fun a ha => h a (List.mem_append_left _ ha)) (Rs.fzs eg t fun a ha => h a (List.mem_append_right _ ha))
end
end

/-! ### slots, temporaries -/
structure Bs where
  G : Hp
  H : Hp
  ex : List Addr
section
variable (K : PySem.W.Frag)
inductive Sls (G H : Hp) : L2.St → Sl → List Addr → Prop
  | nil : Sls G H [] [] []
  | skip {o : Option V} {σ : L2.St} {A : Sl} {L : List Addr} : Sls G H σ A L → Sls G H (o :: σ) (none :: A) L
  | cons {v : V} {d : D} {L L' : List Addr} {σ : L2.St} {A : Sl} : R K G H v d L → Sls G H σ A L' → Sls G H (some v :: σ) (some d :: A) (L ++ L')
abbrev Ts := List (V × D)
inductive Tms (σ : L2.St) (G H : Hp) : Ts → List Addr → Prop
  | nil : Tms σ G H [] []
  | cons {v : V} {d : D} {L L' : List Addr} {ts : Ts} : R K G H v d L → Tms σ G H ts L' → Tms σ G H ((v, d) :: ts) (L ++ L')
  | al {v : V} {i : Nat} {L : List Addr} {ts : Ts} : σ[i]? = some (some v) → Tms σ G H ts L → Tms σ G H ((v, .al i) :: ts) L
/-- the ground: what is known, what stood at the entry -/
structure Gd (B : Bs) (G H : Hp) : Prop where
  gh : Same G H
  bg : Same B.G G
  bh : ∀ a o, a ∉ B.ex → B.H a = some o → H a = some o
  sep : ∀ a, a ∉ B.ex → B.H a ≠ none → B.G a = none → G a = none
  alive : ∀ a ∈ B.ex, H a ≠ none
def Own (B : Bs) (a : Addr) : Prop := B.H a = none ∨ a ∈ B.ex
/-- the state bears what is told -/
def Abs (B : Bs) (σ : L2.St) (A : Sl) (ts : Ts) (H : Hp) : Prop :=
  ∃ G L1 L2, Gd B G H ∧ Tms K σ G H ts L1 ∧ Sls K G H σ A L2 ∧ (L1 ++ L2).Nodup ∧ ∀ a ∈ L1 ++ L2, Own B a
end
section
variable {K : PySem.W.Frag} {B : Bs} {G G' H H' : Hp} {σ : L2.St} {A : Sl} {ts : Ts} {L : List Addr}
theorem Sls.mono (eg : Same G G') (s : Sls K G H σ A L) (h : ∀ a ∈ L, H' a = H a ∧ G' a = none) : Sls K G' H' σ A L := by
  induction s with
  | nil => exact .nil
  | skip _ ih => exact .skip (ih h)
  | cons r _ ih => exact .cons (r.mono eg fun a ha => h a (List.mem_append_left _ ha)) (ih fun a ha => h a (List.mem_append_right _ ha))
theorem Tms.mono (eg : Same G G') (s : Tms K σ G H ts L) (h : ∀ a ∈ L, H' a = H a ∧ G' a = none) : Tms K σ G' H' ts L := by
  induction s with
  | nil => exact .nil
  | al e _ ih => exact .al e (ih h)
  | cons r _ ih => exact .cons (r.mono eg fun a ha => h a (List.mem_append_left _ ha)) (ih fun a ha => h a (List.mem_append_right _ ha))
theorem Sls.own (s : Sls K G H σ A L) : ∀ a ∈ L, G a = none ∧ H a ≠ none := by
  induction s with
  | nil => exact fun _ h => nomatch h
  | skip _ ih => exact ih
  | cons r _ ih => exact fun a ha => (List.mem_append.mp ha).elim (r.own a) (ih a)
theorem Tms.own (s : Tms K σ G H ts L) : ∀ a ∈ L, G a = none ∧ H a ≠ none := by
  induction s with
  | nil => exact fun _ h => nomatch h
  | al _ _ ih => exact ih
  | cons r _ ih => exact fun a ha => (List.mem_append.mp ha).elim (r.own a) (ih a)
theorem Sls.len (s : Sls K G H σ A L) : σ.length = A.length := by
  induction s with
  | nil => rfl
  | skip _ ih => simp [ih]
  | cons _ _ ih => simp [ih]
/-- one slot taken out -/
theorem Sls.take {i : Nat} {d : D} (s : Sls K G H σ A L) (e : A[i]? = some (some d)) : ∃ v Li L', σ[i]? = some (some v) ∧ R K G H v d Li ∧ Sls K G H σ (A.set i none) L' ∧ L.Perm (Li ++ L') := by
  induction s generalizing i with
  | nil => simp at e
  | skip s ih =>
    cases i with
    | zero => simp at e
    | succ i =>
      obtain ⟨v, Li, L', h1, h2, h3, h4⟩ := ih (by simpa using e)
      exact ⟨v, Li, L', by simpa using h1, h2, by simpa using Sls.skip h3, h4⟩
  | cons r s ih =>
    rename_i v0 d0 L0 L1 σ0 A0
    cases i with
    | zero =>
      simp at e; subst e
      exact ⟨v0, L0, L1, rfl, r, by simpa using Sls.skip s, .refl _⟩
    | succ i =>
      obtain ⟨v, Li, L', h1, h2, h3, h4⟩ := ih (by simpa using e)
      refine ⟨v, Li, L0 ++ L', by simpa using h1, h2, by simpa using Sls.cons r h3, ?_⟩
      refine (List.Perm.append_left _ h4).trans ?_
      rw [← List.append_assoc, ← List.append_assoc]
      exact List.Perm.append_right _ List.perm_append_comm
/-- a slot's telling forgotten -/
theorem Sls.drop {i : Nat} (s : Sls K G H σ A L) : ∃ L', Sls K G H σ (A.set i none) L' ∧ L'.Sublist L := by
  induction s generalizing i with
  | nil => exact ⟨[], by simpa using Sls.nil, .refl _⟩
  | skip s ih =>
    cases i with
    | zero => exact ⟨_, by simpa using Sls.skip s, .refl _⟩
    | succ i =>
      obtain ⟨L', h1, h2⟩ := ih (i := i)
      exact ⟨L', by simpa using Sls.skip h1, h2⟩
  | cons r s ih =>
    rename_i v0 d0 L0 L1 σ0 A0
    cases i with
    | zero => exact ⟨L1, by simpa using Sls.skip s, List.sublist_append_right _ _⟩
    | succ i =>
      obtain ⟨L', h1, h2⟩ := ih (i := i)
      exact ⟨L0 ++ L', by simpa using Sls.cons r h1, List.Sublist.append_left h2 _⟩
/-- a slot that is told nothing of may hold anything -/
theorem Sls.any {i : Nat} {o : Option V} (s : Sls K G H σ A L) (e : A[i]? = some none ∨ A[i]? = none) : Sls K G H (σ.set i o) A L := by
  induction s generalizing i with
  | nil => simpa using Sls.nil
  | skip s ih =>
    cases i with
    | zero => simpa using Sls.skip s
    | succ i => simpa using Sls.skip (ih (i := i) (by simpa using e))
  | cons r s ih =>
    cases i with
    | zero => simp at e
    | succ i => simpa using Sls.cons r (ih (i := i) (by simpa using e))
/-- an untold slot is told -/
theorem Sls.put {i : Nat} {v : V} {d : D} {Li : List Addr} (s : Sls K G H σ A L) (e : A[i]? = some none) (ev : σ[i]? = some (some v)) (r : R K G H v d Li) : ∃ L', Sls K G H σ (A.set i (some d)) L' ∧ L'.Perm (Li ++ L) := by
  induction s generalizing i with
  | nil => simp at e
  | skip s ih =>
    cases i with
    | zero =>
      simp at ev; subst ev
      exact ⟨_, by simpa using Sls.cons r s, .refl _⟩
    | succ i =>
      obtain ⟨L', h1, h2⟩ := ih (i := i) (by simpa using e) (by simpa using ev)
      exact ⟨L', by simpa using Sls.skip h1, h2⟩
  | cons r0 s ih =>
    rename_i v0 d0 L0 L1 σ0 A0
    cases i with
    | zero => simp at e
    | succ i =>
      obtain ⟨L', h1, h2⟩ := ih (i := i) (by simpa using e) (by simpa using ev)
      refine ⟨L0 ++ L', by simpa using Sls.cons r0 h1, ?_⟩
      refine (List.Perm.append_left _ h2).trans ?_
      rw [← List.append_assoc, ← List.append_assoc]
      exact List.Perm.append_right _ List.perm_append_comm
/-! ### what a telling lets one do -/
/- no parts that are owned -/
mutual
def isF : D → Bool
  | .tup ds => isFs ds
  | .non => true | .bl _ => true | .int _ => true | .str _ => true | .ty _ => true | .lst _ => true | .fro _ => true
  | .mu _ => false | .fdi .. => false | .mdi .. => false | .al _ => false | .exc _ => false | .obj .. => false
def isFs : List D → Bool
  | [] => true
  | d :: ds => isF d && isFs ds
end
theorem isFs_all : ∀ ds : List D, isFs ds = ds.all isF
  | [] => by simp [isFs]
  | d :: ds => by simp [isFs, isFs_all ds]
mutual
theorem R.isF : ∀ {v : V} {d : D} {L : List Addr}, R K G H v d L → isF d = true → L = []
  | _, _, _, .non, _ => rfl
  | _, _, _, .bl b, _ => rfl
  | _, _, _, .int i, _ => rfl
  | _, _, _, .str x, _ => rfl
  | _, _, _, .ty x, _ => rfl
  | _, _, _, .tup q r, h => Rs.isFs r (by rw [Ab.isF] at h; exact h)
  | _, _, _, .lst q r, h => rfl
  | _, _, _, .fro q r, h => rfl
  | _, _, _, .mu e n r, h => by rw [Ab.isF] at h; cases h
theorem Rs.isFs : ∀ {vs : List V} {ds : List D} {L : List Addr}, Rs K G H vs ds L → isFs ds = true → L = []
  | _, _, _, .nil, _ => rfl
  | _, _, _, .cons r t, h => by
    rw [Ab.isFs, Bool.and_eq_true] at h
    rw [R.isF r h.1, Rs.isFs t h.2]; rfl
end
/-- not changed by the state: it is told of what is known alone -/
theorem R.free (eg : Same G G') {v : V} {d : D} (r : R K G H v d []) : R K G' H' v d [] := r.mono eg fun _ h => nomatch h
theorem Rs.free (eg : Same G G') {v : List V} {d : List D} (r : Rs K G H v d []) : Rs K G' H' v d [] := r.mono eg fun _ h => nomatch h
theorem Abs.drop {p : V × D} (h : Abs K B σ A (p :: ts) H) : Abs K B σ A ts H := by
  obtain ⟨G, L1, L2, gd, tm, sl, nd, ow⟩ := h
  cases tm with
  | cons r t =>
    rename_i La Lb
    refine ⟨G, Lb, L2, gd, t, sl, ?_, fun a ha => ow a ?_⟩
    · rw [List.append_assoc] at nd; exact (List.nodup_append.mp nd).2.1
    · rw [List.append_assoc]; exact List.mem_append_right _ ha
  | al e t => exact ⟨G, L1, L2, gd, t, sl, nd, ow⟩
theorem Abs.dropn {ps : Ts} (h : Abs K B σ A (ps ++ ts) H) : Abs K B σ A ts H := by
  induction ps with
  | nil => exact h
  | cons p ps ih => exact ih h.drop
/-- a value that is borne at every ground -/
theorem Abs.scal {v : V} {d : D} (h : Abs K B σ A ts H) (r : ∀ G, R K G H v d []) : Abs K B σ A ((v, d) :: ts) H := by
  obtain ⟨G, L1, L2, gd, tm, sl, nd, ow⟩ := h
  exact ⟨G, L1, L2, gd, by simpa using Tms.cons (r G) tm, sl, nd, ow⟩
/-- in another order -/
theorem Tms.perm {ts' : Ts} (p : ts.Perm ts') : ∀ {L : List Addr}, Tms K σ G H ts L → ∃ L', Tms K σ G H ts' L' ∧ L.Perm L' := by
  induction p with
  | nil => exact fun {L} t => ⟨L, t, .refl _⟩
  | cons x _ ih =>
    intro L t
    cases t with
    | cons r t =>
      obtain ⟨L', h1, h2⟩ := ih t
      exact ⟨_, .cons r h1, List.Perm.append_left _ h2⟩
    | al e t =>
      obtain ⟨L', h1, h2⟩ := ih t
      exact ⟨_, .al e h1, h2⟩
  | swap x y l =>
    intro L t
    cases t with
    | cons r t =>
      cases t with
      | cons r' t =>
        rename_i La _ Lb Lc
        refine ⟨_, .cons r' (.cons r t), ?_⟩
        rw [← List.append_assoc, ← List.append_assoc]
        exact List.Perm.append_right _ List.perm_append_comm
      | al e t => exact ⟨_, .al e (.cons r t), .refl _⟩
    | al e t =>
      cases t with
      | cons r' t => exact ⟨_, .cons r' (.al e t), .refl _⟩
      | al e' t => exact ⟨_, .al e' (.al e t), .refl _⟩
  | trans _ _ ih1 ih2 =>
    intro L t
    obtain ⟨L1, h1, p1⟩ := ih1 t
    obtain ⟨L2, h2, p2⟩ := ih2 h1
    exact ⟨L2, h2, p1.trans p2⟩
theorem nodup_perm {L L' : List Addr} (p : L.Perm L') (h : L.Nodup) : L'.Nodup := p.nodup_iff.mp h
theorem Abs.perm {ts' : Ts} (p : ts.Perm ts') (h : Abs K B σ A ts H) : Abs K B σ A ts' H := by
  obtain ⟨G, L1, L2, gd, tm, sl, nd, ow⟩ := h
  obtain ⟨L', tm', q⟩ := tm.perm p
  have qq : (L1 ++ L2).Perm (L' ++ L2) := List.Perm.append_right _ q
  exact ⟨G, L', L2, gd, tm', sl, nodup_perm qq nd, fun a ha => ow a (qq.mem_iff.mpr ha)⟩
/-- a value laid behind a step that changes nothing that stood -/
theorem step_core {v : V} {d : D} {H' : Hp} {L1 L2 : List Addr} (gd : Gd B G H) (tm : Tms K σ G H ts L1) (sl : Sls K G H σ A L2) (nd : (L1 ++ L2).Nodup) (ow : ∀ a ∈ L1 ++ L2, Own B a) (he : Same H H')
    (g1 : Same G G') (g2 : Same G' H') (g3 : ∀ a, H a ≠ none → G a = none → G' a = none) (r : R K G' H' v d L) (rn : L.Nodup) (rf : ∀ a ∈ L, H a = none) : Abs K B σ A ((v, d) :: ts) H' := by
  have old : ∀ a ∈ L1 ++ L2, G a = none ∧ H a ≠ none := fun a ha => (List.mem_append.mp ha).elim (tm.own a) (sl.own a)
  have keep : ∀ a ∈ L1 ++ L2, H' a = H a ∧ G' a = none := fun a ha => by
    obtain ⟨n1, n2⟩ := old a ha
    refine ⟨?_, g3 a n2 n1⟩
    cases q : H a with
    | none => exact absurd q n2
    | some o => exact he a o q
  have hn : ∀ a, H a = none → a ∉ B.ex → B.H a = none := fun a e hx => by
    cases q : B.H a with
    | none => rfl
    | some o => rw [gd.bh a o hx q] at e; cases e
  have dj : ∀ a ∈ L, a ∉ L1 ++ L2 := fun a ha hb => (old a hb).2 (rf a ha)
  refine ⟨G', L ++ L1, L2, ⟨g2, gd.bg.trans g1, fun a o hx e => he a o (gd.bh a o hx e), fun a hx e1 e2 => ?_, fun a ha => ?_⟩, .cons r (tm.mono g1 fun a ha => keep a (List.mem_append_left _ ha)), sl.mono g1 fun a ha => keep a (List.mem_append_right _ ha), ?_, fun a ha => ?_⟩
  · refine g3 a ?_ (gd.sep a hx e1 e2)
    cases q : B.H a with
    | none => exact absurd q e1
    | some o => rw [gd.bh a o hx q]; exact fun z => nomatch z
  · have := gd.alive a ha
    cases q : H a with
    | none => exact absurd q this
    | some o => rw [he a o q]; exact fun z => nomatch z
  · rw [List.append_assoc]
    exact List.nodup_append.mpr ⟨rn, nd, fun a ha b hb e => dj a ha (e ▸ hb)⟩
  · rw [List.append_assoc] at ha
    rcases List.mem_append.mp ha with m | m
    · by_cases hx : a ∈ B.ex
      · exact .inr hx
      · exact .inl (hn a (rf a m) hx)
    · exact ow a m
theorem Abs.step {v : V} {d : D} {H' : Hp} (h : Abs K B σ A ts H) (he : Same H H')
    (new : ∀ G, Same G H → ∃ G' L, Same G G' ∧ Same G' H' ∧ (∀ a, H a ≠ none → G a = none → G' a = none) ∧ R K G' H' v d L ∧ L.Nodup ∧ ∀ a ∈ L, H a = none) : Abs K B σ A ((v, d) :: ts) H' := by
  obtain ⟨G, L1, L2, gd, tm, sl, nd, ow⟩ := h
  obtain ⟨G', L, g1, g2, g3, r, rn, rf⟩ := new G gd.gh
  exact step_core gd tm sl nd ow he g1 g2 g3 r rn rf
/-- .. the value wants temporaries that it takes up -/
theorem Abs.same {H' : Hp} (h : Abs K B σ A ts H) (he : Same H H') : Abs K B σ A ts H' := by
  refine (h.step (v := .non) (d := .non) he fun G g => ⟨G, [], fun _ _ e => e, fun a o e => he a o (g a o e), fun _ _ e => e, .non, List.nodup_nil, fun _ z => nomatch z⟩).drop
theorem same_new {H : Hp} {p : Addr} {o : HO} (h : H p = none) : Same H (upd H p o) := fun b x e => by
  rw [upd_ne (ne_of_none e h)]; exact e
/-! ### freezing, packing, moving -/
/-- what is owned by L (of the ground's own) is known from now on -/
theorem Gd.grab {L1 : List Addr} (gd : Gd B G H) (h1 : ∀ a ∈ L1, G a = none ∧ H a ≠ none) (ow : ∀ a ∈ L1, Own B a) : Gd B (grab G H L1) H := by
  refine ⟨fun a o e => ?_, gd.bg.trans (grab_same fun a ha => (h1 a ha).1), gd.bh, fun a hx e1 e2 => ?_, gd.alive⟩
  · by_cases m : a ∈ L1
    · rw [grab_in m] at e; exact e
    · rw [grab_out m] at e; exact gd.gh a o e
  · have m : a ∉ L1 := fun m => (ow a m).elim e1 hx
    rw [grab_out m]; exact gd.sep a hx e1 e2
theorem grab_keep {L1 : List Addr} {a : Addr} (h : a ∉ L1) (n : G a = none) : grab G H L1 a = none := by rw [grab_out h]; exact n
/-- a temporary frozen -/
theorem Abs.fz {v : V} {d : D} (h : Abs K B σ A ((v, d) :: ts) H) (hd : ∀ i, d ≠ .al i) : Abs K B σ A ((v, Ab.fz d) :: ts) H := by
  obtain ⟨G, L1, L2, gd, tm, sl, nd, ow⟩ := h
  cases tm with
  | al e t => exact absurd rfl (hd _)
  | cons r t =>
    rename_i La Lb
    have oa : ∀ a ∈ La, G a = none ∧ H a ≠ none := r.own
    have g1 : Same G (grab G H La) := grab_same fun a ha => (oa a ha).1
    have ap : ∀ a ∈ Lb ++ L2, a ∉ La := fun a ha hb => by
      rw [List.append_assoc] at nd
      exact (List.nodup_append.mp nd).2.2 a hb a ha rfl
    have gd' := gd.grab oa fun a ha => ow a (List.mem_append_left _ (List.mem_append_left _ ha))
    refine ⟨grab G H La, Lb, L2, gd', ?_, sl.mono g1 fun a ha => ⟨rfl, grab_keep (ap a (List.mem_append_right _ ha)) (sl.own a ha).1⟩, ?_, fun a ha => ow a ?_⟩
    · have t' : Tms K σ (grab G H La) H ts Lb := t.mono g1 fun a ha => ⟨rfl, grab_keep (ap a (List.mem_append_left _ ha)) (t.own a ha).1⟩
      simpa using Tms.cons (r.fz g1 fun a ha => grab_in ha) t'
    · rw [List.append_assoc] at nd; exact (List.nodup_append.mp nd).2.1
    · rw [List.append_assoc]; exact List.mem_append_right _ ha
/-- what a slot owns is frozen -/
theorem Abs.frz {v : V} {d : D} {i : Nat} (h : Abs K B σ A ((v, .al i) :: ts) H) (e : A[i]? = some (some d)) : Abs K B σ (A.set i (some (Ab.fz d))) ((v, Ab.fz d) :: ts) H := by
  obtain ⟨G, L1, L2, gd, tm, sl, nd, ow⟩ := h
  cases tm with
  | cons r t => exact nomatch r
  | al e1 t =>
    obtain ⟨v', Li, L', e2, r, s2, p⟩ := sl.take e
    rw [e1] at e2; cases e2
    have oa : ∀ a ∈ Li, G a = none ∧ H a ≠ none := r.own
    have g1 : Same G (grab G H Li) := grab_same fun a ha => (oa a ha).1
    have pp : (L1 ++ L2).Perm (Li ++ (L1 ++ L')) := by
      refine (List.Perm.append_left _ p).trans ?_
      rw [← List.append_assoc, ← List.append_assoc]
      exact List.Perm.append_right _ List.perm_append_comm
    have nd' := nodup_perm pp nd
    have ap : ∀ a ∈ L1 ++ L', a ∉ Li := fun a ha hb => (List.nodup_append.mp nd').2.2 a hb a ha rfl
    have gd' := gd.grab oa fun a ha => ow a (pp.mem_iff.mpr (List.mem_append_left _ ha))
    have rf : R K (grab G H Li) H v (Ab.fz d) [] := r.fz g1 fun a ha => grab_in ha
    have s3 : Sls K (grab G H Li) H σ (A.set i none) L' := s2.mono g1 fun a ha => ⟨rfl, grab_keep (ap a (List.mem_append_right _ ha)) (s2.own a ha).1⟩
    have hi : i < A.length := (List.getElem?_eq_some_iff.mp e).1
    obtain ⟨L3, s4, p4⟩ := s3.put (i := i) (d := Ab.fz d) (by simp [hi]) e1 rf
    rw [List.set_set] at s4
    have t' : Tms K σ (grab G H Li) H ts L1 := t.mono g1 fun a ha => ⟨rfl, grab_keep (ap a (List.mem_append_left _ ha)) (t.own a ha).1⟩
    have p5 : (L1 ++ L3).Perm (L1 ++ L') := List.Perm.append_left _ (by simpa using p4)
    refine ⟨grab G H Li, L1, L3, gd', by simpa using Tms.cons rf t', s4, nodup_perm p5.symm (List.nodup_append.mp nd').2.1, fun a ha => ow a (pp.mem_iff.mpr (List.mem_append_right _ (p5.mem_iff.mp ha)))⟩
/-- what a slot owns is handed out -/
theorem Abs.move {v : V} {d : D} {i : Nat} (h : Abs K B σ A ((v, .al i) :: ts) H) (e : A[i]? = some (some d)) : Abs K B σ (A.set i none) ((v, d) :: ts) H := by
  obtain ⟨G, L1, L2, gd, tm, sl, nd, ow⟩ := h
  cases tm with
  | cons r t => exact nomatch r
  | al e1 t =>
    obtain ⟨v', Li, L', e2, r, s2, p⟩ := sl.take e
    rw [e1] at e2; cases e2
    have pp : (L1 ++ L2).Perm ((Li ++ L1) ++ L') := by
      refine (List.Perm.append_left _ p).trans ?_
      rw [← List.append_assoc]
      exact List.Perm.append_right _ List.perm_append_comm
    exact ⟨G, Li ++ L1, L', gd, .cons r t, s2, nodup_perm pp nd, fun a ha => ow a (pp.mem_iff.mpr ha)⟩
def noAl (ds : List D) : Bool := ds.all fun d => match d with | .al _ => false | _ => true
/-- the temporaries of an argument list -/
theorem Tms.split : ∀ {vs : List V} {ds : List D} {L : List Addr}, vs.length = ds.length → noAl ds = true → Tms K σ G H (vs.zip ds ++ ts) L → ∃ La Lb, Rs K G H vs ds La ∧ Tms K σ G H ts Lb ∧ L = La ++ Lb
  | [], [], L, _, _, t => ⟨[], L, .nil, t, rfl⟩
  | v :: vs, d :: ds, L, hl, hn, t => by
    have hn' : noAl ds = true := by
      unfold noAl at hn ⊢
      rw [List.all_cons, Bool.and_eq_true] at hn
      exact hn.2
    cases t with
    | cons r t =>
      obtain ⟨La, Lb, h1, h2, h3⟩ := Tms.split (by simpa using hl) hn' t
      exact ⟨_, Lb, .cons r h1, h2, by rw [h3, List.append_assoc]⟩
    | al e t =>
      unfold noAl at hn
      rw [List.all_cons, Bool.and_eq_true] at hn
      exact absurd hn.1 (fun z => nomatch z)
  | [], _ :: _, _, hl, _, _ => by simp at hl
  | _ :: _, [], _, hl, _, _ => by simp at hl
/-- a tuple is laid -/
theorem Abs.tup {vs : List V} {ds : List D} {p : Addr} (hl : vs.length = ds.length) (hn : noAl ds = true) (h : Abs K B σ A (vs.zip ds ++ ts) H) (hp : H p = none) : Abs K B σ A ((.ref p, .tup ds) :: ts) (upd H p (.tup vs)) := by
  obtain ⟨G, L1, L2, gd, tm, sl, nd, ow⟩ := h
  obtain ⟨La, Lb, rs, t, rfl⟩ := tm.split hl hn
  have gp : G p = none := by
    cases q : G p with
    | none => rfl
    | some o => rw [gd.gh p o q] at hp; cases hp
  have g1 : Same G (upd G p (.tup vs)) := same_new gp
  have neP : ∀ a, H a ≠ none → a ≠ p := fun a ha z => ha (z ▸ hp)
  have old : ∀ a ∈ (La ++ Lb) ++ L2, G a = none ∧ H a ≠ none := fun a ha => by
    rcases List.mem_append.mp ha with m | m
    · exact (List.mem_append.mp m).elim (rs.own a) (t.own a)
    · exact sl.own a m
  have keep : ∀ a ∈ (La ++ Lb) ++ L2, upd H p (.tup vs) a = H a ∧ upd G p (.tup vs) a = none := fun a ha => ⟨upd_ne (neP a (old a ha).2), by rw [upd_ne (neP a (old a ha).2)]; exact (old a ha).1⟩
  refine ⟨upd G p (.tup vs), La ++ Lb, L2, ⟨fun a o e => ?_, gd.bg.trans g1, fun a o hx e => same_new hp _ _ (gd.bh a o hx e), fun a hx e1 e2 => ?_, fun a ha => ?_⟩, .cons (.tup upd_same (rs.mono g1 fun a ha => keep a (by simp [ha]))) (t.mono g1 fun a ha => keep a (by simp [ha])), sl.mono g1 fun a ha => keep a (by simp [ha]), nd, ow⟩
  · by_cases m : a = p
    · subst m; rw [upd_same] at e ⊢; exact e
    · rw [upd_ne m] at e ⊢; exact gd.gh a o e
  · have : a ≠ p := neP a (by
      cases q : B.H a with
      | none => exact absurd q e1
      | some o => rw [gd.bh a o hx q]; exact fun z => nomatch z)
    rw [upd_ne this]; exact gd.sep a hx e1 e2
  · rw [upd_ne (neP a (gd.alive a ha))]; exact gd.alive a ha
/-- a list is laid -/
theorem Abs.lst {vs : List V} {ds : List D} {p : Addr} (hl : vs.length = ds.length) (hn : noAl ds = true) (h : Abs K B σ A (vs.zip ds ++ ts) H) (hp : H p = none) : Abs K B σ A ((.ref p, .mu ds) :: ts) (upd H p (.lst vs)) := by
  obtain ⟨G, L1, L2, gd, tm, sl, nd, ow⟩ := h
  obtain ⟨La, Lb, rs, t, rfl⟩ := tm.split hl hn
  have gp : G p = none := by
    cases q : G p with
    | none => rfl
    | some o => rw [gd.gh p o q] at hp; cases hp
  have neP : ∀ a, H a ≠ none → a ≠ p := fun a ha z => ha (z ▸ hp)
  have old : ∀ a ∈ (La ++ Lb) ++ L2, G a = none ∧ H a ≠ none := fun a ha => by
    rcases List.mem_append.mp ha with m | m
    · exact (List.mem_append.mp m).elim (rs.own a) (t.own a)
    · exact sl.own a m
  have keep : ∀ a ∈ (La ++ Lb) ++ L2, upd H p (.lst vs) a = H a ∧ G a = none := fun a ha => ⟨upd_ne (neP a (old a ha).2), (old a ha).1⟩
  have np : p ∉ (La ++ Lb) ++ L2 := fun m => (old p m).2 hp
  refine ⟨G, (p :: La) ++ Lb, L2, ⟨fun a o e => same_new hp _ _ (gd.gh a o e), gd.bg, fun a o hx e => same_new hp _ _ (gd.bh a o hx e), gd.sep, fun a ha => ?_⟩, .cons (.mu upd_same gp (rs.mono (fun _ _ e => e) fun a ha => keep a (by simp [ha]))) (t.mono (fun _ _ e => e) fun a ha => keep a (by simp [ha])), sl.mono (fun _ _ e => e) fun a ha => keep a (by simp [ha]), ?_, fun a ha => ?_⟩
  · rw [upd_ne (neP a (gd.alive a ha))]; exact gd.alive a ha
  · exact List.nodup_cons.mpr ⟨np, nd⟩
  · rcases List.mem_cons.mp ha with m | m
    · subst m
      by_cases hx : a ∈ B.ex
      · exact .inr hx
      · refine .inl ?_
        cases q : B.H a with
        | none => rfl
        | some o => rw [gd.bh a o hx q] at hp; cases hp
    · exact ow a m
/-- no temporary is an alias -/
def Cl (ts : Ts) : Prop := ∀ p ∈ ts, ∀ i, p.2 ≠ .al i
theorem Tms.any {σ' : L2.St} (c : Cl ts) (t : Tms K σ G H ts L) : Tms K σ' G H ts L := by
  induction t with
  | nil => exact .nil
  | cons r _ ih => exact .cons r (ih fun p hp => c p (List.mem_cons_of_mem _ hp))
  | al e _ ih => exact absurd rfl (c _ List.mem_cons_self _)
theorem Sls.set {i : Nat} {v : V} {d : D} {Li : List Addr} (s : Sls K G H σ A L) (hi : i < A.length) (r : R K G H v d Li) : ∃ L', Sls K G H (σ.set i (some v)) (A.set i (some d)) L' ∧ ∃ L0, L0.Sublist L ∧ L'.Perm (Li ++ L0) := by
  obtain ⟨L0, s1, h1⟩ := s.drop (i := i)
  have s2 := s1.any (i := i) (o := some v) (.inl (by simp [hi]))
  obtain ⟨L', s3, h3⟩ := s2.put (i := i) (d := d) (by simp [hi]) (by rw [List.getElem?_set_self (by rw [s.len]; exact hi)]) r
  rw [List.set_set] at s3
  exact ⟨L', s3, L0, h1, h3⟩
/-- a temporary goes to a slot -/
theorem Abs.set {i : Nat} {v : V} {d : D} (h : Abs K B σ A ((v, d) :: ts) H) (hd : ∀ j, d ≠ .al j) (c : Cl ts) : Abs K B (σ.set i (some v)) (A.set i (some d)) ts H := by
  obtain ⟨G, L1, L2, gd, tm, sl, nd, ow⟩ := h
  cases tm with
  | al e t => exact absurd rfl (hd _)
  | cons r t =>
    rename_i La Lb
    by_cases hi : i < A.length
    · obtain ⟨L', s', L0, sub, p⟩ := sl.set hi r
      have pp : (Lb ++ L').Perm (La ++ (Lb ++ L0)) := by
        refine (List.Perm.append_left _ p).trans ?_
        rw [← List.append_assoc, ← List.append_assoc]
        exact List.Perm.append_right _ List.perm_append_comm
      have sb : (La ++ (Lb ++ L0)).Sublist ((La ++ Lb) ++ L2) := by
        rw [List.append_assoc]
        exact List.Sublist.append_left (List.Sublist.append_left sub _) _
      exact ⟨G, Lb, L', gd, t.any c, s', nodup_perm pp.symm (sb.nodup nd), fun a ha => ow a (sb.subset (pp.mem_iff.mp ha))⟩
    · have hs : σ.set i (some v) = σ := List.set_eq_of_length_le (by rw [sl.len]; omega)
      have hA : A.set i (some d) = A := List.set_eq_of_length_le (by omega)
      rw [hs, hA]
      refine ⟨G, Lb, L2, gd, t, sl, ?_, fun a ha => ow a ?_⟩
      · rw [List.append_assoc] at nd; exact (List.nodup_append.mp nd).2.1
      · rw [List.append_assoc]; exact List.mem_append_right _ ha
/-- a slot's telling forgotten -/
theorem Abs.forget {i : Nat} (h : Abs K B σ A ts H) : Abs K B σ (A.set i none) ts H := by
  obtain ⟨G, L1, L2, gd, tm, sl, nd, ow⟩ := h
  obtain ⟨L', s, sub⟩ := sl.drop (i := i)
  have sb : (L1 ++ L').Sublist (L1 ++ L2) := List.Sublist.append_left sub _
  exact ⟨G, L1, L', gd, tm, s, sb.nodup nd, fun a ha => ow a (sb.subset ha)⟩
end
end Ab
end
section
namespace Ab
open PySem PySem.Spec PyProof.Rows L2

/-! ### the judgements over what is told -/
structure Z where
  K : PySem.W.Frag
  B : Bs
  cl : Str → Value
  W : WX
abbrev Z.A (z : Z) := Abs z.K z.B
section
variable (z : Z)
def pE (o : Ou D) (σ : L2.St) (ts : Ts) (Q : VK) : Prop := match o with
  | .ok d A' => ∀ v H', z.A σ A' ((v, d) :: ts) H' → Q v H'
  | .exc c A' => ∀ H', z.A σ A' ts H' → z.W (z.cl c) none σ H'
  | .stuck => False
def tE (f : FE) : TE := fun σ H Q => ∃ A ts, z.A σ A ts H ∧ pE z (f A) σ ts Q
def pT (o : Ou Bool) (σ : L2.St) (ts : Ts) (Q : Bool → Hp → Prop) : Prop := match o with
  | .ok b A' => ∀ H', z.A σ A' ts H' → Q b H'
  | .exc c A' => ∀ H', z.A σ A' ts H' → z.W (z.cl c) none σ H'
  | .stuck => False
def tT (f : FT) : TT := fun σ H Q => ∃ A ts, z.A σ A ts H ∧ pT z (f A) σ ts Q
def pA (o : Ou (List D)) (σ : L2.St) (ts : Ts) (Q : List V → Hp → Prop) : Prop := match o with
  | .ok ds A' => ∀ vs H', vs.length = ds.length → z.A σ A' (vs.zip ds ++ ts) H' → Q vs H'
  | .exc c A' => ∀ H', z.A σ A' ts H' → z.W (z.cl c) none σ H'
  | .stuck => False
def tA (f : FA) : L2.TA := fun σ H Q => ∃ A ts, z.A σ A ts H ∧ pA z (f A) σ ts Q
end

section
variable {X : Cx} {e : Expr} {es : List Expr}
theorem PE.imp {t t' : TE} (h : PE X e t) (hi : ∀ σ H Q, t' σ H Q → t σ H Q) : PE X e t' := ⟨fun pins s σ H Q I w => h.run pins s σ H Q I (hi σ H Q w)⟩
theorem PT.imp {t t' : TT} (h : PT X e t) (hi : ∀ σ H Q, t' σ H Q → t σ H Q) : PT X e t' := ⟨fun pins s σ H Q I w => h.run pins s σ H Q I (hi σ H Q w)⟩
theorem PA.imp {t t' : L2.TA} (h : PA X es t) (hi : ∀ σ H Q, t' σ H Q → t σ H Q) : PA X es t' := ⟨fun pos pins s σ H Q I w => h.run pos pins s σ H Q I (hi σ H Q w)⟩
theorem PS.imp {st : Stmt} {t t' : TS} (h : PS X st t) (hi : ∀ D σ H, t' D σ H → t D σ H) : PS X st t' := ⟨fun pins s σ H D I w => h.run pins s σ H D I (hi D σ H w)⟩
theorem PSs.imp {st : List Stmt} {t t' : TS} (h : PSs X st t) (hi : ∀ D σ H, t' D σ H → t D σ H) : PSs X st t' := ⟨fun pins s σ H D I w => h.run pins s σ H D I (hi D σ H w)⟩
end

/-! ### looking at what is told -/
def see (A : Sl) : D → D
  | .al i => match A[i]? with
    | some (some (.al _)) => .al 0
    | some (some d) => d
    | _ => .al 0
  | d => d
@[simp] theorem see_al {A : Sl} {i : Nat} {ds : List D} (h : A[i]? = some (some (.mu ds))) : see A (.al i) = .mu ds := by simp [see, h]
section
variable {K : PySem.W.Frag} {B : Bs} {G G' H H' : Hp} {σ : L2.St} {A : Sl} {ts : Ts} {L : List Addr} {v u : V} {d e : D}
theorem R.not_al {i : Nat} (r : R K G H v (.al i) L) : False := nomatch r
theorem R.see (r : R K G H v d L) : see A d = d := by cases r <;> rfl
theorem Tms.look (t : Tms K σ G H ((v, d) :: ts) L) {L2 : List Addr} (s : Sls K G H σ A L2) (hn : ∀ j, see A d ≠ .al j) : ∃ L', R K G H v (see A d) L' := by
  cases t with
  | cons r t => exact ⟨_, by rw [r.see]; exact r⟩
  | al e t =>
    rename_i i
    have key : ∃ d', A[i]? = some (some d') ∧ Ab.see A (.al i) = d' := by
      have e0 : Ab.see A (.al i) = (match A[i]? with | some (some (.al _)) => D.al 0 | some (some d) => d | _ => .al 0) := rfl
      cases q : A[i]? with
      | none => rw [e0, q] at hn; exact absurd rfl (hn 0)
      | some o =>
        cases o with
        | none => rw [e0, q] at hn; exact absurd rfl (hn 0)
        | some d' =>
          refine ⟨d', rfl, ?_⟩
          rw [e0, q] at hn ⊢
          cases d' <;> first | rfl | exact absurd rfl (hn 0)
    obtain ⟨d', h1, h2⟩ := key
    obtain ⟨v', Li, L', e1, r, _, _⟩ := s.take h1
    rw [e] at e1
    cases e1
    exact ⟨Li, by rw [h2]; exact r⟩
/-- one value looked at; what is known of it may be told on -/
theorem Abs.look (h : Abs K B σ A ((v, d) :: ts) H) (hn : ∀ j, see A d ≠ .al j) : ∃ G L, Same G H ∧ R K G H v (see A d) L ∧ ∀ w e, R K G H w e [] → Abs K B σ A ((w, e) :: ts) H := by
  obtain ⟨G, L1, L2, gd, tm, sl, nd, ow⟩ := id h
  obtain ⟨L', r⟩ := tm.look sl hn
  refine ⟨G, L', gd.gh, r, fun w e re => ?_⟩
  cases tm with
  | cons r t =>
    rename_i La Lb
    refine ⟨G, Lb, L2, gd, by simpa using Tms.cons re t, sl, ?_, fun a ha => ow a ?_⟩
    · rw [List.append_assoc] at nd; exact (List.nodup_append.mp nd).2.1
    · rw [List.append_assoc]; exact List.mem_append_right _ ha
  | al e' t => exact ⟨G, L1, L2, gd, by simpa using Tms.cons re t, sl, nd, ow⟩
/-- two values -/
theorem Abs.look2 (h : Abs K B σ A ((u, e) :: (v, d) :: ts) H) (h1 : ∀ j, see A e ≠ .al j) (h2 : ∀ j, see A d ≠ .al j) :
    ∃ G L L', Same G H ∧ R K G H u (see A e) L ∧ R K G H v (see A d) L' ∧ ∀ w e, R K G H w e [] → Abs K B σ A ((w, e) :: ts) H := by
  obtain ⟨G, L1, L2, gd, tm, sl, nd, ow⟩ := id h
  obtain ⟨L, r⟩ := tm.look sl h1
  have tm2 : ∃ M, Tms K σ G H ((v, d) :: ts) M ∧ M.Sublist L1 := by
    cases tm with
    | cons r t => exact ⟨_, t, List.sublist_append_right _ _⟩
    | al e t => exact ⟨_, t, .refl _⟩
  obtain ⟨M, tm2, sM⟩ := tm2
  obtain ⟨L', r'⟩ := tm2.look sl h2
  refine ⟨G, L, L', gd.gh, r, r', fun w e re => ?_⟩
  have tm3 : ∃ M', Tms K σ G H ts M' ∧ M'.Sublist M := by
    cases tm2 with
    | cons r t => exact ⟨_, t, List.sublist_append_right _ _⟩
    | al e t => exact ⟨_, t, .refl _⟩
  obtain ⟨M', tm3, sM'⟩ := tm3
  have sub : (M' ++ L2).Sublist (L1 ++ L2) := List.Sublist.append_right (sM'.trans sM) _
  exact ⟨G, M', L2, gd, by simpa using Tms.cons re tm3, sl, sub.nodup nd, fun a ha => ow a (sub.subset ha)⟩
theorem Abs.int {i : Int} (h : Abs K B σ A ((v, .int i) :: ts) H) : v = .int i := by
  obtain ⟨G, L, _, r, _⟩ := h.look (by intro j z; cases z)
  cases r; rfl
theorem Abs.bl {i : Bool} (h : Abs K B σ A ((v, .bl i) :: ts) H) : v = .bl i := by
  obtain ⟨G, L, _, r, _⟩ := h.look (by intro j z; cases z)
  cases r; rfl
theorem Abs.str {i : Str} (h : Abs K B σ A ((v, .str i) :: ts) H) : v = .str i := by
  obtain ⟨G, L, _, r, _⟩ := h.look (by intro j z; cases z)
  cases r; rfl
theorem Abs.non (h : Abs K B σ A ((v, .non) :: ts) H) : v = .non := by
  obtain ⟨G, L, _, r, _⟩ := h.look (by intro j z; cases z)
  cases r; rfl
/-- scalars -/
theorem Abs.pint (h : Abs K B σ A ts H) (i : Int) : Abs K B σ A ((.int i, .int i) :: ts) H := h.scal fun _ => .int i
theorem Abs.pbl (h : Abs K B σ A ts H) (i : Bool) : Abs K B σ A ((.bl i, .bl i) :: ts) H := h.scal fun _ => .bl i
theorem Abs.pstr (h : Abs K B σ A ts H) (i : Str) : Abs K B σ A ((.str i, .str i) :: ts) H := h.scal fun _ => .str i
theorem Abs.pnon (h : Abs K B σ A ts H) : Abs K B σ A ((.non, .non) :: ts) H := h.scal fun _ => .non

/-! ### names and constants -/
def fVar (i : Nat) : FE := fun A => match A[i]? with
  | some (some d) => if isF d = true then .ok d A else .ok (.al i) A
  | _ => .stuck
theorem Abs.var {i : Nat} (h : Abs K B σ A ts H) (e : A[i]? = some (some d)) : ∃ v, σ[i]? = some (some v) ∧ Abs K B σ A ((v, if isF d = true then d else .al i) :: ts) H := by
  obtain ⟨G, L1, L2, gd, tm, sl, nd, ow⟩ := h
  obtain ⟨v, Li, L', e1, r, s2, p⟩ := sl.take e
  refine ⟨v, e1, ?_⟩
  by_cases hf : isF d = true
  · rw [if_pos hf]
    rw [r.isF hf] at r
    exact ⟨G, L1, L2, gd, by simpa using Tms.cons r tm, sl, nd, ow⟩
  · rw [if_neg hf]
    exact ⟨G, L1, L2, gd, .al e1 tm, sl, nd, ow⟩
end

section
variable {z : Z} {X : Cx}
theorem qe_var {i : Nat} {x : Str} {pos : Pos} (h : PE X (.Name x pos) (tVar i)) : PE X (.Name x pos) (tE z (fVar i)) := by
  refine PE.imp h fun σ H Q ⟨A, ts, ha, hp⟩ => ?_
  unfold fVar at hp
  split at hp
  · rename_i d e
    obtain ⟨v, e1, h1⟩ := ha.var e
    refine ⟨v, e1, ?_⟩
    split at hp <;> rename_i hf
    · rw [if_pos hf] at h1; exact hp v H h1
    · rw [if_neg hf] at h1; exact hp v H h1
  · exact hp.elim
def fC (d : D) : FE := fun A => .ok d A
theorem qe_int {i j pos} : PE X (.Constant (.int i) j pos) (tE z (fC (.int i))) := PE.imp pe_int fun σ H Q ⟨A, ts, ha, hp⟩ => hp _ _ (ha.pint i)
theorem qe_str {i j pos} : PE X (.Constant (.str i) j pos) (tE z (fC (.str i))) := PE.imp pe_str fun σ H Q ⟨A, ts, ha, hp⟩ => hp _ _ (ha.pstr i)
theorem qe_bl {i j pos} : PE X (.Constant (.bool i) j pos) (tE z (fC (.bl i))) := PE.imp pe_bl fun σ H Q ⟨A, ts, ha, hp⟩ => hp _ _ (ha.pbl i)
theorem qe_non {j pos} : PE X (.Constant .none j pos) (tE z (fC .non)) := PE.imp pe_non fun σ H Q ⟨A, ts, ha, hp⟩ => hp _ _ ha.pnon
/-- a built-in class by its name -/
theorem qe_ty {x : Str} {n : String} {pos : Pos} (h : PE X (.Name x pos) (tC (.ty n))) : PE X (.Name x pos) (tE z (fC (.ty n))) := PE.imp h fun σ H Q ⟨A, ts, ha, hp⟩ => hp _ _ (ha.scal fun _ => .ty n)
/-- a module's constant -/
theorem qe_gint {x : Str} {i : Int} {pos : Pos} (h : PE X (.Name x pos) (tC (.int i))) : PE X (.Name x pos) (tE z (fC (.int i))) := PE.imp h fun σ H Q ⟨A, ts, ha, hp⟩ => hp _ _ (ha.pint i)
theorem qe_gstr {x : Str} {i : Str} {pos : Pos} (h : PE X (.Name x pos) (tC (.str i))) : PE X (.Name x pos) (tE z (fC (.str i))) := PE.imp h fun σ H Q ⟨A, ts, ha, hp⟩ => hp _ _ (ha.pstr i)

/-! ### operators -/
def fBin (g : D → D → Sl → Option D) (fa fb : FE) : FE := fun A => (fa A).bind fun d A1 => (fb A1).bind fun e A2 => match g d e A2 with
  | some r => .ok r A2
  | none => .stuck
/-- the operation r on values does what g tells -/
def OpD (z : Z) (r : R2) (g : D → D → Sl → Option D) : Prop :=
  ∀ (σ : L2.St) (A : Sl) (ts : Ts) (H : Hp) (v u : V) (d e d' : D), z.A σ A ((u, e) :: (v, d) :: ts) H → g d e A = some d' → ∀ Q : VK, (∀ w H', z.A σ A ((w, d') :: ts) H' → Q w H') → r v u H Q
theorem bin_go {r : R2} {g : D → D → Sl → Option D} {fa fb : FE} (hd : OpD z r g) {σ : L2.St} {H : Hp} {Q : VK} (h : tE z (fBin g fa fb) σ H Q) : tOp r (tE z fa) (tE z fb) σ H Q := by
  obtain ⟨A, ts, ha, hp⟩ := h
  refine ⟨A, ts, ha, ?_⟩
  unfold fBin at hp
  cases ea : fa A with
  | stuck => rw [ea] at hp; exact hp.elim
  | exc c A1 => rw [ea] at hp; exact hp
  | ok d A1 =>
    rw [ea] at hp
    simp only [Ou.bind_ok] at hp
    intro v H1 h1
    refine ⟨A1, (v, d) :: ts, h1, ?_⟩
    cases eb : fb A1 with
    | stuck => rw [eb] at hp; exact hp.elim
    | exc c A2 =>
      rw [eb] at hp
      exact fun H' h' => hp H' h'.drop
    | ok e A2 =>
      rw [eb] at hp
      simp only [Ou.bind_ok] at hp
      intro u H2 h2
      cases eg : g d e A2 with
      | none => rw [eg] at hp; exact hp.elim
      | some d' =>
        rw [eg] at hp
        exact hd σ A2 ts H2 v u d e d' h2 eg Q hp
theorem qe_bin {op : Operator} {a b : Expr} {pos : Pos} {r : R2} {g : D → D → Sl → Option D} {fa fb : FE} (ho : OpR X (binaryOp op) r) (hd : OpD z r g) (ha : PE X a (tE z fa)) (hb : PE X b (tE z fb)) : PE X (.BinOp a op b pos) (tE z (fBin g fa fb)) :=
  PE.imp (pe_op ho ha hb) fun _ _ _ h => bin_go hd h
theorem qe_cmp {op : CmpOp} {a b : Expr} {pos : Pos} {r : R2} {g : D → D → Sl → Option D} {fa fb : FE} (ho : OpR X (compareOp op) r) (hd : OpD z r g) (ha : PE X a (tE z fa)) (hb : PE X b (tE z fb)) (hm : behindInMarks op b = false) : PE X (.Compare a [op] [b] pos) (tE z (fBin g fa fb)) :=
  PE.imp (pe_cmpR ho ha hb hm) fun _ _ _ h => bin_go hd h
theorem qe_ix {a b : Expr} {pos : Pos} {r : R2} {g : D → D → Sl → Option D} {fa fb : FE} (ho : IxR X r) (hd : OpD z r g) (ha : PE X a (tE z fa)) (hb : PE X b (tE z fb)) (hs : PlainIx b) : PE X (.Subscript a b pos) (tE z (fBin g fa fb)) :=
  PE.imp (pe_ix ho ha hb hs) fun _ _ _ h => bin_go hd h
def fUn (g : D → Sl → Option D) (fa : FE) : FE := fun A => (fa A).bind fun d A1 => match g d A1 with
  | some r => .ok r A1
  | none => .stuck
def gNeg : D → Sl → Option D
  | .int i, _ => some (.int (-i))
  | _, _ => none
theorem qe_neg {a : Expr} {pos : Pos} {fa : FE} (ha : PE X a (tE z fa)) : PE X (.UnaryOp .USub a pos) (tE z (fUn gNeg fa)) := by
  refine PE.imp (pe_un un_neg ha) fun σ H Q ⟨A, ts, hA, hp⟩ => ⟨A, ts, hA, ?_⟩
  unfold fUn at hp
  cases ea : fa A with
  | stuck => rw [ea] at hp; exact hp.elim
  | exc c A1 => rw [ea] at hp; exact hp
  | ok d A1 =>
    rw [ea] at hp
    simp only [Ou.bind_ok] at hp
    intro v H1 h1
    cases d <;> simp only [gNeg] at hp <;> try exact hp.elim
    rename_i i
    exact ⟨i, h1.int, hp _ _ (h1.drop.pint _)⟩

/-! ### ints -/
def g2I (C : Int → Int → Bool) (g : Int → Int → D) : D → D → Sl → Option D
  | .int i, .int j, _ => if C i j = true then some (g i j) else none
  | _, _, _ => none
theorem g2I_some {C : Int → Int → Bool} {g : Int → Int → D} {d e : D} {A : Sl} {d' : D} (h : g2I C g d e A = some d') : ∃ i j, d = .int i ∧ e = .int j ∧ C i j = true ∧ d' = g i j := by
  unfold g2I at h
  split at h
  · rename_i i j
    by_cases hc : C i j = true
    · rw [if_pos hc] at h; cases h; exact ⟨i, j, rfl, rfl, hc, rfl⟩
    · rw [if_neg hc] at h; cases h
  · cases h
theorem opd_I {P : Int → Int → Prop} {C : Int → Int → Bool} {g : Int → Int → Int} (hC : ∀ i j, C i j = true → P i j) : OpD z (rI P fun i j => .int (g i j)) (g2I C fun i j => .int (g i j)) := by
  intro σ A ts H v u d e d' h hg Q q
  obtain ⟨i, j, rfl, rfl, hc, rfl⟩ := g2I_some hg
  exact ⟨i, j, h.drop.int, h.int, hC i j hc, q _ _ (h.drop.drop.pint _)⟩
theorem opd_I0 {C : Int → Int → Bool} {g : Int → Int → Int} : OpD z (rI0 fun i j => .int (g i j)) (g2I C fun i j => .int (g i j)) := by
  intro σ A ts H v u d e d' h hg Q q
  obtain ⟨i, j, rfl, rfl, hc, rfl⟩ := g2I_some hg
  exact ⟨i, j, h.drop.int, h.int, q _ _ (h.drop.drop.pint _)⟩
theorem opd_B0 {C : Int → Int → Bool} {g : Int → Int → Bool} : OpD z (rI0 fun i j => .bl (g i j)) (g2I C fun i j => .bl (g i j)) := by
  intro σ A ts H v u d e d' h hg Q q
  obtain ⟨i, j, rfl, rfl, hc, rfl⟩ := g2I_some hg
  exact ⟨i, j, h.drop.int, h.int, q _ _ (h.drop.drop.pbl _)⟩
def yes2 : Int → Int → Bool := fun _ _ => true
def cMul : Int → Int → Bool := fun i j => decide (i.natAbs < 2 ^ 64) || decide (j.natAbs < 2 ^ 64)
def cDiv : Int → Int → Bool := fun i j => decide (0 < j) && decide (j.natAbs < 2 ^ 400)
def cMod : Int → Int → Bool := fun i j => decide (0 < j)
def cPow : Int → Int → Bool := fun i j => decide (0 ≤ j) && decide (j ≤ 1000000) && decide (i.natAbs < 2 ^ 64)
def gMinus := g2I yes2 fun i j => .int (i - j)
def gMul := g2I cMul fun i j => .int (i * j)
def gDiv := g2I cDiv fun i j => .int (i / j)
def gMod := g2I cMod fun i j => .int (i % j)
def gPow := g2I cPow fun i j => .int (i ^ j.toNat)
def gLt := g2I yes2 fun i j => .bl (decide (i < j))
def gLe := g2I yes2 fun i j => .bl (decide (i ≤ j))
def gGt := g2I yes2 fun i j => .bl (decide (j < i))
def gGe := g2I yes2 fun i j => .bl (decide (j ≤ i))
theorem opd_sub : OpD z (rI0 fun i j => .int (i - j)) gMinus := opd_I0
theorem opd_mul : OpD z (rI CMul fun i j => .int (i * j)) gMul := opd_I fun i j h => by
  unfold cMul at h
  rw [Bool.or_eq_true, decide_eq_true_iff, decide_eq_true_iff] at h
  rcases h with h | h
  · exact .inl (by omega)
  · exact .inr (by omega)
theorem opd_div : OpD z (rI CDivW fun i j => .int (i / j)) gDiv := opd_I fun i j h => by
  unfold cDiv at h
  rw [Bool.and_eq_true, decide_eq_true_iff, decide_eq_true_iff] at h
  exact wide_div h.1 h.2 (by decide) (by decide)
theorem opd_mod : OpD z (rI (fun _ j => 0 < j) fun i j => .int (i % j)) gMod := opd_I fun i j h => of_decide_eq_true h
theorem opd_pow : OpD z (rI CPow fun i j => .int (i ^ j.toNat)) gPow := opd_I fun i j h => by
  unfold cPow at h
  simp only [Bool.and_eq_true, decide_eq_true_iff] at h
  exact ⟨h.1.1, h.1.2, h.2⟩
theorem opd_lt : OpD z (rI0 fun i j => .bl (decide (i < j))) gLt := opd_B0
theorem opd_le : OpD z (rI0 fun i j => .bl (decide (i ≤ j))) gLe := opd_B0
theorem opd_gt : OpD z (rI0 fun i j => .bl (decide (j < i))) gGt := opd_B0
theorem opd_ge : OpD z (rI0 fun i j => .bl (decide (j ≤ i))) gGe := opd_B0

/-! ### == of data -/
mutual
def dat : D → PyData
  | .non => .none | .bl b => .bool b | .int i => .int i | .str x => .str x
  | .tup ds => .tuple (dats ds) | .lst ds => .list (dats ds) | .mu ds => .list (dats ds) | .fro ds => .list (dats ds)
  | .fdi .. => .dict [] | .mdi .. => .dict [] | .al _ => .dict [] | .exc _ => .dict [] | .obj .. => .dict [] | .ty _ => .dict []
def dats : List D → List PyData
  | [] => []
  | d :: ds => dat d :: dats ds
end
theorem dats_map : ∀ ds : List D, dats ds = ds.map dat
  | [] => by simp [dats]
  | d :: ds => by simp [dats, dats_map ds]
def okD (d : D) : Bool := SeqAt.shaped (dat d)
section
variable {K : PySem.W.Frag} {G H : Hp}
mutual
theorem R.dp (g : Same G H) : ∀ {v : V} {d : D} {L : List Addr}, R K G H v d L → (dat d).canLay0 = true → Dp K H v (dat d)
  | _, _, _, .non, _ => by rw [dat]; exact .non
  | _, _, _, .bl b, _ => by rw [dat]; exact .bl b
  | _, _, _, .int i, _ => by rw [dat]; exact .int i
  | _, _, _, .str x, _ => by rw [dat]; exact .str x
  | _, _, _, .ty x, h => by rw [dat] at h; simp [PyData.canLay0] at h
  | _, _, _, .tup q r, h => by rw [dat]; exact .tup (.inl (.inl (g _ _ q))) (Rs.dp g r (by rw [dat] at h; simpa [PyData.canLay0] using h))
  | _, _, _, .lst q r, h => by rw [dat]; exact .lst (.inl (.inl (g _ _ q))) (Rs.dp g r (by rw [dat] at h; simpa [PyData.canLay0] using h))
  | _, _, _, .fro q r, h => by rw [dat]; exact .lst (sq_l g q) (Rs.dp g r (by rw [dat] at h; simpa [PyData.canLay0] using h))
  | _, _, _, .mu e n r, h => by rw [dat]; exact .lst (.inl (.inl e)) (Rs.dp g r (by rw [dat] at h; simpa [PyData.canLay0] using h))
theorem Rs.dp (g : Same G H) : ∀ {v : List V} {d : List D} {L : List Addr}, Rs K G H v d L → PyData.canLayAll0 (dats d) = true → DpAll K H v (dats d)
  | _, _, _, .nil, _ => by rw [dats]; exact .nil
  | _, _, _, .cons r t, h => by
    rw [dats, PyData.canLayAll0, Bool.and_eq_true] at h
    rw [dats]
    exact .cons (R.dp g r h.1) (Rs.dp g t h.2)
end
theorem okD_lay {d : D} (h : okD d = true) : (dat d).canLay0 = true := SeqAt.canLay_of_shaped h
theorem okD_al {A : Sl} {d : D} (h : okD (see A d) = true) : ∀ j, see A d ≠ .al j := fun j e => by
  rw [e] at h
  have := okD_lay h
  rw [dat] at this
  simp [PyData.canLay0] at this
end
def gEq (d e : D) (A : Sl) : Option D := if (okD (see A d) && okD (see A e)) = true then some (.bl (PyData.eqv (dat (see A d)) (dat (see A e)))) else none
def gNe (d e : D) (A : Sl) : Option D := if (okD (see A d) && okD (see A e)) = true then some (.bl (!PyData.eqv (dat (see A d)) (dat (see A e)))) else none
theorem opd_eq : OpD z (rEqD z.K) gEq := by
  intro σ A ts H v u d e d' h hg Q q
  unfold gEq at hg
  by_cases hk : (okD (see A d) && okD (see A e)) = true
  · rw [if_pos hk] at hg
    cases hg
    rw [Bool.and_eq_true] at hk
    obtain ⟨G, L, L', gh, r1, r2, _⟩ := h.look2 (okD_al hk.2) (okD_al hk.1)
    exact ⟨_, _, r2.dp gh (okD_lay hk.1), r1.dp gh (okD_lay hk.2), hk.1, hk.2, q _ _ (h.drop.drop.pbl _)⟩
  · rw [if_neg hk] at hg; cases hg
theorem opd_ne : OpD z (rNeD z.K) gNe := by
  intro σ A ts H v u d e d' h hg Q q
  unfold gNe at hg
  by_cases hk : (okD (see A d) && okD (see A e)) = true
  · rw [if_pos hk] at hg
    cases hg
    rw [Bool.and_eq_true] at hk
    obtain ⟨G, L, L', gh, r1, r2, _⟩ := h.look2 (okD_al hk.2) (okD_al hk.1)
    exact ⟨_, _, r2.dp gh (okD_lay hk.1), r1.dp gh (okD_lay hk.2), hk.1, hk.2, q _ _ (h.drop.drop.pbl _)⟩
  · rw [if_neg hk] at hg; cases hg
/-- x is None, of data that is no own object -/
def gIsN (d e : D) (A : Sl) : Option D := match e with
  | .non => match see A d with
    | .non => some (.bl true)
    | .al _ => none
    | _ => some (.bl false)
  | _ => none
def gNotN (d e : D) (A : Sl) : Option D := match e with
  | .non => match see A d with
    | .non => some (.bl false)
    | .al _ => none
    | _ => some (.bl true)
  | _ => none
theorem opd_isN : OpD z (fun x y H Q => y = .non ∧ Q (.bl (decide (x = .non))) H) gIsN := by
  intro σ A ts H v u d e d' h hg Q q
  unfold gIsN at hg
  split at hg
  · refine ⟨h.non, ?_⟩
    have hn : ∀ j, see A d ≠ .al j := fun j z => by rw [z] at hg; cases hg
    obtain ⟨G, L, gh, r, _⟩ := h.drop.look hn
    have key : d' = .bl (decide (v = .non)) := by
      revert hg
      generalize see A d = dd at r hn
      cases r <;> intro hg <;> simp_all
    rw [key] at q
    exact q _ _ (h.drop.drop.pbl _)
  · cases hg
theorem opd_notN : OpD z (fun x y H Q => y = .non ∧ Q (.bl (!decide (x = .non))) H) gNotN := by
  intro σ A ts H v u d e d' h hg Q q
  unfold gNotN at hg
  split at hg
  · refine ⟨h.non, ?_⟩
    have hn : ∀ j, see A d ≠ .al j := fun j z => by rw [z] at hg; cases hg
    obtain ⟨G, L, gh, r, _⟩ := h.drop.look hn
    have key : d' = .bl (!decide (v = .non)) := by
      revert hg
      generalize see A d = dd at r hn
      cases r <;> intro hg <;> simp_all
    rw [key] at q
    exact q _ _ (h.drop.drop.pbl _)
  · cases hg

/-! ### lists and tuples that are read -/
def lsOf : D → Option (List D)
  | .lst ds => some ds | .mu ds => some ds | .fro ds => some ds
  | _ => none
def sqOf : D → Option (List D)
  | .lst ds => some ds | .mu ds => some ds | .fro ds => some ds | .tup ds => some ds
  | _ => none
section
variable {K : PySem.W.Frag} {G H : Hp} {v : V} {d : D} {L : List Addr} {ds : List D} {A : Sl}
theorem R.list (g : Same G H) (r : R K G H v d L) (h : lsOf d = some ds) : ∃ a xs L', v = .ref a ∧ SqL K H a xs ∧ Rs K G H xs ds L' := by
  cases r <;> simp only [lsOf] at h <;> try cases h
  · rename_i q r; exact ⟨_, _, _, rfl, .inl (.inl (g _ _ q)), r⟩
  · rename_i q r; exact ⟨_, _, _, rfl, sq_l g q, r⟩
  · rename_i e n r; exact ⟨_, _, _, rfl, .inl (.inl e), r⟩
theorem R.seq (g : Same G H) (r : R K G H v d L) (h : sqOf d = some ds) : ∃ a xs L', v = .ref a ∧ (SqL K H a xs ∨ SqT K H a xs) ∧ Rs K G H xs ds L' := by
  cases r <;> simp only [sqOf] at h <;> try cases h
  · rename_i q r; exact ⟨_, _, _, rfl, .inr (.inl (.inl (g _ _ q))), r⟩
  · rename_i q r; exact ⟨_, _, _, rfl, .inl (.inl (.inl (g _ _ q))), r⟩
  · rename_i q r; exact ⟨_, _, _, rfl, .inl (sq_l g q), r⟩
  · rename_i e n r; exact ⟨_, _, _, rfl, .inl (.inl (.inl e)), r⟩
theorem lsOf_al (h : lsOf (see A d) = some ds) : ∀ j, see A d ≠ .al j := fun j e => by rw [e] at h; cases h
theorem sqOf_al (h : sqOf (see A d) = some ds) : ∀ j, see A d ≠ .al j := fun j e => by rw [e] at h; cases h
theorem sublist_nil {L : List Addr} (h : L.Sublist []) : L = [] := List.sublist_nil.mp h
theorem Rs.atI {xs : List V} {i : Int} {e : D} (r : Rs K G H xs ds L) (h : atI ds i = some e) : ∃ w Li, atI xs i = some w ∧ R K G H w e Li := by
  unfold L2.atI at h ⊢
  rw [r.length]
  cases hi : ixN ds.length i with
  | none => rw [hi] at h; cases h
  | some j =>
    rw [hi] at h
    obtain ⟨w, Li, h1, h2, _⟩ := r.getD (i := j) (d := e) h
    exact ⟨w, Li, h1, h2⟩
end
def gIx (d e : D) (A : Sl) : Option D := match e with
  | .int i => match see A d with
    | .str x => if x.length ≤ sizeLine then (atI x.cps.toList i).map fun c => .str ⟨#[c]⟩ else none
    | s => match sqOf s with
      | some ds => match atI ds i with
        | some e => if isF e = true then some e else none
        | none => none
      | none => none
  | _ => none
theorem opd_ix : OpD z (rIx z.K) gIx := by
  intro σ A ts H v u d e d' h hg Q q
  unfold gIx at hg
  split at hg
  · rename_i i
    have eu := h.int
    split at hg
    · rename_i x hx
      have hn : ∀ j, see A d ≠ .al j := fun j z => by rw [z] at hx; cases hx
      obtain ⟨G, L, gh, r, _⟩ := h.drop.look hn
      rw [hx] at r
      cases r
      split at hg
      · rename_i hl
        cases hc : atI x.cps.toList i with
        | none => rw [hc] at hg; cases hg
        | some c =>
          rw [hc] at hg
          cases hg
          exact .inr (.inr ⟨x, i, c, rfl, eu, hl, hc, q _ _ (h.drop.drop.pstr _)⟩)
      · cases hg
    · split at hg
      · rename_i ds hs
        split at hg
        · rename_i e he
          split at hg
          · rename_i hf
            cases hg
            obtain ⟨G, L, gh, r, back⟩ := h.drop.look (sqOf_al hs)
            obtain ⟨a, xs, L', ev, sq, rs⟩ := r.seq gh hs
            obtain ⟨w, Li, h1, h2⟩ := rs.atI he
            rw [h2.isF hf] at h2
            have fin := q _ _ (back w _ h2)
            rcases sq with sq | sq
            · exact .inl ⟨a, xs, i, w, ev, eu, sq, h1, fin⟩
            · exact .inr (.inl ⟨a, xs, i, w, ev, eu, sq, h1, fin⟩)
          · cases hg
        · cases hg
      · cases hg
  · cases hg
end
end Ab
end
section
namespace Ab
open PySem PySem.Spec PyProof.Rows L2

/-! ### in, not in -/
section
variable {X : Cx}
def rInT (K : PySem.W.Frag) : R2 := fun x y H Q => ∃ d ds, Dp K H x d ∧ Dp K H y (.tuple ds) ∧ SeqAt.shaped d = true ∧ SeqAt.shaped (.tuple ds) = true ∧ Q (.bl (ds.any fun z => PyData.eqv z d)) H
def rNotInT (K : PySem.W.Frag) : R2 := fun x y H Q => ∃ d ds, Dp K H x d ∧ Dp K H y (.tuple ds) ∧ SeqAt.shaped d = true ∧ SeqAt.shaped (.tuple ds) = true ∧ Q (.bl (!ds.any fun z => PyData.eqv z d)) H
theorem op_inT (hu : X.A.units + 65 < cLine) : OpR X (compareOp .In) (rInT X.K) := by
  intro pins s σ H x y v u Q I rx ry h
  obtain ⟨d, ds, hd, he, sd, se, q⟩ := h
  obtain ⟨as, r1⟩ := Dp.reads I d x v hd rx
  obtain ⟨bs, r2⟩ := Dp.reads I (.tuple ds) y u he ry
  exact SeqAt.in_tuple_reads r2 r1 (SeqAt.canLay_of_shaped se) (SeqAt.canLay_of_shaped sd) (room_in_shaped sd hu) ⟨.bl _, H, I, rfl, q⟩
theorem op_notInT (hu : X.A.units + 65 < cLine) : OpR X (compareOp .NotIn) (rNotInT X.K) := by
  intro pins s σ H x y v u Q I rx ry h
  obtain ⟨d, ds, hd, he, sd, se, q⟩ := h
  obtain ⟨as, r1⟩ := Dp.reads I d x v hd rx
  obtain ⟨bs, r2⟩ := Dp.reads I (.tuple ds) y u he ry
  exact SeqAt.notIn_tuple_reads r2 r1 (SeqAt.canLay_of_shaped se) (SeqAt.canLay_of_shaped sd) (room_in_shaped sd hu) ⟨.bl _, H, I, rfl, q⟩
def rInS : R2 := fun x y H Q => ∃ (c : Nat) (z : Str), x = .str ⟨#[c]⟩ ∧ y = .str z ∧ Q (.bl (decide (c ∈ z.cps.toList))) H
def rNotInS : R2 := fun x y H Q => ∃ (c : Nat) (z : Str), x = .str ⟨#[c]⟩ ∧ y = .str z ∧ Q (.bl (!decide (c ∈ z.cps.toList))) H
def rInA (K : PySem.W.Frag) : R2 := fun x y H Q => rInD K x y H Q ∨ rInT K x y H Q ∨ rInS x y H Q
def rNotInA (K : PySem.W.Frag) : R2 := fun x y H Q => rNotInD K x y H Q ∨ rNotInT K x y H Q ∨ rNotInS x y H Q
theorem op_inA (hu : X.A.units + 65 < cLine) : OpR X (compareOp .In) (rInA X.K) := (op_inD hu).or ((op_inT hu).or op_in_sign)
theorem op_notInA (hu : X.A.units + 65 < cLine) : OpR X (compareOp .NotIn) (rNotInA X.K) := (op_notInD hu).or ((op_notInT hu).or op_notIn_sign)
end
/-- d within e: the answer -/
def inB (d e : D) (A : Sl) : Option Bool := match see A e with
  | .str z => match d with
    | .str ⟨⟨[c]⟩⟩ => some (decide (c ∈ z.cps.toList))
    | _ => none
  | s => match sqOf s with
    | some ds => if (okD (see A d) && okD s) = true then some ((dats ds).any fun z => PyData.eqv z (dat (see A d))) else none
    | none => none
def gIn (d e : D) (A : Sl) : Option D := (inB d e A).map .bl
def gNotIn (d e : D) (A : Sl) : Option D := (inB d e A).map fun b => .bl (!b)
theorem dat_seq {d : D} {ds : List D} (h : sqOf d = some ds) : dat d = .list (dats ds) ∨ dat d = .tuple (dats ds) := by
  cases d <;> simp only [sqOf] at h <;> cases h <;> simp [dat]
section
variable {z : Z}
theorem inB_go {σ : L2.St} {A : Sl} {ts : Ts} {H : Hp} {v u : V} {d e : D} {b : Bool} (h : z.A σ A ((u, e) :: (v, d) :: ts) H) (hg : inB d e A = some b) :
    (∃ x ds, Dp z.K H v x ∧ (Dp z.K H u (.list ds) ∧ SeqAt.shaped (.list ds) = true ∨ Dp z.K H u (.tuple ds) ∧ SeqAt.shaped (.tuple ds) = true) ∧ SeqAt.shaped x = true ∧ b = ds.any fun z => PyData.eqv z x) ∨
      ∃ (c : Nat) (w : Str), v = .str ⟨#[c]⟩ ∧ u = .str w ∧ b = decide (c ∈ w.cps.toList) := by
  unfold inB at hg
  split at hg
  · rename_i w hw
    split at hg
    · rename_i c
      cases hg
      obtain ⟨G, L, gh, r, _⟩ := h.look (fun j z => by rw [z] at hw; cases hw)
      rw [hw] at r
      cases r
      exact .inr ⟨c, w, h.drop.str, rfl, rfl⟩
    · cases hg
  · split at hg
    · rename_i ds hs
      by_cases hk : (okD (see A d) && okD (see A e)) = true
      · rw [if_pos hk] at hg
        cases hg
        rw [Bool.and_eq_true] at hk
        obtain ⟨G, L, L', gh, r1, r2, _⟩ := h.look2 (okD_al hk.2) (okD_al hk.1)
        have d1 := r1.dp gh (okD_lay hk.2)
        have s1 : SeqAt.shaped (dat (see A e)) = true := hk.2
        refine .inl ⟨_, dats ds, r2.dp gh (okD_lay hk.1), ?_, hk.1, rfl⟩
        rcases dat_seq hs with q | q <;> rw [q] at d1 s1
        · exact .inl ⟨d1, s1⟩
        · exact .inr ⟨d1, s1⟩
      · rw [if_neg hk] at hg; cases hg
    · cases hg
theorem opd_in : OpD z (rInA z.K) gIn := by
  intro σ A ts H v u d e d' h hg Q q
  unfold gIn at hg
  cases hb : inB d e A with
  | none => rw [hb] at hg; cases hg
  | some b =>
    rw [hb] at hg
    cases hg
    have fin := q _ _ (h.drop.drop.pbl b)
    rcases inB_go h hb with ⟨x, ds, h1, h2 | h2, h3, rfl⟩ | ⟨c, w, e1, e2, rfl⟩
    · exact .inl ⟨x, ds, h1, h2.1, h3, h2.2, fin⟩
    · exact .inr (.inl ⟨x, ds, h1, h2.1, h3, h2.2, fin⟩)
    · exact .inr (.inr ⟨c, w, e1, e2, fin⟩)
theorem opd_notIn : OpD z (rNotInA z.K) gNotIn := by
  intro σ A ts H v u d e d' h hg Q q
  unfold gNotIn at hg
  cases hb : inB d e A with
  | none => rw [hb] at hg; cases hg
  | some b =>
    rw [hb] at hg
    cases hg
    have fin := q _ _ (h.drop.drop.pbl (!b))
    rcases inB_go h hb with ⟨x, ds, h1, h2 | h2, h3, rfl⟩ | ⟨c, w, e1, e2, rfl⟩
    · exact .inl ⟨x, ds, h1, h2.1, h3, h2.2, fin⟩
    · exact .inr (.inl ⟨x, ds, h1, h2.1, h3, h2.2, fin⟩)
    · exact .inr (.inr ⟨c, w, e1, e2, fin⟩)

end
/-! ### one value opened: what is known of it, and how one goes on -/
section
variable {K : PySem.W.Frag} {B : Bs} {G H : Hp} {σ : L2.St} {A : Sl} {ts : Ts} {vs : List V} {d e : D} {ds : List D} {p : Addr} {u v : V} {L : List Addr}
theorem isFs_noAl : ∀ {ds : List D}, isFs ds = true → noAl ds = true
  | [], _ => rfl
  | d :: ds, h => by
    rw [isFs, Bool.and_eq_true] at h
    have ih : noAl ds = true := isFs_noAl h.2
    unfold noAl at ih ⊢
    rw [List.all_cons, ih, Bool.and_true]
    cases d <;> first | rfl | (have := h.1; simp [isF] at this)
/-- the state goes on with a value w that is told e -/
def Fin (K : PySem.W.Frag) (B : Bs) (σ : L2.St) (A : Sl) (ts : Ts) (H G : Hp) : Prop :=
  ∀ w e H' G' L', Same H H' → Same G G' → Same G' H' → (∀ a, H a ≠ none → G a = none → G' a = none) → R K G' H' w e L' → L'.Nodup → (∀ a ∈ L', H a = none) → Abs K B σ A ((w, e) :: ts) H'
theorem Abs.fin (h : Abs K B σ A ts H) : ∃ G, Same G H ∧ Fin K B σ A ts H G := by
  obtain ⟨G, L1, L2, gd, tm, sl, nd, ow⟩ := h
  exact ⟨G, gd.gh, fun w e H' G' L' he g1 g2 g3 r rn rf => step_core gd tm sl nd ow he g1 g2 g3 r rn rf⟩
theorem Abs.open (h : Abs K B σ A ((v, d) :: ts) H) (hn : ∀ j, see A d ≠ .al j) : ∃ G L, Same G H ∧ R K G H v (see A d) L ∧ Fin K B σ A ts H G := by
  obtain ⟨G, L1, L2, gd, tm, sl, nd, ow⟩ := id h
  obtain ⟨L, r⟩ := tm.look sl hn
  obtain ⟨M, tm2, sM⟩ : ∃ M, Tms K σ G H ts M ∧ M.Sublist L1 := by
    cases tm with
    | cons r t => exact ⟨_, t, List.sublist_append_right _ _⟩
    | al e t => exact ⟨_, t, .refl _⟩
  have sub : (M ++ L2).Sublist (L1 ++ L2) := List.Sublist.append_right sM _
  exact ⟨G, L, gd.gh, r, fun w e H' G' L' he g1 g2 g3 r rn rf => step_core gd tm2 sl (sub.nodup nd) (fun a ha => ow a (sub.subset ha)) he g1 g2 g3 r rn rf⟩
theorem Abs.open2 (h : Abs K B σ A ((u, e) :: (v, d) :: ts) H) (h1 : ∀ j, see A e ≠ .al j) (h2 : ∀ j, see A d ≠ .al j) :
    ∃ G L L', Same G H ∧ R K G H u (see A e) L ∧ R K G H v (see A d) L' ∧ Fin K B σ A ts H G := by
  obtain ⟨G, L1, L2, gd, tm, sl, nd, ow⟩ := id h
  obtain ⟨L, r⟩ := tm.look sl h1
  obtain ⟨M, tm2, sM⟩ : ∃ M, Tms K σ G H ((v, d) :: ts) M ∧ M.Sublist L1 := by
    cases tm with
    | cons r t => exact ⟨_, t, List.sublist_append_right _ _⟩
    | al e t => exact ⟨_, t, .refl _⟩
  obtain ⟨L', r'⟩ := tm2.look sl h2
  obtain ⟨M', tm3, sM'⟩ : ∃ M', Tms K σ G H ts M' ∧ M'.Sublist M := by
    cases tm2 with
    | cons r t => exact ⟨_, t, List.sublist_append_right _ _⟩
    | al e t => exact ⟨_, t, .refl _⟩
  have sub : (M' ++ L2).Sublist (L1 ++ L2) := List.Sublist.append_right (sM'.trans sM) _
  exact ⟨G, L, L', gd.gh, r, r', fun w e H' G' L' he g1 g2 g3 r rn rf => step_core gd tm3 sl (sub.nodup nd) (fun a ha => ow a (sub.subset ha)) he g1 g2 g3 r rn rf⟩
theorem Fin.known (f : Fin K B σ A ts H G) (g : Same G H) (r : R K G H v d []) : Abs K B σ A ((v, d) :: ts) H :=
  f v d H G [] (fun _ _ e => e) (fun _ _ e => e) g (fun _ _ e => e) r List.nodup_nil fun _ z => nomatch z
theorem gp_none (g : Same G H) (hp : H p = none) : G p = none := by
  cases q : G p with
  | none => rfl
  | some o => rw [g p o q] at hp; cases hp
theorem same_upd2 {o : HO} (g : Same G H) : Same (upd G p o) (upd H p o) := fun a x e => by
  by_cases m : a = p
  · subst m; rw [upd_same] at e ⊢; exact e
  · rw [upd_ne m] at e ⊢; exact g a x e
theorem Fin.tup (f : Fin K B σ A ts H G) (g : Same G H) (r : Rs K G H vs ds []) (hp : H p = none) : Abs K B σ A ((.ref p, .tup ds) :: ts) (upd H p (.tup vs)) := by
  have g4 : Same G (upd G p (.tup vs)) := same_new (gp_none g hp)
  exact f _ _ _ (upd G p (.tup vs)) [] (same_new hp) g4 (same_upd2 g) (fun a ha hn => (upd_ne (fun z => ha (by rw [z]; exact hp))).trans hn) (.tup upd_same (r.free g4)) List.nodup_nil fun _ z => nomatch z
theorem Fin.lst (f : Fin K B σ A ts H G) (g : Same G H) (r : Rs K G H vs ds []) (hp : H p = none) : Abs K B σ A ((.ref p, .mu ds) :: ts) (upd H p (.lst vs)) :=
  f _ _ _ G [p] (same_new hp) (fun _ _ e => e) (g.trans (same_new hp)) (fun _ _ hn => hn) (.mu upd_same (gp_none g hp) (r.free fun _ _ e => e)) (by simp) fun a ha => by rw [List.mem_singleton.mp ha]; exact hp
theorem R.seq2 (g : Same G H) (r : R K G H v d L) (h : sqOf d = some ds) : ∃ a xs L', v = .ref a ∧ Rs K G H xs ds L' ∧ ((lsOf d = some ds ∧ SqL K H a xs) ∨ (d = .tup ds ∧ SqT K H a xs ∧ (L' = [] → R K G H v d []))) := by
  cases r <;> simp only [sqOf] at h <;> try cases h
  · rename_i q r; exact ⟨_, _, _, rfl, r, .inr ⟨rfl, .inl (.inl (g _ _ q)), fun e => by subst e; exact .tup q r⟩⟩
  · rename_i q r; exact ⟨_, _, _, rfl, r, .inl ⟨rfl, .inl (.inl (g _ _ q))⟩⟩
  · rename_i q r; exact ⟨_, _, _, rfl, r, .inl ⟨rfl, sq_l g q⟩⟩
  · rename_i e n r; exact ⟨_, _, _, rfl, r, .inl ⟨rfl, .inl (.inl e)⟩⟩
/-- lists that are tracked as such (not the script) -/
def exOf : D → Option (List D)
  | .lst ds => some ds | .mu ds => some ds
  | _ => none
theorem exOf_al (h : exOf (see A d) = some ds) : ∀ j, see A d ≠ .al j := fun j e => by rw [e] at h; cases h
theorem R.ex (g : Same G H) (r : R K G H v d L) (h : exOf d = some ds) : ∃ a xs L', v = .ref a ∧ H a = some (.lst xs) ∧ Rs K G H xs ds L' := by
  cases r <;> simp only [exOf] at h <;> try cases h
  · rename_i q r; exact ⟨_, _, _, rfl, g _ _ q, r⟩
  · rename_i e n r; exact ⟨_, _, _, rfl, e, r⟩
theorem Rs.take : ∀ {vs : List V} {ds : List D} (n : Nat), Rs K G H vs ds [] → Rs K G H (vs.take n) (ds.take n) []
  | _, _, 0, _ => .nil
  | [], [], _ + 1, _ => .nil
  | v :: vs, d :: ds, n + 1, r => by
    generalize hL : ([] : List Addr) = L0 at r
    cases r with
    | cons r t =>
      obtain ⟨e1, e2⟩ := List.append_eq_nil_iff.mp hL.symm
      subst e1; subst e2
      exact Rs.cons r (Rs.take n t)
theorem Rs.drop : ∀ {vs : List V} {ds : List D} (n : Nat), Rs K G H vs ds [] → Rs K G H (vs.drop n) (ds.drop n) []
  | _, _, 0, r => r
  | [], [], _ + 1, _ => .nil
  | v :: vs, d :: ds, n + 1, r => by
    generalize hL : ([] : List Addr) = L0 at r
    cases r with
    | cons r t =>
      obtain ⟨e1, e2⟩ := List.append_eq_nil_iff.mp hL.symm
      subst e1; subst e2
      exact Rs.drop n t
theorem Rs.cat {ws : List V} {es : List D} (r : Rs K G H vs ds []) (s : Rs K G H ws es []) : Rs K G H (vs ++ ws) (ds ++ es) [] := r.app s
theorem Rs.rep (r : Rs K G H vs ds []) : ∀ n : Nat, Rs K G H (List.replicate n vs).flatten (List.replicate n ds).flatten []
  | 0 => .nil
  | n + 1 => by
    rw [List.replicate_succ, List.replicate_succ, List.flatten_cons, List.flatten_cons]
    exact r.cat (Rs.rep r n)
end

/-! ### + -/
def gAdd (d e : D) (A : Sl) : Option D := match see A d, see A e with
  | .int i, .int j => some (.int (i + j))
  | .str x, .str y => if x.length + y.length ≤ sizeLine then some (.str (x ++ y)) else none
  | .tup ds, .tup es => if isFs ds = true ∧ isFs es = true ∧ ds.length + es.length ≤ sizeLine then some (.tup (ds ++ es)) else none
  | s, t => match exOf s, exOf t with
    | some ds, some es => if isFs ds = true ∧ isFs es = true ∧ ds.length + es.length ≤ sizeLine then some (.mu (ds ++ es)) else none
    | _, _ => none
def rAddStr : R2 := fun x y H Q => ∃ i j, x = .str i ∧ y = .str j ∧ i.length + j.length ≤ sizeLine ∧ Q (.str (i ++ j)) H
def rAddA (K : PySem.W.Frag) : R2 := fun x y H Q => rI0 (fun i j => .int (i + j)) x y H Q ∨ rAddStr x y H Q ∨ rCatA K x y H Q ∨ rCat x y H Q
theorem op_addA {X : Cx} : OpR X (binaryOp .Add) (rAddA X.K) := op_add.or (op_add_str.or (op_catA.or op_cat))
section
variable {z : Z}
theorem opd_add : OpD z (rAddA z.K) gAdd := by
  intro σ A ts H v u d e d' h hg Q q
  have key : ∀ {x y : D}, see A d = x → see A e = y → (∀ j, x ≠ .al j) → (∀ j, y ≠ .al j) → ∃ G L L', Same G H ∧ R z.K G H u y L ∧ R z.K G H v x L' ∧ Fin z.K z.B σ A ts H G := by
    intro x y e1 e2 n1 n2
    obtain ⟨G, L, L', gh, r1, r2, f⟩ := h.open2 (by rw [e2]; exact n2) (by rw [e1]; exact n1)
    exact ⟨G, L, L', gh, e2 ▸ r1, e1 ▸ r2, f⟩
  unfold gAdd at hg
  split at hg
  · rename_i i j h1 h2
    cases hg
    obtain ⟨G, L, L', gh, r1, r2, f⟩ := key h1 h2 (fun _ z => nomatch z) (fun _ z => nomatch z)
    cases r1; cases r2
    exact .inl ⟨i, j, rfl, rfl, q _ _ (f.known gh (.int _))⟩
  · rename_i x y h1 h2
    split at hg
    · rename_i hl
      cases hg
      obtain ⟨G, L, L', gh, r1, r2, f⟩ := key h1 h2 (fun _ z => nomatch z) (fun _ z => nomatch z)
      cases r1; cases r2
      exact .inr (.inl ⟨x, y, rfl, rfl, hl, q _ _ (f.known gh (.str _))⟩)
    · cases hg
  · rename_i ds es h1 h2
    split at hg
    · rename_i hl
      cases hg
      obtain ⟨G, L, L', gh, r1, r2, f⟩ := key h1 h2 (fun _ z => nomatch z) (fun _ z => nomatch z)
      cases r1 with | tup q1 s1 => cases r2 with | tup q2 s2 =>
      have e1 := s1.isFs hl.2.1
      have e2 := s2.isFs hl.1
      subst e1; subst e2
      refine .inr (.inr (.inl ⟨_, _, _, _, rfl, rfl, .inl (.inl (gh _ _ q2)), .inl (.inl (gh _ _ q1)), by rw [s1.length, s2.length]; exact hl.2.2, fun e => ?_, fun _ e => ?_, fun _ _ p hp => ?_⟩))
      · subst e
        have e3 : ds = [] := by have := s2.length; simpa using this.symm
        subst e3
        exact q _ _ (f.known gh (.tup q1 s1))
      · subst e
        have e3 : es = [] := by have := s1.length; simpa using this.symm
        subst e3
        rw [List.append_nil] at q
        exact q _ _ (f.known gh (.tup q2 s2))
      · exact q _ _ (f.tup gh (s2.cat s1) hp)
    · cases hg
  · split at hg
    · rename_i ds es h1 h2
      split at hg
      · rename_i hl
        cases hg
        obtain ⟨G, L, L', gh, r1, r2, f⟩ := h.open2 (exOf_al h2) (exOf_al h1)
        obtain ⟨a, xs, M, rfl, k1, s1⟩ := r2.ex gh h1
        obtain ⟨b, ys, M', rfl, k2, s2⟩ := r1.ex gh h2
        have e1 := s1.isFs hl.1
        have e2 := s2.isFs hl.2.1
        subst e1; subst e2
        exact .inr (.inr (.inr ⟨a, b, xs, ys, rfl, rfl, k1, k2, by rw [s1.length, s2.length]; exact hl.2.2, fun p hp => q _ _ (f.lst gh (s1.cat s2) hp)⟩))
      · cases hg
    · cases hg

/-! ### * -/
def gMulA (d e : D) (A : Sl) : Option D := match d, e with
  | .int i, .int j => if cMul i j = true then some (.int (i * j)) else none
  | d, .int k => match exOf (see A d) with
    | some ds => if isFs ds = true ∧ k.natAbs < 2 ^ 62 ∧ ds.length * k.toNat ≤ sizeLine then some (.mu (List.replicate k.toNat ds).flatten) else none
    | none => none
  | _, _ => none
def rMulA : R2 := fun x y H Q => rI CMul (fun i j => .int (i * j)) x y H Q ∨ rRep x y H Q
theorem op_mulA {X : Cx} : OpR X (binaryOp .Mult) rMulA := op_mul.or op_rep
theorem opd_mulA : OpD z rMulA gMulA := by
  intro σ A ts H v u d e d' h hg Q q
  unfold gMulA at hg
  split at hg
  · rename_i i j
    split at hg
    · rename_i hc
      cases hg
      refine .inl ⟨i, j, h.drop.int, h.int, ?_, q _ _ (h.drop.drop.pint _)⟩
      unfold cMul at hc
      rw [Bool.or_eq_true, decide_eq_true_iff, decide_eq_true_iff] at hc
      rcases hc with hc | hc
      · exact .inl (by omega)
      · exact .inr (by omega)
    · cases hg
  · rename_i k _
    split at hg
    · rename_i ds hs
      split at hg
      · rename_i hl
        cases hg
        have eu := h.int
        obtain ⟨G, L, gh, r, f⟩ := h.drop.open (exOf_al hs)
        obtain ⟨a, xs, M, rfl, k1, s1⟩ := r.ex gh hs
        have e1 := s1.isFs hl.1
        subst e1
        exact .inr ⟨a, k, xs, rfl, eu, k1, by omega, by omega, by rw [s1.length]; exact hl.2.2, fun p hp => q _ _ (f.lst gh (s1.rep _) hp)⟩
      · cases hg
    · cases hg
  · cases hg

/-! ### slices -/
abbrev FO := Sl → Ou (Option Int)
def pO (z : Z) (o : Ou (Option Int)) (σ : L2.St) (ts : Ts) (Q : Option Int → Hp → Prop) : Prop := match o with
  | .ok b A' => ∀ H', z.A σ A' ts H' → Q b H'
  | .exc c A' => ∀ H', z.A σ A' ts H' → z.W (z.cl c) none σ H'
  | .stuck => False
def tO (z : Z) (f : FO) : TO := fun σ H Q => ∃ A ts, z.A σ A ts H ∧ pO z (f A) σ ts Q
variable {X : Cx}
theorem PO.imp {e : Option Expr} {t t' : TO} (h : PO X e t) (hi : ∀ σ H Q, t' σ H Q → t σ H Q) : PO X e t' := ⟨fun pins s σ H Q I w => h.run pins s σ H Q I (hi σ H Q w)⟩
def fNoPart : FO := fun A => .ok none A
def fPart (f : FE) : FO := fun A => (f A).bind fun d A1 => match d with
  | .int i => .ok (some i) A1
  | _ => .stuck
theorem qo_none : PO X none (tO z fNoPart) := PO.imp po_none fun σ H Q ⟨A, ts, ha, hp⟩ => hp _ ha
theorem qo_some {e : Expr} {f : FE} (h : PE X e (tE z f)) : PO X (some e) (tO z (fPart f)) := PO.imp (po_some h) fun σ H Q ⟨A, ts, ha, hp⟩ => ⟨A, ts, ha, by
  unfold fPart at hp
  cases ea : f A with
  | stuck => rw [ea] at hp; exact hp.elim
  | exc c A1 => rw [ea] at hp; exact hp
  | ok d A1 =>
    rw [ea] at hp
    simp only [Ou.bind_ok] at hp
    intro v H1 h1
    cases d <;> try exact hp.elim
    exact ⟨_, h1.int, hp _ h1.drop⟩⟩
def cutG {α : Type} (xs : List α) (lo hi : Option Int) : List α := (xs.drop (HT.sIx xs.length 0 lo)).take (HT.sIx xs.length xs.length hi - HT.sIx xs.length 0 lo)
def gSl (d : D) (lo hi : Option Int) (A : Sl) : Option D := match see A d with
  | .str x => if x.length ≤ sizeLine then some (.str (cutS x lo hi)) else none
  | .tup ds => if isFs ds = true then some (.tup (cutG ds lo hi)) else none
  | s => match lsOf s with
    | some ds => if isFs ds = true then some (.mu (cutG ds lo hi)) else none
    | none => none
def fSl (fe : FE) (fl fh : FO) : FE := fun A => (fe A).bind fun d A1 => (fl A1).bind fun l A2 => (fh A2).bind fun h A3 => match gSl d l h A3 with
  | some r => .ok r A3
  | none => .stuck
def rSlAny (K : PySem.W.Frag) : V → Option Int → Option Int → Hp → VK → Prop := fun x lo hi H Q => rSlL K x lo hi H Q ∨ rSlA K x lo hi H Q ∨ rSlS x lo hi H Q
theorem sl_any : SlR X (rSlAny X.K) := sl_list.or (sl_tupA.or sl_str)
theorem sld_any {σ : L2.St} {A : Sl} {ts : Ts} {H : Hp} {v : V} {d d' : D} {lo hi : Option Int} (h : z.A σ A ((v, d) :: ts) H) (hg : gSl d lo hi A = some d') (Q : VK) (q : ∀ w H', z.A σ A ((w, d') :: ts) H' → Q w H') : rSlAny z.K v lo hi H Q := by
  unfold gSl at hg
  split at hg
  · rename_i x hx
    split at hg
    · rename_i hl
      cases hg
      obtain ⟨G, L, gh, r, f⟩ := h.open (fun j z => by rw [z] at hx; cases hx)
      rw [hx] at r
      cases r
      exact .inr (.inr ⟨x, rfl, hl, q _ _ (f.known gh (.str _))⟩)
    · cases hg
  · rename_i ds hx
    split at hg
    · rename_i hl
      cases hg
      obtain ⟨G, L, gh, r, f⟩ := h.open (fun j z => by rw [z] at hx; cases hx)
      rw [hx] at r
      cases r with | tup q1 s1 =>
      have e1 := s1.isFs hl
      subst e1
      refine .inr (.inl ⟨_, _, rfl, .inl (.inl (gh _ _ q1)), fun e => ?_, fun _ p hp => ?_⟩)
      · have e2 : cutG ds lo hi = ds := by
          unfold cutG
          rw [← s1.length, e.1, e.2, List.drop_zero, s1.length, Nat.sub_zero, List.take_length]
        rw [e2] at q
        exact q _ _ (f.known gh (.tup q1 s1))
      · refine q _ _ (f.tup gh ?_ hp)
        unfold cutV cutG
        rw [s1.length]
        exact (s1.drop _).take _
    · cases hg
  · split at hg
    · rename_i ds hs
      split at hg
      · rename_i hl
        cases hg
        obtain ⟨G, L, gh, r, f⟩ := h.open (lsOf_al hs)
        obtain ⟨a, xs, M, rfl, k1, s1⟩ := r.list gh hs
        have e1 := s1.isFs hl
        subst e1
        refine .inl ⟨a, xs, rfl, k1, fun p hp => q _ _ (f.lst gh ?_ hp)⟩
        unfold cutV cutG
        rw [s1.length]
        exact (s1.drop _).take _
      · cases hg
    · cases hg
theorem qe_slice {e : Expr} {lo hi : Option Expr} {fe : FE} {fl fh : FO} {pos p2 : Pos} (hK : X.K = z.K) (he : PE X e (tE z fe)) (hl : PO X lo (tO z fl)) (hh : PO X hi (tO z fh)) : PE X (.Subscript e (.Slice lo hi none p2) pos) (tE z (fSl fe fl fh)) := by
  refine PE.imp (pe_slice sl_any he hl hh) fun σ H Q ⟨A, ts, ha, hp⟩ => ⟨A, ts, ha, ?_⟩
  unfold fSl at hp
  cases ea : fe A with
  | stuck => rw [ea] at hp; exact hp.elim
  | exc c A1 => rw [ea] at hp; exact hp
  | ok d A1 =>
    rw [ea] at hp
    simp only [Ou.bind_ok] at hp
    intro v H1 h1
    refine ⟨A1, (v, d) :: ts, h1, ?_⟩
    cases eb : fl A1 with
    | stuck => rw [eb] at hp; exact hp.elim
    | exc c A2 => rw [eb] at hp; exact fun H' h' => hp H' h'.drop
    | ok l A2 =>
      rw [eb] at hp
      simp only [Ou.bind_ok] at hp
      intro H2 h2
      refine ⟨A2, (v, d) :: ts, h2, ?_⟩
      cases ec : fh A2 with
      | stuck => rw [ec] at hp; exact hp.elim
      | exc c A3 => rw [ec] at hp; exact fun H' h' => hp H' h'.drop
      | ok hh A3 =>
        rw [ec] at hp
        simp only [Ou.bind_ok] at hp
        intro H3 h3
        cases eg : gSl d l hh A3 with
        | none => rw [eg] at hp; exact hp.elim
        | some d' =>
          rw [eg] at hp
          rw [hK]
          exact sld_any h3 eg Q hp
end
end Ab
end
section
namespace Ab
open PySem PySem.Spec PyProof.Rows L2

/-! ### argument lists -/
def fNil : FA := fun A => .ok [] A
def fCons (f : FE) (g : FA) : FA := fun A => (f A).bind fun d A1 => (g A1).bind fun ds A2 => .ok (d :: ds) A2
section
variable {z : Z} {X : Cx}
theorem qa_nil : PA X [] (tA z fNil) := PA.imp pa_nil fun σ H Q ⟨A, ts, ha, hp⟩ => hp [] _ rfl ha
theorem qa_cons {e : Expr} {es : List Expr} {f : FE} {g : FA} (ha : PE X e (tE z f)) (hr : PA X es (tA z g)) (hs : starEach (e :: es) X.env = (false, eval e X.env) :: starEach es X.env := by rfl) : PA X (e :: es) (tA z (fCons f g)) := by
  refine PA.imp (pa_cons ha hr hs) fun σ H Q ⟨A, ts, hA, hp⟩ => ⟨A, ts, hA, ?_⟩
  unfold fCons at hp
  cases ea : f A with
  | stuck => rw [ea] at hp; exact hp.elim
  | exc c A1 => rw [ea] at hp; exact hp
  | ok d A1 =>
    rw [ea] at hp
    simp only [Ou.bind_ok] at hp
    intro v H1 h1
    refine ⟨A1, (v, d) :: ts, h1, ?_⟩
    cases eb : g A1 with
    | stuck => rw [eb] at hp; exact hp.elim
    | exc c A2 => rw [eb] at hp; exact fun H' h' => hp H' h'.drop
    | ok ds A2 =>
      rw [eb] at hp
      intro vs H2 hl h2
      refine hp (v :: vs) H2 (by simp [hl]) (h2.perm ?_)
      simpa using List.perm_middle
/-! ### an argument list whose aliases are frozen -/
def closeL : List D → Sl → Option (List D × Sl)
  | [], A => some ([], A)
  | d :: ds, A => match d with
    | .al i => match A[i]? with
      | some (some t) => match closeL ds (A.set i (some (fz t))) with
        | some (es, A') => some (fz t :: es, A')
        | none => none
      | _ => none
    | d => match closeL ds A with
      | some (es, A') => some (d :: es, A')
      | none => none
theorem fz_al : ∀ d : D, (∀ i, d ≠ .al i) → ∀ i, fz d ≠ .al i := by
  intro d h i e
  cases d <;> simp only [fz] at e <;> first | exact h _ rfl | exact nomatch e
theorem noAl_cons {d : D} {ds : List D} (h : ∀ i, d ≠ .al i) (h2 : noAl ds = true) : noAl (d :: ds) = true := by
  unfold noAl at h2 ⊢
  rw [List.all_cons, h2, Bool.and_true]
  cases d <;> first | rfl | exact absurd rfl (h _)
/-- what a slot bears is no alias -/
theorem Abs.slot_al {K : PySem.W.Frag} {B : Bs} {σ : L2.St} {A : Sl} {ts : Ts} {H : Hp} {i : Nat} {d : D} (h : Abs K B σ A ts H) (e : A[i]? = some (some d)) : ∀ j, d ≠ .al j := fun j q => by
  obtain ⟨G, L1, L2, gd, tm, sl, nd, ow⟩ := h
  obtain ⟨v, Li, L', _, r, _, _⟩ := sl.take e
  subst q
  exact r.not_al
theorem Abs.close {K : PySem.W.Frag} {B : Bs} {σ : L2.St} {H : Hp} : ∀ {ds : List D} {vs : List V} {A : Sl} {ts : Ts} {es : List D} {A' : Sl}, vs.length = ds.length → Abs K B σ A (vs.zip ds ++ ts) H → closeL ds A = some (es, A') →
    Abs K B σ A' (vs.zip es ++ ts) H ∧ vs.length = es.length ∧ noAl es = true
  | [], [], A, ts, es, A', _, h, hc => by
    simp only [closeL] at hc
    cases hc
    exact ⟨h, rfl, rfl⟩
  | d :: ds, v :: vs, A, ts, es, A', hl, h, hc => by
    have go : ∀ {d' : D} {A1 : Sl} {es1 : List D}, (∀ i, d' ≠ .al i) → Abs K B σ A1 ((v, d') :: (vs.zip ds ++ ts)) H → closeL ds A1 = some (es1, A') → Abs K B σ A' ((v :: vs).zip (d' :: es1) ++ ts) H ∧ (v :: vs).length = (d' :: es1).length ∧ noAl (d' :: es1) = true := by
      intro d' A1 es1 nd h1 hc1
      have h2 : Abs K B σ A1 (vs.zip ds ++ (v, d') :: ts) H := h1.perm (by simpa using (List.perm_middle (l₁ := vs.zip ds) (a := (v, d')) (l₂ := ts)).symm)
      obtain ⟨h3, l3, n3⟩ := Abs.close (by simpa using hl) h2 hc1
      exact ⟨h3.perm (by simpa using List.perm_middle), by simp [l3], noAl_cons nd n3⟩
    unfold closeL at hc
    split at hc
    · rename_i i
      split at hc
      · rename_i t et
        split at hc
        · rename_i es1 A1 e1
          cases hc
          have h1 := h.frz et
          exact go (fz_al t (h.slot_al et)) h1 e1
        · cases hc
      · cases hc
    · rename_i hna
      split at hc
      · rename_i es1 A1 e1
        cases hc
        exact go (fun i q => hna i q) h e1
      · cases hc
  | [], _ :: _, _, _, _, _, hl, _, _ => by simp at hl
  | _ :: _, [], _, _, _, _, hl, _, _ => by simp at hl

/-! ### displays -/
def fTup (fa : FA) : FE := fun A => (fa A).bind fun ds A1 => match closeL ds A1 with
  | some (es, A2) => if es.length ≤ sizeLine then .ok (.tup es) A2 else .stuck
  | none => .stuck
def fLst (fa : FA) : FE := fun A => (fa A).bind fun ds A1 => match closeL ds A1 with
  | some (es, A2) => if es.length ≤ sizeLine then .ok (.mu es) A2 else .stuck
  | none => .stuck
theorem qe_tup {es : List Expr} {k : Nat} {pos : Pos} {fa : FA} (h : PA X es (tA z fa)) : PE X (.Tuple es k pos) (tE z (fTup fa)) := by
  refine PE.imp (pe_tup h) fun σ H Q ⟨A, ts, hA, hp⟩ => ⟨A, ts, hA, ?_⟩
  unfold fTup at hp
  cases ea : fa A with
  | stuck => rw [ea] at hp; exact hp.elim
  | exc c A1 => rw [ea] at hp; exact hp
  | ok ds A1 =>
    rw [ea] at hp
    simp only [Ou.bind_ok] at hp
    intro vs H1 hl h1
    split at hp
    · rename_i es' A2 ec
      obtain ⟨h2, l2, n2⟩ := h1.close hl ec
      split at hp
      · rename_i hz
        exact ⟨by rw [l2]; exact hz, fun p hpn => hp _ _ (h2.tup l2 n2 hpn)⟩
      · exact hp.elim
    · exact hp.elim
theorem qe_lst {es : List Expr} {pos : Pos} {fa : FA} (h : PA X es (tA z fa)) : PE X (.List es pos) (tE z (fLst fa)) := by
  refine PE.imp (pe_lst h) fun σ H Q ⟨A, ts, hA, hp⟩ => ⟨A, ts, hA, ?_⟩
  unfold fLst at hp
  cases ea : fa A with
  | stuck => rw [ea] at hp; exact hp.elim
  | exc c A1 => rw [ea] at hp; exact hp
  | ok ds A1 =>
    rw [ea] at hp
    simp only [Ou.bind_ok] at hp
    intro vs H1 hl h1
    split at hp
    · rename_i es' A2 ec
      obtain ⟨h2, l2, n2⟩ := h1.close hl ec
      split at hp
      · rename_i hz
        exact ⟨by rw [l2]; exact hz, fun p hpn => hp _ _ (h2.lst l2 n2 hpn)⟩
      · exact hp.elim
    · exact hp.elim

/-! ### calls of built-ins by values -/
def CallD (z : Z) (r : List V → Hp → VK → Prop) (g : List D → Sl → Option D) : Prop :=
  ∀ (σ : L2.St) (A : Sl) (ts : Ts) (H : Hp) (vs : List V) (ds : List D) (d' : D), vs.length = ds.length → z.A σ A (vs.zip ds ++ ts) H → g ds A = some d' → ∀ Q : VK, (∀ w H', z.A σ A ((w, d') :: ts) H' → Q w H') → r vs H Q
def fCB (g : List D → Sl → Option D) (fa : FA) : FE := fun A => (fa A).bind fun ds A1 => match g ds A1 with
  | some d => .ok d A1
  | none => .stuck
theorem cb_go {r : List V → Hp → VK → Prop} {g : List D → Sl → Option D} {fa : FA} (hd : CallD z r g) {σ : L2.St} {H : Hp} {Q : VK} (h : tE z (fCB g fa) σ H Q) : tCB r (tA z fa) σ H Q := by
  obtain ⟨A, ts, hA, hp⟩ := h
  refine ⟨A, ts, hA, ?_⟩
  unfold fCB at hp
  cases ea : fa A with
  | stuck => rw [ea] at hp; exact hp.elim
  | exc c A1 => rw [ea] at hp; exact hp
  | ok ds A1 =>
    rw [ea] at hp
    simp only [Ou.bind_ok] at hp
    intro vs H1 hl h1
    split at hp
    · rename_i d eg
      exact hd _ _ _ _ _ _ _ hl h1 eg Q hp
    · exact hp.elim
theorem qe_callB {id : String} {x : Str} {e : Expr} {es : List Expr} {p pos : Pos} {r : List V → Hp → VK → Prop} {g : List D → Sl → Option D} {fa : FA} (hc : CallR X (.builtin id) r) (hd : CallD z r g) (hg : Gl X x) (hm : X.mg x = none) (hv : bootBuiltins x = some (.builtin id))
    (ha : PA X (e :: es) (tA z fa)) (hn : x ≠ "__name__" := by decide) (hdb : (x == ("__debug__" : Str)) = false := by decide) (he : starEach (e :: es) X.env = (false, eval e X.env) :: starEach es X.env := by rfl)
    (hpl : (backTo pos (starEach es X.env)).any (·.1) = false := by rfl) : PE X (.Call (.Name x p) (e :: es) [] pos) (tE z (fCB g fa)) := PE.imp (pe_callB hc hg hm hv ha hn hdb he hpl) fun _ _ _ h => cb_go hd h
theorem qe_callTy {T : String} {x : Str} {e : Expr} {es : List Expr} {p pos : Pos} {r : List V → Hp → VK → Prop} {g : List D → Sl → Option D} {fa : FA} (hc : CallR X (.type T) r) (hd : CallD z r g) (hg : Gl X x) (hm : X.mg x = none) (hv : bootBuiltins x = some (.type T))
    (ha : PA X (e :: es) (tA z fa)) (hn : x ≠ "__name__" := by decide) (hdb : (x == ("__debug__" : Str)) = false := by decide) (he : starEach (e :: es) X.env = (false, eval e X.env) :: starEach es X.env := by rfl)
    (hpl : (backTo pos (starEach es X.env)).any (·.1) = false := by rfl) : PE X (.Call (.Name x p) (e :: es) [] pos) (tE z (fCB g fa)) := PE.imp (pe_callTy hc hg hm hv ha hn hdb he hpl) fun _ _ _ h => cb_go hd h
/-- one argument -/
theorem call1 {vs : List V} {ds : List D} {d : D} (hl : vs.length = ds.length) (e : ds = [d]) : ∃ v, vs = [v] := by
  subst e
  match vs, hl with
  | [v], _ => exact ⟨v, rfl⟩
theorem call2 {vs : List V} {ds : List D} {d e : D} (hl : vs.length = ds.length) (h : ds = [d, e]) : ∃ v u, vs = [v, u] := by
  subst h
  match vs, hl with
  | [v, u], _ => exact ⟨v, u, rfl⟩
/-! len -/
def gLen (ds : List D) (A : Sl) : Option D := match ds with
  | [d] => match see A d with
    | .str x => if x.length ≤ sizeLine then some (.int x.length) else none
    | s => match sqOf s with
      | some es => some (.int es.length)
      | none => none
  | _ => none
theorem cd_len : CallD z (fun xs H Q => ∃ x n, xs = [x] ∧ LenV z.K x H n ∧ Q (.int n) H) gLen := by
  intro σ A ts H vs ds d' hl h hg Q q
  unfold gLen at hg
  split at hg
  · rename_i d
    obtain ⟨v, rfl⟩ := call1 hl rfl
    have h : z.A σ A ((v, d) :: ts) H := h
    split at hg
    · rename_i x hx
      split at hg
      · rename_i hz
        cases hg
        obtain ⟨G, L, gh, r, f⟩ := h.open (fun j z => by rw [z] at hx; cases hx)
        rw [hx] at r; cases r
        exact ⟨_, _, rfl, ⟨hz, rfl⟩, q _ _ (f.known gh (.int _))⟩
      · cases hg
    · split at hg
      · rename_i es hs
        cases hg
        obtain ⟨G, L, gh, r, f⟩ := h.open (sqOf_al hs)
        obtain ⟨a, xs, M, rfl, rs, k⟩ := r.seq2 gh hs
        refine ⟨_, es.length, rfl, ?_, q _ _ (f.known gh (.int _))⟩
        rcases k with ⟨_, k⟩ | ⟨_, k, _⟩
        · exact .inl ⟨xs, k, rs.length.symm⟩
        · exact .inr ⟨xs, k, rs.length.symm⟩
      · cases hg
  · cases hg
/-! tuple(x), list(x) of lists and tuples -/
def gTuple (ds : List D) (A : Sl) : Option D := match ds with
  | [d] => match sqOf (see A d) with
    | some es => if isFs es = true then some (.tup es) else none
    | none => none
  | _ => none
theorem cd_tuple : CallD z (fun xs H Q => ∃ p ys, xs = [.ref p] ∧ ((SqL z.K H p ys ∧ ∀ l, H l = none → Q (.ref l) (upd H l (.tup ys))) ∨ (SqT z.K H p ys ∧ Q (.ref p) H))) gTuple := by
  intro σ A ts H vs ds d' hl h hg Q q
  unfold gTuple at hg
  split at hg
  · rename_i d
    obtain ⟨v, rfl⟩ := call1 hl rfl
    have h : z.A σ A ((v, d) :: ts) H := h
    split at hg
    · rename_i es hs
      split at hg
      · rename_i hf
        cases hg
        obtain ⟨G, L, gh, r, f⟩ := h.open (sqOf_al hs)
        obtain ⟨a, xs, M, rfl, rs, k⟩ := r.seq2 gh hs
        have e1 := rs.isFs hf
        subst e1
        refine ⟨a, xs, rfl, ?_⟩
        rcases k with ⟨_, k⟩ | ⟨ek, k, kr⟩
        · exact .inl ⟨k, fun l hln => q _ _ (f.tup gh rs hln)⟩
        · rw [ek] at kr
          exact .inr ⟨k, q _ _ (f.known gh (kr rfl))⟩
      · cases hg
    · cases hg
  · cases hg
def gList (ds : List D) (A : Sl) : Option D := match ds with
  | [d] => match sqOf (see A d) with
    | some es => if isFs es = true then some (.mu es) else none
    | none => none
  | _ => none
theorem cd_list : CallD z (fun xs H Q => ∃ p ys, xs = [.ref p] ∧ (SqL z.K H p ys ∨ SqT z.K H p ys) ∧ ∀ l, H l = none → Q (.ref l) (upd H l (.lst ys))) gList := by
  intro σ A ts H vs ds d' hl h hg Q q
  unfold gList at hg
  split at hg
  · rename_i d
    obtain ⟨v, rfl⟩ := call1 hl rfl
    have h : z.A σ A ((v, d) :: ts) H := h
    split at hg
    · rename_i es hs
      split at hg
      · rename_i hf
        cases hg
        obtain ⟨G, L, gh, r, f⟩ := h.open (sqOf_al hs)
        obtain ⟨a, xs, M, rfl, rs, k⟩ := r.seq2 gh hs
        have e1 := rs.isFs hf
        subst e1
        refine ⟨a, xs, rfl, ?_, fun l hln => q _ _ (f.lst gh rs hln)⟩
        rcases k with ⟨_, k⟩ | ⟨_, k, _⟩
        · exact .inl k
        · exact .inr k
      · cases hg
    · cases hg
  · cases hg
/-! min, max of two ints; int(bool), int(int) -/
def gMin2 (ds : List D) (A : Sl) : Option D := match ds with
  | [.int i, .int j] => some (.int (if j < i then j else i))
  | _ => none
def gMax2 (ds : List D) (A : Sl) : Option D := match ds with
  | [.int i, .int j] => some (.int (if j > i then j else i))
  | _ => none
theorem cd_min2 : CallD z (fun xs H Q => ∃ i j, xs = [.int i, .int j] ∧ Q (.int (if j < i then j else i)) H) gMin2 := by
  intro σ A ts H vs ds d' hl h hg Q q
  unfold gMin2 at hg
  split at hg
  · rename_i i j
    cases hg
    obtain ⟨v, u, rfl⟩ := call2 hl rfl
    have h : z.A σ A ((v, .int i) :: (u, .int j) :: ts) H := h
    rw [h.int, h.drop.int]
    exact ⟨i, j, rfl, q _ _ (h.drop.drop.pint _)⟩
  · cases hg
theorem cd_max2 : CallD z (fun xs H Q => ∃ i j, xs = [.int i, .int j] ∧ Q (.int (if j > i then j else i)) H) gMax2 := by
  intro σ A ts H vs ds d' hl h hg Q q
  unfold gMax2 at hg
  split at hg
  · rename_i i j
    cases hg
    obtain ⟨v, u, rfl⟩ := call2 hl rfl
    have h : z.A σ A ((v, .int i) :: (u, .int j) :: ts) H := h
    rw [h.int, h.drop.int]
    exact ⟨i, j, rfl, q _ _ (h.drop.drop.pint _)⟩
  · cases hg
/-! isinstance against a built-in class -/
def tyN : D → Option String
  | .non => some "NoneType" | .bl _ => some "bool" | .int _ => some "int" | .str _ => some "str"
  | .tup _ => some "tuple" | .lst _ => some "list" | .mu _ => some "list"
  | _ => none
def gIsi (ds : List D) (A : Sl) : Option D := match ds with
  | [d, .ty n] => match tyN (see A d) with
    | some m => (kitB m n).map .bl
    | none => none
  | _ => none
theorem tyN_al {A : Sl} {d : D} {n : String} (h : tyN (see A d) = some n) : ∀ j, see A d ≠ .al j := fun j e => by rw [e] at h; cases h
theorem R.tyOf {K : PySem.W.Frag} {G H : Hp} {v : V} {d : D} {L : List Addr} {n : String} (g : Same G H) (r : R K G H v d L) (h : tyN d = some n) : TyOf K H v (.type n) := by
  cases r <;> simp only [tyN] at h <;> cases h
  · exact .non
  · exact .bl _
  · exact .int _
  · exact .str _
  · rename_i q _; exact .tup (g _ _ q)
  · rename_i q _; exact .lst (g _ _ q)
  · rename_i e _ _; exact .lst e
theorem cd_isi : CallD z (rIsi z.K) gIsi := by
  intro σ A ts H vs ds d' hl h hg Q q
  unfold gIsi at hg
  split at hg
  · rename_i d n
    obtain ⟨v, u, rfl⟩ := call2 hl rfl
    have h : z.A σ A ((v, d) :: (u, .ty n) :: ts) H := h
    split at hg
    · rename_i m hm
      cases hk : kitB m n with
      | none => rw [hk] at hg; cases hg
      | some b =>
        rw [hk] at hg
        cases hg
        obtain ⟨G, L, gh, r, f⟩ := h.open (tyN_al hm)
        obtain ⟨G2, L2', gh2, r2, f2⟩ := h.drop.open (fun j z => by cases z)
        cases r2
        exact ⟨v, _, _, _, b, rfl, .ty n, .base (r.tyOf gh hm), kit_ty hk, q _ _ (f2.known gh2 (.bl _))⟩
    · cases hg
  · cases hg

/-! ### what a def does: by a plain function of told values -/
inductive Ro where
  | ok (d : D) | exc (c : Str) | stuck
/-- the promise: known arguments ds, the outcome F ds; what comes is new where it is not known -/
def spF (K : PySem.W.Frag) (cl : Str → Value) (n : Nat) (F : List D → Ro) : Sp := fun vs H Q E => ∃ G ds, Same G H ∧ ds.length = n ∧ Rs K G G vs ds [] ∧ match F ds with
  | .ok r => ∀ v H' G' L, Same H H' → Same G G' → Same G' H' → (∀ a, H a ≠ none → G a = none → G' a = none) → R K G' H' v r L → L.Nodup → (∀ a ∈ L, H a = none) → Q v H'
  | .exc c => ∀ H', Same H H' → E (cl c) none H'
  | .stuck => False
/-- all aliases and all that is owned frozen -/
def isScal : D → Bool
  | .non => true | .bl _ => true | .int _ => true | .str _ => true
  | _ => false
/-- .. but where the answer is a scalar, slots keep what they own -/
def fCall (F : List D → Ro) (fa : FA) : FE := fun A => (fa A).bind fun ds A1 => match closeL ds A1 with
  | some (es, A2) => match F (fzs es) with
    | .ok r => if isScal r = true then .ok r A1 else .ok r A2
    | .exc c => .exc c A1
    | .stuck => .stuck
  | none => .stuck
theorem R.scal {K : PySem.W.Frag} {G H : Hp} {v : V} {d : D} {L : List Addr} (r : R K G H v d L) (h : isScal d = true) : ∀ G' H', R K G' H' v d [] := by
  cases r <;> first | exact fun _ _ => .non | exact fun _ _ => .bl _ | exact fun _ _ => .int _ | exact fun _ _ => .str _ | (simp [isScal] at h)
theorem Rs.unown {K : PySem.W.Frag} {G H H' : Hp} {vs : List V} {ds : List D} (r : Rs K G H vs ds []) : Rs K G H' vs ds [] := r.free fun _ _ e => e
theorem fzs_length (ds : List D) : (fzs ds).length = ds.length := by rw [fzs_map, List.length_map]
/-- the arguments of a call, all frozen: what they are and how one goes on -/
theorem Abs.args {K : PySem.W.Frag} {B : Bs} {σ : L2.St} {A : Sl} {ts : Ts} {H : Hp} {vs : List V} {es : List D} (hl : vs.length = es.length) (hn : noAl es = true) (h : Abs K B σ A (vs.zip es ++ ts) H) :
    ∃ G, Same G H ∧ Rs K G H vs (fzs es) [] ∧ Fin K B σ A ts H G ∧ Abs K B σ A ts H := by
  obtain ⟨G, L1, L2, gd, tm, sl, nd, ow⟩ := h
  obtain ⟨La, Lb, rs, t, rfl⟩ := tm.split hl hn
  have oa : ∀ a ∈ La, G a = none ∧ H a ≠ none := rs.own
  have g1 : Same G (grab G H La) := grab_same fun a ha => (oa a ha).1
  have ap : ∀ a ∈ Lb ++ L2, a ∉ La := fun a ha hb => by
    rw [List.append_assoc] at nd
    exact (List.nodup_append.mp nd).2.2 a hb a ha rfl
  have gd' := gd.grab oa fun a ha => ow a (List.mem_append_left _ (List.mem_append_left _ ha))
  have t' : Tms K σ (grab G H La) H ts Lb := t.mono g1 fun a ha => ⟨rfl, grab_keep (ap a (List.mem_append_left _ ha)) (t.own a ha).1⟩
  have s' : Sls K (grab G H La) H σ A L2 := sl.mono g1 fun a ha => ⟨rfl, grab_keep (ap a (List.mem_append_right _ ha)) (sl.own a ha).1⟩
  have nd' : (Lb ++ L2).Nodup := by rw [List.append_assoc] at nd; exact (List.nodup_append.mp nd).2.1
  have ow' : ∀ a ∈ Lb ++ L2, Own B a := fun a ha => ow a (by rw [List.append_assoc]; exact List.mem_append_right _ ha)
  exact ⟨grab G H La, gd'.gh, Rs.fzs g1 rs fun a ha => grab_in ha, fun w e H' G' L' he g1 g2 g3 r rn rf => step_core gd' t' s' nd' ow' he g1 g2 g3 r rn rf, grab G H La, Lb, L2, gd', t', s', nd', ow'⟩
/-- the reading of a call, for a wish about exceptions W -/
theorem call_go {n : Nat} {F : List D → Ro} {fa : FA} (hlen : ∀ ds, F ds ≠ .stuck → ds.length = n) {σ : L2.St} {H : Hp} {Q : VK} (h : tE z (fCall F fa) σ H Q) : tCallS (spF z.K z.cl n F) (WE z.W) (tA z fa) σ H Q := by
  obtain ⟨A, ts, hA, hp⟩ := h
  refine ⟨A, ts, hA, ?_⟩
  unfold fCall at hp
  cases ea : fa A with
  | stuck => rw [ea] at hp; exact hp.elim
  | exc c A1 => rw [ea] at hp; exact hp
  | ok ds A1 =>
    rw [ea] at hp
    simp only [Ou.bind_ok] at hp
    intro vs H1 hl h1
    split at hp
    · rename_i es A2 ec
      obtain ⟨h2, l2, n2⟩ := h1.close hl ec
      obtain ⟨G, gh, rs, f, ab⟩ := h2.args l2 n2
      cases eF : F (fzs es) with
      | stuck => rw [eF] at hp; exact hp.elim
      | exc c =>
        rw [eF] at hp
        refine ⟨G, fzs es, gh, hlen _ (by rw [eF]; exact fun z => nomatch z), rs.unown, ?_⟩
        rw [eF]
        exact fun H' he => hp H' (h1.dropn.same he)
      | ok r =>
        rw [eF] at hp
        refine ⟨G, fzs es, gh, hlen _ (by rw [eF]; exact fun z => nomatch z), rs.unown, ?_⟩
        rw [eF]
        intro v H' G' L he g1 g2 g3 rr rn rf
        simp only at hp
        split at hp
        · rename_i hs
          exact hp v H' ((h1.dropn.same he).scal fun G2 => rr.scal hs G2 H')
        · exact hp v H' (f v r H' G' L he g1 g2 g3 rr rn rf)
    · exact hp.elim
theorem qe_call {k n : Nat} {f : Addr} {fd : FuncData} {ps : List Str} {F : List D → Ro} {fa : FA} {x : Str} {e : Expr} {es : List Expr} {p pos : Pos} (hlen : ∀ ds, F ds ≠ .stuck → ds.length = n) (hK : X.K = z.K) (tk : Takes X z.W)
    (Fk : FnOk X.prog X.w X.K X.mg X.base (L2.CX X.prog X.w) k f fd ps (spF X.K z.cl n F)) (hr : Room k X.A) (hg : Gl X x) (hm : X.mg x = some (.ref f)) (hk : PySem.W.keepIn X.K (.ref f) = true) (hb : L2.Binds X.K fd ps [])
    (ha : PA X (e :: es) (tA z fa)) (hdb : (x == ("__debug__" : Str)) = false := by decide) (he : starEach (e :: es) X.env = (false, eval e X.env) :: starEach es X.env := by rfl) (hpl : (backTo pos (starEach es X.env)).any (·.1) = false := by rfl) :
    PE X (.Call (.Name x p) (e :: es) [] pos) (tE z (fCall F fa)) :=
  PE.imp (pe_callS Fk hr hg hm hk hb (fun σ => passAt tk σ) ha hdb he hpl) fun σ H Q h => by rw [hK]; exact call_go hlen h
end
end Ab
end
section
namespace Ab
open PySem PySem.Spec PyProof.Rows L2

/-! ### tests -/
def fB (f : FE) : FT := fun A => (f A).bind fun d A1 => match d with
  | .bl b => .ok b A1
  | _ => .stuck
def fAnd (f g : FT) : FT := fun A => (f A).bind fun b A1 => if b = true then g A1 else .ok false A1
def fOr (f g : FT) : FT := fun A => (f A).bind fun b A1 => if b = true then .ok true A1 else g A1
def fNot (f : FT) : FT := fun A => (f A).bind fun b A1 => .ok (!b) A1
def fAndV (f g : FE) : FE := fun A => (f A).bind fun d A1 => match d with
  | .bl b => if b = true then g A1 else .ok (.bl false) A1
  | _ => .stuck
def fOrV (f g : FE) : FE := fun A => (f A).bind fun d A1 => match d with
  | .bl b => if b = true then .ok (.bl true) A1 else g A1
  | _ => .stuck
def fNotV (f : FE) : FE := fun A => (f A).bind fun d A1 => match d with
  | .bl b => .ok (.bl (!b)) A1
  | _ => .stuck
section
variable {z : Z} {X : Cx} {a b : Expr} {rest : List Expr} {pos : Pos} {fa fb : FE} {ga gb : FT}
theorem b_go {σ : L2.St} {H : Hp} {Q : Bool → Hp → Prop} (h : tT z (fB fa) σ H Q) : tB (tE z fa) σ H Q := by
  obtain ⟨A, ts, hA, hp⟩ := h
  refine ⟨A, ts, hA, ?_⟩
  unfold fB at hp
  cases ea : fa A with
  | stuck => rw [ea] at hp; exact hp.elim
  | exc c A1 => rw [ea] at hp; exact hp
  | ok d A1 =>
    rw [ea] at hp
    simp only [Ou.bind_ok] at hp
    intro v H1 h1
    cases d <;> first | exact hp.elim | exact ⟨_, h1.bl, hp _ h1.drop⟩
theorem qt_val (h : PE X a (tE z fa)) (he : ∀ whole, isTrue a X.env whole = (do let v ← whole; standAt a.pos; holding [v] (truthy v)) := by intro _; rfl) : PT X a (tT z (fB fa)) := PT.imp (pt_val h he) fun _ _ _ h => b_go h
/-- a comparison as a test -/
theorem qt_cmp {op : CmpOp} {r : R2} {g : D → D → Sl → Option D} (ho : OpR X (compareOp op) r) (hd : OpD z r g) (ha : PE X a (tE z fa)) (hb : PE X b (tE z fb)) (hm : behindInMarks op b = false) : PT X (.Compare a [op] [b] pos) (tT z (fB (fBin g fa fb))) := by
  refine PT.imp (pt_cmpR ho ha hb hm) fun σ H Q h => ?_
  have h2 := b_go h
  exact bin_go (Q := fun x H' => ∃ k, x = .bl k ∧ Q k H') hd (show tE z (fBin g fa fb) σ H fun x H' => ∃ k, x = .bl k ∧ Q k H' from h2)
theorem qt_not (h : PT X a (tT z ga)) : PT X (.UnaryOp .Not a pos) (tT z (fNot ga)) := PT.imp (pt_not h) fun σ H Q ⟨A, ts, hA, hp⟩ => ⟨A, ts, hA, by
  unfold fNot at hp
  cases ea : ga A with
  | stuck => rw [ea] at hp; exact hp.elim
  | exc c A1 => rw [ea] at hp; exact hp
  | ok d A1 => rw [ea] at hp; exact hp⟩
theorem and_go {σ : L2.St} {H : Hp} {Q : Bool → Hp → Prop} (h : tT z (fAnd ga gb) σ H Q) : tAnd (tT z ga) (tT z gb) σ H Q := by
  obtain ⟨A, ts, hA, hp⟩ := h
  refine ⟨A, ts, hA, ?_⟩
  unfold fAnd at hp
  cases ea : ga A with
  | stuck => rw [ea] at hp; exact hp.elim
  | exc c A1 => rw [ea] at hp; exact hp
  | ok d A1 =>
    rw [ea] at hp
    intro H1 h1
    cases d with
    | true => exact ⟨A1, ts, h1, hp⟩
    | false => exact hp _ h1
theorem or_go {σ : L2.St} {H : Hp} {Q : Bool → Hp → Prop} (h : tT z (fOr ga gb) σ H Q) : tOr (tT z ga) (tT z gb) σ H Q := by
  obtain ⟨A, ts, hA, hp⟩ := h
  refine ⟨A, ts, hA, ?_⟩
  unfold fOr at hp
  cases ea : ga A with
  | stuck => rw [ea] at hp; exact hp.elim
  | exc c A1 => rw [ea] at hp; exact hp
  | ok d A1 =>
    rw [ea] at hp
    intro H1 h1
    cases d with
    | true => exact hp _ h1
    | false => exact ⟨A1, ts, h1, hp⟩
theorem PW.imp {e : Expr} {t t' : TT} (h : PW X e t) (hi : ∀ σ H Q, t' σ H Q → t σ H Q) : PW X e t' := ⟨fun wh pins s σ H Q I w => h.run wh pins s σ H Q I (hi σ H Q w)⟩
theorem qw_and1 (h : PT X a (tT z ga)) : PW X (.BoolOp .And [a] pos) (tT z ga) := pw_and1 h
theorem qw_or1 (h : PT X a (tT z ga)) : PW X (.BoolOp .Or [a] pos) (tT z ga) := pw_or1 h
theorem qw_and (h : PT X a (tT z ga)) (hb : PW X (.BoolOp .And (b :: rest) pos) (tT z gb)) : PW X (.BoolOp .And (a :: b :: rest) pos) (tT z (fAnd ga gb)) := PW.imp (pw_and h hb) fun _ _ _ h => and_go h
theorem qw_or (h : PT X a (tT z ga)) (hb : PW X (.BoolOp .Or (b :: rest) pos) (tT z gb)) : PW X (.BoolOp .Or (a :: b :: rest) pos) (tT z (fOr ga gb)) := PW.imp (pw_or h hb) fun _ _ _ h => or_go h
theorem qe_one {op} (h : PE X a (tE z fa)) : PE X (.BoolOp op [a] pos) (tE z fa) := pe_one h
theorem qe_and (h : PE X a (tE z fa)) (hb : PE X (.BoolOp .And (b :: rest) pos) (tE z fb)) : PE X (.BoolOp .And (a :: b :: rest) pos) (tE z (fAndV fa fb)) := PE.imp (pe_and h hb) fun σ H Q ⟨A, ts, hA, hp⟩ => ⟨A, ts, hA, by
  unfold fAndV at hp
  cases ea : fa A with
  | stuck => rw [ea] at hp; exact hp.elim
  | exc c A1 => rw [ea] at hp; exact hp
  | ok d A1 =>
    rw [ea] at hp
    simp only [Ou.bind_ok] at hp
    intro v H1 h1
    cases d <;> try exact hp.elim
    rename_i b
    refine ⟨b, h1.bl, ?_⟩
    cases b with
    | true => exact ⟨A1, ts, h1.drop, hp⟩
    | false => exact hp _ _ (h1.drop.pbl _)⟩
theorem qe_or (h : PE X a (tE z fa)) (hb : PE X (.BoolOp .Or (b :: rest) pos) (tE z fb)) : PE X (.BoolOp .Or (a :: b :: rest) pos) (tE z (fOrV fa fb)) := PE.imp (pe_or h hb) fun σ H Q ⟨A, ts, hA, hp⟩ => ⟨A, ts, hA, by
  unfold fOrV at hp
  cases ea : fa A with
  | stuck => rw [ea] at hp; exact hp.elim
  | exc c A1 => rw [ea] at hp; exact hp
  | ok d A1 =>
    rw [ea] at hp
    simp only [Ou.bind_ok] at hp
    intro v H1 h1
    cases d <;> try exact hp.elim
    rename_i b
    refine ⟨b, h1.bl, ?_⟩
    cases b with
    | true => exact hp _ _ (h1.drop.pbl _)
    | false => exact ⟨A1, ts, h1.drop, hp⟩⟩
theorem qe_not (h : PE X a (tE z fa)) : PE X (.UnaryOp .Not a pos) (tE z (fNotV fa)) := PE.imp (pe_not h) fun σ H Q ⟨A, ts, hA, hp⟩ => ⟨A, ts, hA, by
  unfold fNotV at hp
  cases ea : fa A with
  | stuck => rw [ea] at hp; exact hp.elim
  | exc c A1 => rw [ea] at hp; exact hp
  | ok d A1 =>
    rw [ea] at hp
    simp only [Ou.bind_ok] at hp
    intro v H1 h1
    cases d <;> try exact hp.elim
    exact ⟨_, h1.bl, hp _ _ (h1.drop.pbl _)⟩⟩
end

/-! ### statements -/
def pS (z : Z) (o : Ou Fl) (D : Ends) (ts : Ts) : Prop := match o with
  | .ok .next A' => ∀ σ' H', z.A σ' A' ts H' → D.nx σ' H'
  | .ok .brk A' => ∀ σ' H', z.A σ' A' ts H' → D.bk σ' H'
  | .ok .cont A' => ∀ σ' H', z.A σ' A' ts H' → D.ct σ' H'
  | .ok (.ret d) A' => ∀ v σ' H', z.A σ' A' ((v, d) :: ts) H' → D.rt v H'
  | .exc c A' => ∀ σ' H', z.A σ' A' ts H' → z.W (z.cl c) none σ' H'
  | .stuck => False
def tS (z : Z) (f : FS) : TS := fun D σ H => ∃ A ts, z.A σ A ts H ∧ Cl ts ∧ pS z (f A) D ts
def fSeq (f g : FS) : FS := fun A => (f A).bind fun r A1 => match r with
  | .next => g A1
  | r => .ok r A1
def fNext : FS := fun A => .ok .next A
def fBrk : FS := fun A => .ok .brk A
def fCont : FS := fun A => .ok .cont A
def fIf (c : FT) (f g : FS) : FS := fun A => (c A).bind fun b A1 => if b = true then f A1 else g A1
def fDrop (f : FE) : FS := fun A => (f A).bind fun _ A1 => .ok .next A1
/-- a value for a slot: an alias is frozen -/
def closeD (d : D) (A : Sl) : Option (D × Sl) := match d with
  | .al i => match A[i]? with
    | some (some t) => some (fz t, A.set i (some (fz t)))
    | _ => none
  | d => some (d, A)
def fAsg (i : Nat) (f : FE) : FS := fun A => (f A).bind fun d A1 => match closeD d A1 with
  | some (e, A2) => .ok .next (A2.set i (some e))
  | none => .stuck
/-- .. and what comes new is frozen at once -/
def fAsgF (i : Nat) (f : FE) : FS := fun A => (f A).bind fun d A1 => match closeD d A1 with
  | some (e, A2) => .ok .next (A2.set i (some (fz e)))
  | none => .stuck
/-- x = y, y's own handed over -/
def fAsgM (i : Nat) (f : FE) : FS := fun A => (f A).bind fun d A1 => match d with
  | .al j => match A1[j]? with
    | some (some t) => .ok .next ((A1.set j none).set i (some t))
    | _ => .stuck
  | d => .ok .next (A1.set i (some d))
def fRet (f : FE) : FS := fun A => (f A).bind fun d A1 => match d with
  | .al i => match A1[i]? with
    | some (some t) => .ok (.ret t) (A1.set i none)
    | _ => .stuck
  | d => .ok (.ret d) A1
def fRetN : FS := fun A => .ok (.ret .non) A
section
variable {z : Z} {X : Cx} {st : Stmt} {rest : List Stmt} {e : Expr} {pos : Pos} {f g : FS} {fe : FE} {ft : FT}
theorem pS_stuck {D : Ends} {ts : Ts} (h : pS z .stuck D ts) : False := h
theorem qs_nil : PSs X [] (tS z fNext) := PSs.imp pss_nil fun D σ H ⟨A, ts, hA, c, hp⟩ => hp _ _ hA
theorem qs_cons (h1 : PS X st (tS z f)) (h2 : PSs X rest (tS z g)) : PSs X (st :: rest) (tS z (fSeq f g)) := by
  refine PSs.imp (pss_cons h1 h2) fun D σ H ⟨A, ts, hA, c, hp⟩ => ⟨A, ts, hA, c, ?_⟩
  unfold fSeq at hp
  cases ea : f A with
  | stuck => rw [ea] at hp; exact (pS_stuck hp).elim
  | exc c A1 => rw [ea] at hp; exact hp
  | ok r A1 =>
    rw [ea] at hp
    simp only [Ou.bind_ok] at hp
    cases r with
    | next => exact fun σ' H' h' => ⟨A1, ts, h', c, hp⟩
    | brk => exact hp
    | cont => exact hp
    | ret d => exact hp
theorem qs_one (h1 : PS X st (tS z f)) : PSs X [st] (tS z f) := pss_one h1
theorem qs_pass : PS X (.Pass pos) (tS z fNext) := PS.imp ps_pass fun D σ H ⟨A, ts, hA, c, hp⟩ => hp _ _ hA
theorem qs_brk : PS X (.Break pos) (tS z fBrk) := PS.imp ps_break fun D σ H ⟨A, ts, hA, c, hp⟩ => hp _ _ hA
theorem qs_cont : PS X (.Continue pos) (tS z fCont) := PS.imp ps_continue fun D σ H ⟨A, ts, hA, c, hp⟩ => hp _ _ hA
theorem qs_doc {x j pos pos'} : PS X (.Expr (.Constant (.str x) j pos) pos') (tS z fNext) := PS.imp ps_doc fun D σ H ⟨A, ts, hA, c, hp⟩ => hp _ _ hA
theorem qs_if {c : Expr} {a b : List Stmt} (hc : PT X c (tT z ft)) (ha : PSs X a (tS z f)) (hb : PSs X b (tS z g)) : PS X (.If c a b pos) (tS z (fIf ft f g)) := by
  refine PS.imp (ps_if hc ha hb) fun D σ H ⟨A, ts, hA, cl, hp⟩ => ⟨A, ts, hA, ?_⟩
  unfold fIf at hp
  cases ea : ft A with
  | stuck => rw [ea] at hp; exact (pS_stuck hp).elim
  | exc c A1 => rw [ea] at hp; exact fun H' h' => hp σ H' h'
  | ok b A1 =>
    rw [ea] at hp
    simp only [Ou.bind_ok] at hp
    intro H1 h1
    cases b with
    | true => exact ⟨A1, ts, h1, cl, hp⟩
    | false => exact ⟨A1, ts, h1, cl, hp⟩
theorem qs_expr (he : PE X e (tE z fe)) (hs : swapsWith e none pos.line X.env = pure false := by rfl) : PS X (.Expr e pos) (tS z (fDrop fe)) := by
  refine PS.imp (ps_expr he hs) fun D σ H ⟨A, ts, hA, c, hp⟩ => ⟨A, ts, hA, ?_⟩
  unfold fDrop at hp
  cases ea : fe A with
  | stuck => rw [ea] at hp; exact (pS_stuck hp).elim
  | exc c A1 => rw [ea] at hp; exact fun H' h' => hp σ H' h'
  | ok d A1 => rw [ea] at hp; exact fun v H' h' => hp σ H' h'.drop
theorem Abs.closeD {K : PySem.W.Frag} {B : Bs} {σ : L2.St} {A A' : Sl} {ts : Ts} {H : Hp} {v : V} {d d' : D} (h : Abs K B σ A ((v, d) :: ts) H) (hc : Ab.closeD d A = some (d', A')) : Abs K B σ A' ((v, d') :: ts) H ∧ ∀ i, d' ≠ .al i := by
  unfold Ab.closeD at hc
  split at hc
  · split at hc
    · rename_i et
      cases hc
      exact ⟨h.frz et, fz_al _ (h.slot_al et)⟩
    · cases hc
  · rename_i hna
    cases hc
    exact ⟨h, fun i q => hna i q⟩
theorem asg_go {i : Nat} {D : Ends} {σ : L2.St} {H : Hp} (h : tS z (fAsg i fe) D σ H) : tAsg (tE z fe) (gName i) D σ H := by
  obtain ⟨A, ts, hA, c, hp⟩ := h
  refine ⟨A, ts, hA, ?_⟩
  unfold fAsg at hp
  cases ea : fe A with
  | stuck => rw [ea] at hp; exact (pS_stuck hp).elim
  | exc c A1 => rw [ea] at hp; exact fun H' h' => hp σ H' h'
  | ok d A1 =>
    rw [ea] at hp
    simp only [Ou.bind_ok] at hp
    intro v H1 h1
    split at hp
    · rename_i e A2 ec
      obtain ⟨h2, n2⟩ := h1.closeD ec
      exact hp _ _ (h2.set n2 c)
    · exact (pS_stuck hp).elim
theorem asgF_go {i : Nat} {D : Ends} {σ : L2.St} {H : Hp} (h : tS z (fAsgF i fe) D σ H) : tAsg (tE z fe) (gName i) D σ H := by
  obtain ⟨A, ts, hA, c, hp⟩ := h
  refine ⟨A, ts, hA, ?_⟩
  unfold fAsgF at hp
  cases ea : fe A with
  | stuck => rw [ea] at hp; exact (pS_stuck hp).elim
  | exc c A1 => rw [ea] at hp; exact fun H' h' => hp σ H' h'
  | ok d A1 =>
    rw [ea] at hp
    simp only [Ou.bind_ok] at hp
    intro v H1 h1
    split at hp
    · rename_i e A2 ec
      obtain ⟨h2, n2⟩ := h1.closeD ec
      exact hp _ _ ((h2.fz n2).set (fz_al _ n2) c)
    · exact (pS_stuck hp).elim
theorem asgM_go {i : Nat} {D : Ends} {σ : L2.St} {H : Hp} (h : tS z (fAsgM i fe) D σ H) : tAsg (tE z fe) (gName i) D σ H := by
  obtain ⟨A, ts, hA, c, hp⟩ := h
  refine ⟨A, ts, hA, ?_⟩
  unfold fAsgM at hp
  cases ea : fe A with
  | stuck => rw [ea] at hp; exact (pS_stuck hp).elim
  | exc c A1 => rw [ea] at hp; exact fun H' h' => hp σ H' h'
  | ok d A1 =>
    rw [ea] at hp
    simp only [Ou.bind_ok] at hp
    intro v H1 h1
    split at hp
    · split at hp
      · rename_i et
        exact hp _ _ ((h1.move et).set (h1.slot_al et) c)
      · exact (pS_stuck hp).elim
    · rename_i hna
      exact hp _ _ (h1.set (fun j q => hna j q) c)
theorem qs_setM {i : Nat} {x : Str} {pos' : Pos} (hN : X.N.Nodup) (hi : X.N[i]? = some x) (hx : Loc X.env.scope x) (he : PE X e (tE z fe)) (hs : swapsWith e (some (.Name x pos')) pos.line X.env = pure false := by rfl) (hf : X.fn x = true ∨ X.env.scope.names.lookup x = some .local := by first | exact .inl rfl | exact .inr rfl | assumption) :
    PS X (.Assign [.Name x pos'] e pos) (tS z (fAsgM i fe)) := PS.imp (ps_set hN hi hx he hs hf) fun _ _ _ h => asgM_go h
theorem qs_set {i : Nat} {x : Str} {pos' : Pos} (hN : X.N.Nodup) (hi : X.N[i]? = some x) (hx : Loc X.env.scope x) (he : PE X e (tE z fe)) (hs : swapsWith e (some (.Name x pos')) pos.line X.env = pure false := by rfl) (hf : X.fn x = true ∨ X.env.scope.names.lookup x = some .local := by first | exact .inl rfl | exact .inr rfl | assumption) :
    PS X (.Assign [.Name x pos'] e pos) (tS z (fAsg i fe)) := PS.imp (ps_set hN hi hx he hs hf) fun _ _ _ h => asg_go h
theorem qs_setF {i : Nat} {x : Str} {pos' : Pos} (hN : X.N.Nodup) (hi : X.N[i]? = some x) (hx : Loc X.env.scope x) (he : PE X e (tE z fe)) (hs : swapsWith e (some (.Name x pos')) pos.line X.env = pure false := by rfl) (hf : X.fn x = true ∨ X.env.scope.names.lookup x = some .local := by first | exact .inl rfl | exact .inr rfl | assumption) :
    PS X (.Assign [.Name x pos'] e pos) (tS z (fAsgF i fe)) := PS.imp (ps_set hN hi hx he hs hf) fun _ _ _ h => asgF_go h
theorem qs_ret (he : PE X e (tE z fe)) : PS X (.Return (some e) pos) (tS z (fRet fe)) := by
  refine PS.imp (ps_ret he) fun D σ H ⟨A, ts, hA, c, hp⟩ => ⟨A, ts, hA, ?_⟩
  unfold fRet at hp
  cases ea : fe A with
  | stuck => rw [ea] at hp; exact (pS_stuck hp).elim
  | exc c A1 => rw [ea] at hp; exact fun H' h' => hp σ H' h'
  | ok d A1 =>
    rw [ea] at hp
    simp only [Ou.bind_ok] at hp
    intro v H1 h1
    split at hp
    · split at hp
      · rename_i et
        exact hp _ _ _ (h1.move et)
      · exact (pS_stuck hp).elim
    · exact hp _ _ _ h1
theorem qs_retN : PS X (.Return none pos) (tS z fRetN) := PS.imp ps_retN fun D σ H ⟨A, ts, hA, c, hp⟩ => hp _ _ _ hA.pnon
end

/-! ### targets -/
inductive Tg where
  | nm (i : Nat) | tu (is : List Nat)
def gNames : List Nat → TGs
  | [] => gNil
  | i :: r => gCons (gName i) (gNames r)
def Tg.read (K : PySem.W.Frag) : Tg → TG
  | .nm i => gName i
  | .tu is => gTup K is.length (gNames is)
def Tg.own : Tg → List Nat
  | .nm i => [i]
  | .tu is => is
def setAll : List Nat → List D → Sl → Option Sl
  | [], [], A => some A
  | i :: is, d :: ds, A => setAll is ds (A.set i (some d))
  | _, _, _ => none
def Tg.set : Tg → D → Sl → Option Sl
  | .nm i, d, A => match d with
    | .al _ => none
    | d => some (A.set i (some d))
  | .tu is, .tup ds, A => if isFs ds = true then setAll is ds A else none
  | .tu _, _, _ => none
/-- what a target stores: the slots outside stay -/
def SameOff (own : List Nat) (σ σ' : L2.St) : Prop := σ'.length = σ.length ∧ ∀ i, i ∉ own → σ'[i]? = σ[i]?
theorem SameOff.refl {own : List Nat} {σ : L2.St} : SameOff own σ σ := ⟨rfl, fun _ _ => rfl⟩
theorem SameOff.set {own : List Nat} {σ σ' : L2.St} {i : Nat} {o : Option V} (h : SameOff own σ σ') (hi : i ∈ own) : SameOff own σ (σ'.set i o) :=
  ⟨by simp [h.1], fun j hj => by
    have ne : i ≠ j := fun e => hj (by rw [← e]; exact hi)
    rw [List.getElem?_set_ne ne]; exact h.2 j hj⟩
section
variable {z : Z} {X : Cx}
theorem names_go : ∀ {is : List Nat} {ds : List D} {vs : List V} {A A' : Sl} {ts : Ts} {H : Hp} {σ : L2.St} {Q : L2.St → Hp → Prop}, vs.length = ds.length → isFs ds = true → z.A σ A (vs.zip ds ++ ts) H → Cl ts → setAll is ds A = some A' →
    (∀ σ', z.A σ' A' ts H → SameOff is σ σ' → Q σ' H) → gNames is vs σ H Q
  | [], [], vs, A, A', ts, H, σ, Q, hl, hf, h, c, hs, q => by
    have e : vs = [] := by simpa using hl
    subst e
    simp only [setAll] at hs
    cases hs
    exact ⟨rfl, q σ h .refl⟩
  | i :: is, d :: ds, v :: vs, A, A', ts, H, σ, Q, hl, hf, h, c, hs, q => by
    simp only [setAll] at hs
    rw [isFs, Bool.and_eq_true] at hf
    have nd : ∀ j, d ≠ .al j := fun j e => by rw [e] at hf; simp [isF] at hf
    refine ⟨v, vs, rfl, ?_⟩
    have cl : Cl (vs.zip ds ++ ts) := fun p hp => by
      rcases List.mem_append.mp hp with m | m
      · intro j e
        have := List.of_mem_zip m
        have fs := isFs_noAl hf.2
        unfold noAl at fs
        have := List.all_eq_true.mp fs _ this.2
        rw [e] at this
        exact nomatch this
      · exact c p m
    have h1 := Abs.set (i := i) (d := d) (v := v) (ts := vs.zip ds ++ ts) h nd cl
    refine names_go (by simpa using hl) hf.2 h1 c hs fun σ' h' so => q σ' h' ?_
    refine ⟨so.1.trans (by simp), fun j hj => ?_⟩
    rw [so.2 j (fun m => hj (List.mem_cons_of_mem _ m)), List.getElem?_set_ne (fun e : i = j => hj (by rw [← e]; exact List.mem_cons_self))]
  | _ :: _, [], _, _, _, _, _, _, _, _, _, _, _, hs, _ => by simp [setAll] at hs
  | [], _ :: _, _, _, _, _, _, _, _, _, _, _, _, hs, _ => by simp [setAll] at hs
  | _ :: _, _ :: _, [], _, _, _, _, _, _, hl, _, _, _, _, _ => by simp at hl
theorem tg_go {t : Tg} {d : D} {v : V} {A A' : Sl} {ts : Ts} {H : Hp} {σ : L2.St} {Q : L2.St → Hp → Prop} (h : z.A σ A ((v, d) :: ts) H) (c : Cl ts) (hs : t.set d A = some A') (q : ∀ σ', z.A σ' A' ts H → SameOff t.own σ σ' → Q σ' H) : t.read z.K v σ H Q := by
  cases t with
  | nm i =>
    have nd : ∀ j, d ≠ .al j := fun j e => by rw [e] at hs; simp [Tg.set] at hs
    have e : A' = A.set i (some d) := by
      unfold Tg.set at hs
      cases d <;> first | exact (Option.some.inj hs).symm | exact nomatch hs
    subst e
    exact q _ (h.set nd c) (SameOff.refl.set (by simp [Tg.own]))
  | tu is =>
    cases d <;> simp only [Tg.set] at hs <;> try cases hs
    rename_i ds
    split at hs
    · rename_i hf
      obtain ⟨G, L1, L2, gd, tm, sl, nd, ow⟩ := id h
      cases tm with
      | cons r t =>
        rename_i La Lb
        cases r with
        | tup q1 s1 =>
          rename_i a xs
          have e1 := s1.isFs hf
          subst e1
          have hlen : ∀ {is : List Nat} {ds : List D} {A A' : Sl}, setAll is ds A = some A' → is.length = ds.length := by
            intro is
            induction is with
            | nil => intro ds A A' h; cases ds <;> simp_all [setAll]
            | cons i is ih => intro ds A A' h; cases ds with
              | nil => simp [setAll] at h
              | cons d ds => simp only [setAll] at h; simp [ih h]
          refine ⟨_, xs, rfl, .inl (.inl (gd.gh _ _ q1)), by rw [s1.length]; exact (hlen hs).symm, ?_⟩
          have h2 : z.A σ A (xs.zip ds ++ ts) H := by
            have join : ∀ {vs : List V} {ds : List D}, isFs ds = true → Rs z.K G H vs ds [] → Tms z.K σ G H ts Lb → Tms z.K σ G H (vs.zip ds ++ ts) Lb := by
              intro vs
              induction vs with
              | nil => intro ds _ r t; simpa using t
              | cons v vs ih =>
                intro ds hf r t
                generalize hL : ([] : List Addr) = L0 at r
                cases r with
                | cons r rs =>
                  obtain ⟨e1, e2⟩ := List.append_eq_nil_iff.mp hL.symm
                  subst e1; subst e2
                  rw [isFs, Bool.and_eq_true] at hf
                  have := Tms.cons r (ih hf.2 rs t)
                  simpa using this
            exact ⟨G, Lb, L2, gd, join hf s1 t, sl, by simpa using nd, fun a ha => ow a (by simpa using ha)⟩
          exact names_go s1.length hf h2 c hs q
    · cases hs
theorem qg_name {i : Nat} {x : Str} {pos : Pos} (hN : X.N.Nodup) (hi : X.N[i]? = some x) (hx : Loc X.env.scope x) (hf : X.fn x = true ∨ X.env.scope.names.lookup x = some .local := by first | exact .inl rfl | exact .inr rfl | assumption) : PG X (.Name x pos) ((Tg.nm i).read X.K) := pg_name hN hi hx hf
theorem qgs_nil : PGs X [] (gNames []) := pgs_nil
theorem qgs_cons {i : Nat} {is : List Nat} {x : Str} {pos : Pos} {es : List Expr} (hN : X.N.Nodup) (hi : X.N[i]? = some x) (hx : Loc X.env.scope x) (h2 : PGs X es (gNames is)) (hf : X.fn x = true ∨ X.env.scope.names.lookup x = some .local := by first | exact .inl rfl | exact .inr rfl | assumption)
    (hs : (assignEach (.Name x pos :: es) X.env).map (·.2) = assign (.Name x pos) X.env :: (assignEach es X.env).map (·.2) := by rfl) : PGs X (.Name x pos :: es) (gNames (i :: is)) := pgs_cons (pg_name hN hi hx hf) h2 hs
theorem qg_tup {es : List Expr} {k : Nat} {pos : Pos} {is : List Nat} (hc : X.calm = true) (h : PGs X es (gNames is)) (hn : (assignEach es X.env).length = is.length := by rfl) (hst : (assignEach es X.env).findIdx? (·.1) = none := by rfl) : PG X (.Tuple es k pos) ((Tg.tu is).read X.K) := pg_tup hc h hn hst
/-- a, b = e -/
def fAsgT (t : Tg) (f : FE) : FS := fun A => (f A).bind fun d A1 => match closeD d A1 with
  | some (e, A2) => match t.set (fz e) A2 with
    | some A3 => .ok .next A3
    | none => .stuck
  | none => .stuck
theorem qs_asgT {tg e : Expr} {t : Tg} {fe : FE} {pos : Pos} (hK : X.K = z.K) (he : PE X e (tE z fe)) (hg : PG X tg (t.read X.K)) (hs : swapsWithSole [tg] e pos.line X.env = pure false := by rfl) (hw : swappedStores [tg] e X.env = pure none := by rfl)
    (h1 : (assignEach [tg] X.env).map (·.2) = [assign tg X.env] := by rfl) : PS X (.Assign [tg] e pos) (tS z (fAsgT t fe)) := by
  refine PS.imp (ps_asg he hg hs hw h1) fun D σ H ⟨A, ts, hA, c, hp⟩ => ⟨A, ts, hA, ?_⟩
  unfold fAsgT at hp
  cases ea : fe A with
  | stuck => rw [ea] at hp; exact (pS_stuck hp).elim
  | exc c A1 => rw [ea] at hp; exact fun H' h' => hp σ H' h'
  | ok d A1 =>
    rw [ea] at hp
    simp only [Ou.bind_ok] at hp
    intro v H1 h1
    split at hp
    · rename_i e A2 ec
      obtain ⟨h2, n2⟩ := h1.closeD ec
      split at hp
      · rename_i A3 es
        rw [hK]
        exact tg_go (h2.fz n2) c es fun σ' h' _ => hp _ _ h'
      · exact (pS_stuck hp).elim
    · exact (pS_stuck hp).elim
end
end Ab
end
section
namespace Ab
open PySem PySem.Spec PyProof.Rows L2

/-! ### what is walked -/
structure ItD (z : Z) (J : It) (tmp : Ts) (ds : List D) : Prop where
  go : ∀ (σ : L2.St) (A : Sl) (ts : Ts) (H : Hp) (i : Nat), z.A σ A (tmp ++ ts) H → i < ds.length → J.go i H
  yld : ∀ (σ : L2.St) (A : Sl) (ts : Ts) (H : Hp) (i : Nat) (x : V) (H' : Hp) (d : D), z.A σ A (tmp ++ ts) H → ds[i]? = some d → J.yld i H x H' → z.A σ A ((x, d) :: (tmp ++ ts)) H'
  stop : ∀ (σ : L2.St) (A : Sl) (ts : Ts) (H : Hp) (i : Nat), z.A σ A (tmp ++ ts) H → ds.length ≤ i → J.stop i H
abbrev FI := Sl → Ou (List D)
def pI (z : Z) (o : Ou (List D)) (σ : L2.St) (ts : Ts) (R : It → Hp → Prop) : Prop := match o with
  | .ok ds A' => ∀ J tmp H', Cl tmp → ItD z J tmp ds → z.A σ A' (tmp ++ ts) H' → R J H'
  | .exc c A' => ∀ H', z.A σ A' ts H' → z.W (z.cl c) none σ H'
  | .stuck => False
def tI (z : Z) (f : FI) : TI := fun σ H R => ∃ A ts, z.A σ A ts H ∧ pI z (f A) σ ts R
def iterOf : D → Option (List D)
  | .lst ds => some ds | .fro ds => some ds
  | .tup ds => if isFs ds = true then some ds else none
  | .str x => some (x.cps.toList.map fun c => .str ⟨#[c]⟩)
  | _ => none
/-- the items of a value: it is frozen -/
def fIt (fe : FE) : FI := fun A => (fe A).bind fun d A1 => match closeD d A1 with
  | some (e, A2) => match iterOf (fz e) with
    | some ds => .ok ds A2
    | none => .stuck
  | none => .stuck
section
variable {z : Z} {X : Cx}
theorem itd_list {a : Addr} {d : D} {ds : List D} (hd : d = .lst ds ∨ d = .fro ds) : ItD z (Itl z.K a) [(.ref a, d)] ds := by
  have key : ∀ (σ : L2.St) (A : Sl) (ts : Ts) (H : Hp), z.A σ A ([(.ref a, d)] ++ ts) H → ∃ G xs, Same G H ∧ SqL z.K H a xs ∧ Rs z.K G H xs ds [] ∧ Fin z.K z.B σ A ([(.ref a, d)] ++ ts) H G := by
    intro σ A ts H h
    obtain ⟨G, L1, L2, gd, tm, sl, nd, ow⟩ := id h
    refine ⟨G, ?_⟩
    have f : Fin z.K z.B σ A ([(.ref a, d)] ++ ts) H G := fun w e H' G' L' he g1 g2 g3 r rn rf => step_core gd tm sl nd ow he g1 g2 g3 r rn rf
    cases tm with
    | cons r t =>
      rcases hd with rfl | rfl
      · cases r with | lst q rs => exact ⟨_, gd.gh, .inl (.inl (gd.gh _ _ q)), rs, f⟩
      · cases r with | fro q rs => exact ⟨_, gd.gh, sq_l gd.gh q, rs, f⟩
    | al e t => rcases hd with q | q <;> cases q
  refine ⟨fun σ A ts H i h hi => ?_, fun σ A ts H i x H' e h he hy => ?_, fun σ A ts H i h hi => ?_⟩
  · obtain ⟨G, xs, gh, sq, rs, f⟩ := key σ A ts H h
    have hl : i < xs.length := by rw [rs.length]; exact hi
    exact ⟨xs, xs[i], sq, List.getElem?_eq_getElem hl⟩
  · obtain ⟨G, xs, gh, sq, rs, f⟩ := key σ A ts H h
    obtain ⟨rfl, hx⟩ := hy
    exact f.known gh (rs.nil_get (hx xs sq) he)
  · obtain ⟨G, xs, gh, sq, rs, f⟩ := key σ A ts H h
    exact ⟨xs, sq, by rw [rs.length]; exact hi⟩
theorem itd_tup {a : Addr} {ds : List D} (hf : isFs ds = true) : ItD z (Itt z.K a) [(.ref a, .tup ds)] ds := by
  have key : ∀ (σ : L2.St) (A : Sl) (ts : Ts) (H : Hp), z.A σ A ([(.ref a, .tup ds)] ++ ts) H → ∃ G xs, Same G H ∧ SqT z.K H a xs ∧ Rs z.K G H xs ds [] ∧ Fin z.K z.B σ A ([(.ref a, .tup ds)] ++ ts) H G := by
    intro σ A ts H h
    obtain ⟨G, L1, L2, gd, tm, sl, nd, ow⟩ := id h
    refine ⟨G, ?_⟩
    have f : Fin z.K z.B σ A ([(.ref a, .tup ds)] ++ ts) H G := fun w e H' G' L' he g1 g2 g3 r rn rf => step_core gd tm sl nd ow he g1 g2 g3 r rn rf
    cases tm with
    | cons r t =>
      cases r with
      | tup q rs =>
        have e1 := rs.isFs hf
        subst e1
        exact ⟨_, gd.gh, .inl (.inl (gd.gh _ _ q)), rs, f⟩
  refine ⟨fun σ A ts H i h hi => ?_, fun σ A ts H i x H' e h he hy => ?_, fun σ A ts H i h hi => ?_⟩
  · obtain ⟨G, xs, gh, sq, rs, f⟩ := key σ A ts H h
    have hl : i < xs.length := by rw [rs.length]; exact hi
    exact ⟨xs, xs[i], sq, List.getElem?_eq_getElem hl⟩
  · obtain ⟨G, xs, gh, sq, rs, f⟩ := key σ A ts H h
    obtain ⟨rfl, hx⟩ := hy
    exact f.known gh (rs.nil_get (hx xs sq) he)
  · obtain ⟨G, xs, gh, sq, rs, f⟩ := key σ A ts H h
    exact ⟨xs, sq, by rw [rs.length]; exact hi⟩
theorem itd_str {x : Str} : ItD z (Its x) [] (x.cps.toList.map fun c => .str ⟨#[c]⟩) := by
  refine ⟨fun σ A ts H i h hi => ?_, fun σ A ts H i v H' e h he hy => ?_, fun σ A ts H i h hi => ?_⟩
  · show i < x.cps.size
    simpa using hi
  · obtain ⟨rfl, c, hc, rfl⟩ := hy
    have e2 : e = .str ⟨#[c]⟩ := by
      rw [List.getElem?_map, Array.getElem?_toList, hc] at he
      exact (Option.some.inj he).symm
    subst e2
    exact h.pstr _
  · show x.cps.size ≤ i
    simpa using hi
theorem itd_range {lo : Int} {n : Nat} : ItD z (Itr lo n) [] ((List.range n).map fun i => .int (lo + (i : Nat))) := by
  refine ⟨fun σ A ts H i h hi => ?_, fun σ A ts H i v H' e h he hy => ?_, fun σ A ts H i h hi => ?_⟩
  · show i < n
    simpa using hi
  · obtain ⟨rfl, rfl⟩ := hy
    have hi : i < n := by
      have := (List.getElem?_eq_some_iff.mp he).1
      simpa using this
    have e2 : e = .int (lo + (i : Nat)) := by
      rw [List.getElem?_map, List.getElem?_range hi] at he
      exact (Option.some.inj he).symm
    subst e2
    exact h.pint _
  · show n ≤ i
    simpa using hi
theorem qi_it {tg l : Expr} {fe : FE} (hK : X.K = z.K) (hl : PE X l (tE z fe)) : PI X tg l (tI z (fIt fe)) := by
  refine ⟨fun pins s σ H R I w => ?_⟩
  obtain ⟨A, ts, hA, hp⟩ := w
  unfold fIt at hp
  cases ea : fe A with
  | stuck => rw [ea] at hp; exact (show False from hp).elim
  | exc c A1 =>
    rw [ea] at hp
    refine (pi_list hl).run pins s σ H R I ⟨A, ts, hA, ?_⟩
    rw [ea]; exact hp
  | ok d A1 =>
    rw [ea] at hp
    simp only [Ou.bind_ok] at hp
    split at hp
    · rename_i e A2 ec
      split at hp
      · rename_i ds ei
        have fin : ∀ v H1, z.A σ A1 ((v, d) :: ts) H1 → z.A σ A2 ((v, fz e) :: ts) H1 := fun v H1 h1 => by
          obtain ⟨h2, n2⟩ := h1.closeD ec
          exact h2.fz n2
        cases ef : fz e <;> rw [ef] at ei fin <;> simp only [iterOf] at ei <;> try cases ei
        · -- a text
          rename_i x
          refine (pi_str hl).run pins s σ H R I ⟨A, ts, hA, ?_⟩
          rw [ea]
          intro v H1 h1
          have h2 := fin v H1 h1
          exact ⟨x, h2.str, hp _ [] _ (fun _ m => nomatch m) itd_str h2.drop⟩
        · -- a tuple
          rename_i es
          split at ei
          · rename_i hf
            cases ei
            refine (pi_tup hl).run pins s σ H R I ⟨A, ts, hA, ?_⟩
            rw [ea]
            intro v H1 h1
            have h2 := fin v H1 h1
            obtain ⟨G, L, gh, r, _⟩ := h2.open (fun j q => by cases q)
            cases r with
            | tup q rs =>
              rw [hK]
              exact ⟨_, rfl, ⟨_, .inl (.inl (gh _ _ q))⟩, hp _ [(_, .tup ds)] _ (fun p m j e => by rw [List.mem_singleton.mp m] at e; cases e) (itd_tup hf) h2⟩
          · cases ei
        · -- a list
          refine (pi_list hl).run pins s σ H R I ⟨A, ts, hA, ?_⟩
          rw [ea]
          intro v H1 h1
          have h2 := fin v H1 h1
          obtain ⟨G, L, gh, r, _⟩ := h2.open (fun j q => by cases q)
          cases r with
          | lst q rs =>
            rw [hK]
            exact ⟨_, rfl, ⟨_, .inl (.inl (gh _ _ q))⟩, hp _ [(_, .lst ds)] _ (fun p m j e => by rw [List.mem_singleton.mp m] at e; cases e) (itd_list (.inl rfl)) h2⟩
        · -- the script
          refine (pi_list hl).run pins s σ H R I ⟨A, ts, hA, ?_⟩
          rw [ea]
          intro v H1 h1
          have h2 := fin v H1 h1
          obtain ⟨G, L, gh, r, _⟩ := h2.open (fun j q => by cases q)
          cases r with
          | fro q rs =>
            rw [hK]
            exact ⟨_, rfl, ⟨_, sq_l gh q⟩, hp _ [(_, .fro ds)] _ (fun p m j e => by rw [List.mem_singleton.mp m] at e; cases e) (itd_list (.inr rfl)) h2⟩
      · exact (show False from hp).elim
    · exact (show False from hp).elim
/-- range(n) -/
def fRange (fa : FE) : FI := fun A => (fa A).bind fun d A1 => match d with
  | .int n => if n.natAbs < 2 ^ 62 then .ok ((List.range n.toNat).map fun i => .int (i : Nat)) A1 else .stuck
  | _ => .stuck
theorem qi_range {tg a : Expr} {fa : FE} {p pos : Pos} (hg : Gl X "range") (hm : X.mg "range" = none) (ha : PE X a (tE z fa)) (hs : starEach [a] X.env = [(false, eval a X.env)] := by rfl) (hs2 : starEach [a] X.env = (false, eval a X.env) :: starEach [] X.env := by rfl) :
    PI X tg (.Call (.Name "range" p) [a] [] pos) (tI z (fRange fa)) := by
  refine ⟨fun pins s σ H R I w => (pi_range1 hg hm (pa_cons ha pa_nil hs2) hs).run pins s σ H R I ?_⟩
  obtain ⟨A, ts, hA, hp⟩ := w
  refine ⟨A, ts, hA, ?_⟩
  unfold fRange at hp
  cases ea : fa A with
  | stuck => rw [ea] at hp; exact (show False from hp).elim
  | exc c A1 => rw [ea] at hp; exact hp
  | ok d A1 =>
    rw [ea] at hp
    simp only [Ou.bind_ok] at hp
    intro v H1 h1
    cases d <;> try exact (show False from hp).elim
    rename_i n
    simp only at hp
    split at hp
    · rename_i hn
      refine ⟨n, by rw [h1.int], by omega, by omega, hp _ [] _ (fun _ m => nomatch m) ?_ h1.drop⟩
      have := itd_range (z := z) (lo := 0) (n := n.toNat)
      simpa using this
    · exact (show False from hp).elim

/-! ### for -/
def forL (t : Tg) (fb : FS) : List D → Sl → Ou Fl
  | [], A => .ok .next A
  | d :: ds, A => match t.set d A with
    | none => .stuck
    | some A1 => match fb A1 with
      | .ok .next A2 => forL t fb ds A2
      | .ok .cont A2 => forL t fb ds A2
      | .ok .brk A2 => .ok .next A2
      | .ok (.ret d) A2 => .ok (.ret d) A2
      | .exc c A2 => .exc c A2
      | .stuck => .stuck
def fFor (fi : FI) (t : Tg) (fb : FS) : FS := fun A => (fi A).bind fun ds A1 => forL t fb ds A1
theorem Abs.dropMid {K : PySem.W.Frag} {B : Bs} {σ : L2.St} {A : Sl} {tmp ts : Ts} {H : Hp} {p : V × D} (h : Abs K B σ A (p :: (tmp ++ ts)) H) : Abs K B σ A (p :: ts) H :=
  (h.perm (by simpa using (List.perm_middle (l₁ := tmp) (a := p) (l₂ := ts)).symm) : Abs K B σ A (tmp ++ p :: ts) H).dropn
theorem Cl.app {tmp ts : Ts} (c1 : Cl tmp) (c2 : Cl ts) : Cl (tmp ++ ts) := fun p hp => (List.mem_append.mp hp).elim (c1 p) (c2 p)
theorem qs_for {tg iter : Expr} {body : List Stmt} {t : Tg} {fi : FI} {fb : FS} {pos : Pos} (hp : PassesOwn (model X.prog X.w) X.A X.env X.xe) (hc : X.calm = true) (hK : X.K = z.K) (hi : PI X tg iter (tI z fi)) (hg : PG X tg (t.read X.K)) (hb : PSs X body (tS z fb))
    (hs : ∀ x, foldedSetIterable iter X.env x = pure x := by intro _; rfl) : PS X (.For tg iter body [] pos) (tS z (fFor fi t fb)) := by
  refine PS.imp (ps_for hp hc hi hg hb hs) fun D σ H ⟨A, ts, hA, c, hq⟩ => ⟨A, ts, hA, ?_⟩
  unfold fFor at hq
  cases ea : fi A with
  | stuck => rw [ea] at hq; exact (pS_stuck hq).elim
  | exc c A1 => rw [ea] at hq; exact fun H' h' => hq σ H' h'
  | ok ds A1 =>
    rw [ea] at hq
    simp only [Ou.bind_ok] at hq
    intro J tmp H1 ctmp it h1
    refine ⟨fun i m σ' H' => ∃ A', z.A σ' A' (tmp ++ ts) H' ∧ m = ds.length - i ∧ i ≤ ds.length ∧ pS z (forL t fb (ds.drop i) A') D ts, ⟨_, A1, h1, rfl, Nat.zero_le _, hq⟩, fun i m σ' H' hW => ?_⟩
    obtain ⟨A', h', rfl, hi, hpost⟩ := hW
    by_cases hlt : i < ds.length
    · refine .inr ⟨it.go σ' A' ts H' i h' hlt, fun σ2 H2 => ∃ A2, z.A σ2 A2 (tmp ++ ts) H2 ∧ pS z (forL t fb (ds.drop (i + 1)) A2) D ts, fun σ2 H2 ⟨A2, h2, q2⟩ => ⟨ds.length - (i + 1), by omega, A2, h2, rfl, hlt, q2⟩, fun x H2 hy => ?_⟩
      have hget : ds[i]? = some ds[i] := List.getElem?_eq_getElem hlt
      have h2 := it.yld σ' A' ts H' i x H2 ds[i] h' hget hy
      have hdrop : ds.drop i = ds[i] :: ds.drop (i + 1) := List.drop_eq_getElem_cons hlt
      rw [hdrop] at hpost
      unfold forL at hpost
      cases es : t.set ds[i] A' with
      | none => rw [es] at hpost; exact (pS_stuck hpost).elim
      | some A3 =>
        rw [es] at hpost
        simp only at hpost
        rw [hK]
        refine tg_go h2 (ctmp.app c) es fun σ3 h3 _ => ⟨A3, tmp ++ ts, h3, ctmp.app c, ?_⟩
        cases eb : fb A3 with
        | stuck => rw [eb] at hpost; exact (pS_stuck hpost).elim
        | exc c4 A4 => rw [eb] at hpost; exact fun σ5 H5 h5 => hpost σ5 H5 h5.dropn
        | ok r A4 =>
          rw [eb] at hpost
          cases r with
          | next => exact fun σ5 H5 h5 => ⟨A4, h5, hpost⟩
          | cont => exact fun σ5 H5 h5 => ⟨A4, h5, hpost⟩
          | brk => exact fun σ5 H5 h5 => hpost σ5 H5 h5.dropn
          | ret d => exact fun v σ5 H5 h5 => hpost v σ5 H5 h5.dropMid
    · have e : i = ds.length := by omega
      subst e
      rw [List.drop_length] at hpost
      exact .inl ⟨it.stop σ' A' ts H' _ h' (Nat.le_refl _), hpost σ' H' h'.dropn⟩

/-! ### while -/
def whileN (c : FT) (fb : FS) : Nat → Sl → Ou Fl
  | 0, _ => .stuck
  | n + 1, A => match c A with
    | .ok true A1 => match fb A1 with
      | .ok .next A2 => whileN c fb n A2
      | .ok .cont A2 => whileN c fb n A2
      | .ok .brk A2 => .ok .next A2
      | .ok (.ret d) A2 => .ok (.ret d) A2
      | .exc c A2 => .exc c A2
      | .stuck => .stuck
    | .ok false A1 => .ok .next A1
    | .exc c A1 => .exc c A1
    | .stuck => .stuck
def fWhile (n : Nat) (c : FT) (fb : FS) : FS := fun A => whileN c fb n A
theorem qs_while {n : Nat} {c : Expr} {body : List Stmt} {ft : FT} {fb : FS} {pos : Pos} (hp : PassesOwn (model X.prog X.w) X.A X.env X.xe) (hc : PT X c (tT z ft)) (hb : PSs X body (tS z fb)) : PS X (.While c body [] pos) (tS z (fWhile n ft fb)) := by
  refine PS.imp (ps_while hp hc hb) fun D σ H ⟨A, ts, hA, cl, hq⟩ => ?_
  refine ⟨fun m σ' H' => ∃ A', z.A σ' A' ts H' ∧ pS z (whileN ft fb m A') D ts, ⟨n, A, hA, hq⟩, fun m σ' H' ⟨A', h', hpost⟩ => ⟨A', ts, h', ?_⟩⟩
  cases m with
  | zero => exact (pS_stuck hpost).elim
  | succ m =>
    unfold whileN at hpost
    cases ea : ft A' with
    | stuck => rw [ea] at hpost; exact (pS_stuck hpost).elim
    | exc c A1 => rw [ea] at hpost; exact fun H1 h1 => hpost σ' H1 h1
    | ok b A1 =>
      rw [ea] at hpost
      intro H1 h1
      cases b with
      | false => exact hpost σ' H1 h1
      | true =>
        simp only at hpost
        refine ⟨fun σ2 H2 => ∃ A2, z.A σ2 A2 ts H2 ∧ pS z (whileN ft fb m A2) D ts, fun σ2 H2 ⟨A2, h2, q2⟩ => ⟨m, Nat.lt_succ_self m, A2, h2, q2⟩, A1, ts, h1, cl, ?_⟩
        cases eb : fb A1 with
        | stuck => rw [eb] at hpost; exact (pS_stuck hpost).elim
        | exc c4 A4 => rw [eb] at hpost; exact hpost
        | ok r A4 =>
          rw [eb] at hpost
          cases r with
          | next => exact fun σ5 H5 h5 => ⟨A4, h5, hpost⟩
          | cont => exact fun σ5 H5 h5 => ⟨A4, h5, hpost⟩
          | brk => exact hpost
          | ret d => exact hpost
end
end Ab
end
section
namespace Ab
open PySem PySem.Spec PyProof.Rows L2

/-! ### an owned list rewritten -/
section
variable {K : PySem.W.Frag} {B : Bs} {G H : Hp} {σ : L2.St} {A : Sl} {ts : Ts} {p : Addr} {v y : V} {xs xs' : List V} {ds es : List D} {e : D} {Lt L2 L' : List Addr}
theorem mut_core (gd : Gd B G H) (tm : Tms K σ G H ts Lt) (sl : Sls K G H σ A L2) (hp : H p = some (.lst xs)) (gp : G p = none) (rs : Rs K G H xs' es L') (nd : (((p :: L') ++ Lt) ++ L2).Nodup) (ow : ∀ a ∈ ((p :: L') ++ Lt) ++ L2, Own B a) :
    Abs K B σ A ((.ref p, .mu es) :: ts) (upd H p (.lst xs')) := by
  have np : p ∉ (L' ++ Lt) ++ L2 := (List.nodup_cons.mp nd).1
  have old : ∀ a ∈ (L' ++ Lt) ++ L2, G a = none := fun a ha => by
    rcases List.mem_append.mp ha with m | m
    · exact ((List.mem_append.mp m).elim (rs.own a) (tm.own a)).1
    · exact (sl.own a m).1
  have keep : ∀ a ∈ (L' ++ Lt) ++ L2, upd H p (.lst xs') a = H a ∧ G a = none := fun a ha => ⟨upd_ne (fun q => np (by rw [← q]; exact ha)), old a ha⟩
  have ownp : Own B p := ow p List.mem_cons_self
  refine ⟨G, (p :: L') ++ Lt, L2, ⟨fun a o h => ?_, gd.bg, fun a o hx h => ?_, gd.sep, fun a ha => ?_⟩, .cons (.mu upd_same gp (rs.mono (fun _ _ e => e) fun a ha => keep a (by simp [ha]))) (tm.mono (fun _ _ e => e) fun a ha => keep a (by simp [ha])), sl.mono (fun _ _ e => e) fun a ha => keep a (by simp [ha]), nd, ow⟩
  · have : a ≠ p := fun q => by rw [q, gp] at h; cases h
    rw [upd_ne this]; exact gd.gh a o h
  · have : a ≠ p := fun q => by
      subst q
      rcases ownp with n | n
      · rw [n] at h; cases h
      · exact hx n
    rw [upd_ne this]; exact gd.bh a o hx h
  · by_cases q : a = p
    · rw [q, upd_same]; exact fun z => nomatch z
    · rw [upd_ne q]; exact gd.alive a ha
/-- an item more -/
theorem Abs.app (h : Abs K B σ A ((y, e) :: (v, .mu ds) :: ts) H) (he : ∀ i, e ≠ .al i) : ∃ p xs, v = .ref p ∧ H p = some (.lst xs) ∧ xs.length = ds.length ∧ Abs K B σ A ((v, .mu (ds ++ [e])) :: ts) (upd H p (.lst (xs ++ [y]))) := by
  obtain ⟨G, L1, L2, gd, tm, sl, nd, ow⟩ := h
  cases tm with
  | al _ _ => exact absurd rfl (he _)
  | cons r tm =>
    cases tm with
    | cons r2 t =>
      rename_i Le Lp Lt
      cases r2 with
      | mu q gp rs =>
        rename_i p xs L
        have pp : ((Le ++ ((p :: L) ++ Lt)) ++ L2).Perm (((p :: (L ++ Le)) ++ Lt) ++ L2) := by
          refine List.Perm.append_right _ ?_
          rw [List.cons_append, List.cons_append]
          refine List.perm_middle.trans (List.Perm.cons _ ?_)
          rw [← List.append_assoc]
          exact List.Perm.append_right _ List.perm_append_comm
        refine ⟨p, xs, rfl, q, rs.length, mut_core gd t sl q gp (L' := L ++ Le) (rs.app (by simpa using Rs.one r)) (nodup_perm pp nd) fun a ha => ow a (pp.mem_iff.mpr ha)⟩
/-- the items of another list more (it is read; its items are known) -/
theorem Abs.ext (h : Abs K B σ A ((y, .lst es) :: (v, .mu ds) :: ts) H) : ∃ p xs b zs, v = .ref p ∧ y = .ref b ∧ H p = some (.lst xs) ∧ H b = some (.lst zs) ∧ xs.length = ds.length ∧ zs.length = es.length ∧ Abs K B σ A ((v, .mu (ds ++ es)) :: ts) (upd H p (.lst (xs ++ zs))) := by
  obtain ⟨G, L1, L2, gd, tm, sl, nd, ow⟩ := h
  cases tm with
  | cons r tm =>
    cases r with
    | lst qb rb =>
      rename_i b zs
      cases tm with
      | cons r2 t =>
        rename_i Lp Lt
        cases r2 with
        | mu q gp rs =>
          rename_i p xs L
          exact ⟨p, xs, b, zs, rfl, rfl, q, gd.gh _ _ qb, rs.length, rb.length, mut_core gd t sl q gp (L' := L) (by simpa using rs.app rb) (by simpa using nd) (by simpa using ow)⟩
/-- emptied -/
theorem Abs.clr (h : Abs K B σ A ((v, .mu ds) :: ts) H) : ∃ p xs, v = .ref p ∧ H p = some (.lst xs) ∧ Abs K B σ A ((v, .mu []) :: ts) (upd H p (.lst [])) := by
  obtain ⟨G, L1, L2, gd, tm, sl, nd, ow⟩ := h
  cases tm with
  | cons r2 t =>
    rename_i Lp Lt
    cases r2 with
    | mu q gp rs =>
      rename_i p xs L
      have sb : (((p :: []) ++ Lt) ++ L2).Sublist (((p :: L) ++ Lt) ++ L2) := List.Sublist.append_right (List.Sublist.append_right ((List.nil_sublist L).cons₂ p) _) _
      exact ⟨p, xs, rfl, q, mut_core gd t sl q gp (L' := []) .nil (sb.nodup nd) fun a ha => ow a (sb.subset ha)⟩
theorem Rs.setAt : ∀ {xs : List V} {ds : List D} {L : List Addr} {j : Nat}, Rs K G H xs ds L → R K G H y e L' → j < ds.length → ∃ M N, Rs K G H (xs.set j y) (ds.set j e) M ∧ M.Perm (L' ++ N) ∧ N.Sublist L
  | _, _, _, j, .nil, _, hj => by simp at hj
  | _, _, _, 0, .cons (L := La) (L' := Lb) r t, re, _ => ⟨L' ++ Lb, Lb, .cons re t, .refl _, List.sublist_append_right _ _⟩
  | _, _, _, j + 1, .cons (L := La) (L' := Lb) r t, re, hj => by
    obtain ⟨M, N, h1, h2, h3⟩ := Rs.setAt (j := j) t re (by simpa using hj)
    refine ⟨La ++ M, La ++ N, .cons r h1, ?_, List.Sublist.append_left h3 _⟩
    refine (List.Perm.append_left _ h2).trans ?_
    rw [← List.append_assoc, ← List.append_assoc]
    exact List.Perm.append_right _ List.perm_append_comm
/-- an item replaced -/
theorem Abs.setAt {j : Nat} (h : Abs K B σ A ((y, e) :: (v, .mu ds) :: ts) H) (he : ∀ i, e ≠ .al i) (hj : j < ds.length) : ∃ p xs, v = .ref p ∧ H p = some (.lst xs) ∧ xs.length = ds.length ∧ Abs K B σ A ((v, .mu (ds.set j e)) :: ts) (upd H p (.lst (xs.set j y))) := by
  obtain ⟨G, L1, L2, gd, tm, sl, nd, ow⟩ := h
  cases tm with
  | al _ _ => exact absurd rfl (he _)
  | cons r tm =>
    cases tm with
    | cons r2 t =>
      rename_i Le Lp Lt
      cases r2 with
      | mu q gp rs =>
        rename_i p xs L
        obtain ⟨M, N, h1, h2, h3⟩ := rs.setAt r hj
        have pp : ((Le ++ ((p :: L) ++ Lt)) ++ L2).Perm (((p :: (Le ++ L)) ++ Lt) ++ L2) := by
          refine List.Perm.append_right _ ?_
          rw [List.cons_append, List.cons_append]
          refine List.perm_middle.trans (List.Perm.cons _ ?_)
          rw [List.append_assoc]
        have sb : (((p :: (Le ++ N)) ++ Lt) ++ L2).Sublist (((p :: (Le ++ L)) ++ Lt) ++ L2) := List.Sublist.append_right (List.Sublist.append_right ((List.Sublist.append_left h3 _).cons₂ p) _) _
        have p2 : (((p :: M) ++ Lt) ++ L2).Perm (((p :: (Le ++ N)) ++ Lt) ++ L2) := List.Perm.append_right _ (List.Perm.append_right _ (List.Perm.cons _ h2))
        exact ⟨p, xs, rfl, q, rs.length, mut_core gd t sl q gp h1 (nodup_perm p2.symm (sb.nodup (nodup_perm pp nd))) fun a ha => ow a (pp.mem_iff.mpr (sb.subset (p2.mem_iff.mp ha)))⟩
/-- back into the slot -/
theorem Abs.put {i : Nat} {d : D} (h : Abs K B σ A ((v, d) :: ts) H) (hd : ∀ j, d ≠ .al j) (e : A[i]? = some none) (ev : σ[i]? = some (some v)) : Abs K B σ (A.set i (some d)) ts H := by
  obtain ⟨G, L1, L2, gd, tm, sl, nd, ow⟩ := h
  cases tm with
  | al _ _ => exact absurd rfl (hd _)
  | cons r t =>
    rename_i La Lb
    obtain ⟨L', s, p⟩ := sl.put e ev r
    have pp : (Lb ++ L').Perm ((La ++ Lb) ++ L2) := by
      refine (List.Perm.append_left _ p).trans ?_
      rw [← List.append_assoc]
      exact List.Perm.append_right _ List.perm_append_comm
    exact ⟨G, Lb, L', gd, t, s, nodup_perm pp.symm nd, fun a ha => ow a (pp.mem_iff.mp ha)⟩
theorem Abs.al_at {i : Nat} (h : Abs K B σ A ((v, .al i) :: ts) H) : σ[i]? = some (some v) := by
  obtain ⟨G, L1, L2, gd, tm, sl, nd, ow⟩ := h
  cases tm with
  | al e _ => exact e
  | cons r _ => exact r.not_al.elim
end

/-! ### methods that change a slot's list: x.append(e), x.extend(e), x.clear(); x[i] = e -/
def slotL (i : Nat) (A : Sl) : Option (List D) := match A[i]? with
  | some (some (.mu ds)) => some ds
  | _ => none
theorem slotL_get {i : Nat} {A : Sl} {ds : List D} (h : slotL i A = some ds) : A[i]? = some (some (.mu ds)) := by
  unfold slotL at h
  split at h
  · rename_i e; cases h; exact e
  · cases h
def fApp (i : Nat) (fe : FE) : FE := fun A => match slotL i A with
  | none => .stuck
  | some _ => (fe A).bind fun e A2 => match closeD e A2 with
    | none => .stuck
    | some (e', A3) => match slotL i A3 with
      | some ds => if ds.length < sizeLine then .ok .non (A3.set i (some (.mu (ds ++ [e'])))) else .stuck
      | none => .stuck
/-- extend by a list whose items are known -/
def fExt (i : Nat) (fe : FE) : FE := fun A => match slotL i A with
  | none => .stuck
  | some _ => (fe A).bind fun e A2 => match closeD e A2 with
    | none => .stuck
    | some (e', A3) => match slotL i A3, fz e' with
      | some ds, .lst es => if ds.length + es.length ≤ sizeLine then .ok .non (A3.set i (some (.mu (ds ++ es)))) else .stuck
      | _, _ => .stuck
def fClr (i : Nat) : FE := fun A => match slotL i A with
  | some _ => .ok .non (A.set i (some (.mu [])))
  | none => .stuck
/-- x[k] = e -/
def fSetI (i : Nat) (fk fe : FE) : FS := fun A => (fe A).bind fun e A1 => match closeD e A1 with
  | none => .stuck
  | some (e', A2) => match slotL i A2 with
    | none => .stuck
    | some _ => (fk A2).bind fun k A3 => match k, slotL i A3 with
      | .int k, some ds => match ixN ds.length k with
        | some j => .ok .next (A3.set i (some (.mu (ds.set j e'))))
        | none => .stuck
      | _, _ => .stuck
section
variable {z : Z} {X : Cx} {o e : Expr} {fo fe : FE}
theorem tyV_lst {K : PySem.W.Frag} {H : Hp} {p : Addr} {xs : List V} (h : H p = some (.lst xs)) : tyV K "list" (.ref p) H := .inl ⟨rfl, xs, .inl (.inl h)⟩
/-- the owned list of a slot -/
theorem Abs.alList {K : PySem.W.Frag} {B : Bs} {σ : L2.St} {A : Sl} {ts : Ts} {H : Hp} {v : V} {i : Nat} {ds : List D} (h : Abs K B σ A ((v, .al i) :: ts) H) (e : A[i]? = some (some (.mu ds))) : ∃ p xs, v = .ref p ∧ H p = some (.lst xs) ∧ xs.length = ds.length := by
  obtain ⟨G, L, gh, r, _⟩ := h.open (d := .al i) (by rw [see_al e]; exact fun j q => nomatch q)
  rw [see_al e] at r
  cases r with
  | mu q _ rs => exact ⟨_, _, rfl, q, rs.length⟩
theorem Abs.slotAl {K : PySem.W.Frag} {B : Bs} {σ : L2.St} {A : Sl} {ts : Ts} {H : Hp} {i : Nat} {ds : List D} (h : Abs K B σ A ts H) (e : A[i]? = some (some (.mu ds))) : ∃ p xs, σ[i]? = some (some (.ref p)) ∧ H p = some (.lst xs) ∧ xs.length = ds.length ∧ Abs K B σ A ((.ref p, .al i) :: ts) H := by
  obtain ⟨v, ev, h1⟩ := h.var e
  have h2 : Abs K B σ A ((v, .al i) :: ts) H := by simpa [isF] using h1
  obtain ⟨p, xs, rfl, hp, hl⟩ := h2.alList e
  exact ⟨p, xs, ev, hp, hl, h2⟩
theorem set_none_get {A : Sl} {i : Nat} {o : Option D} (e : A[i]? = some o) : (A.set i none)[i]? = some none := by
  have := (List.getElem?_eq_some_iff.mp e).1
  simp [this]
/-- where a slot's own list is, another temporary ahead -/
theorem Abs.swapMove {K : PySem.W.Frag} {B : Bs} {σ : L2.St} {A : Sl} {ts : Ts} {H : Hp} {v y : V} {i : Nat} {e d : D} (h : Abs K B σ A ((y, e) :: (v, .al i) :: ts) H) (ed : A[i]? = some (some d)) : Abs K B σ (A.set i none) ((y, e) :: (v, d) :: ts) H :=
  ((h.perm (List.Perm.swap _ _ _)).move ed).perm (List.Perm.swap _ _ _)
theorem app_go {i : Nat} {σ : L2.St} {H : Hp} {Q : VK} (h : tE z (fApp i fe) σ H Q) : tBM z.K "list" rAppend (tVar i) (L2.tCons (tE z fe) L2.tNil) σ H Q := by
  obtain ⟨A, ts, hA, hp⟩ := h
  unfold fApp at hp
  split at hp
  · exact (show False from hp).elim
  · rename_i ds0 e0
    obtain ⟨p0, xs0, ev, hp0, _, h1⟩ := hA.slotAl (slotL_get e0)
    refine ⟨.ref p0, ev, tyV_lst hp0, A, (.ref p0, .al i) :: ts, h1, ?_⟩
    cases eb : fe A with
    | stuck => rw [eb] at hp; exact (show False from hp).elim
    | exc c A2 => rw [eb] at hp; exact fun H' h' => hp H' h'.drop
    | ok e A2 =>
      rw [eb] at hp
      simp only [Ou.bind_ok] at hp
      intro y H2 h2
      split at hp
      · exact (show False from hp).elim
      · rename_i e' A3 ec
        obtain ⟨h3, n3⟩ := h2.closeD ec
        split at hp
        · rename_i ds e3
          split at hp
          · rename_i hl
            obtain ⟨p, xs, q, hp2, hlen, h5⟩ := (h3.swapMove (slotL_get e3)).app n3
            cases q
            have h6 := h5.put (fun j q => nomatch q) (set_none_get (slotL_get e3)) ev
            rw [List.set_set] at h6
            exact ⟨p0, xs, y, rfl, rfl, hp2, by rw [hlen]; exact hl, hp _ _ h6.pnon⟩
          · exact (show False from hp).elim
        · exact (show False from hp).elim
theorem ext_go {i : Nat} {σ : L2.St} {H : Hp} {Q : VK} (h : tE z (fExt i fe) σ H Q) : tBM z.K "list" rExtend (tVar i) (L2.tCons (tE z fe) L2.tNil) σ H Q := by
  obtain ⟨A, ts, hA, hp⟩ := h
  unfold fExt at hp
  split at hp
  · exact (show False from hp).elim
  · rename_i ds0 e0
    obtain ⟨p0, xs0, ev, hp0, _, h1⟩ := hA.slotAl (slotL_get e0)
    refine ⟨.ref p0, ev, tyV_lst hp0, A, (.ref p0, .al i) :: ts, h1, ?_⟩
    cases eb : fe A with
    | stuck => rw [eb] at hp; exact (show False from hp).elim
    | exc c A2 => rw [eb] at hp; exact fun H' h' => hp H' h'.drop
    | ok e A2 =>
      rw [eb] at hp
      simp only [Ou.bind_ok] at hp
      intro y H2 h2
      split at hp
      · exact (show False from hp).elim
      · rename_i e' A3 ec
        obtain ⟨h3, n3⟩ := h2.closeD ec
        split at hp
        · rename_i ds es e3 ef
          split at hp
          · rename_i hl
            have h4 := (h3.swapMove (slotL_get e3)).fz n3
            rw [ef] at h4
            obtain ⟨p, xs, b, zs, q2, rfl, hp2, hb2, hlen, hlz, h5⟩ := h4.ext
            cases q2
            have h6 := h5.put (fun j q => nomatch q) (set_none_get (slotL_get e3)) ev
            rw [List.set_set] at h6
            exact ⟨p0, b, xs, zs, rfl, rfl, hp2, hb2, by rw [hlen, hlz]; exact hl, hp _ _ h6.pnon⟩
          · exact (show False from hp).elim
        · exact (show False from hp).elim
theorem clr_go {i : Nat} {σ : L2.St} {H : Hp} {Q : VK} (h : tE z (fClr i) σ H Q) : tBM0 z.K "list" rClear (tVar i) σ H Q := by
  obtain ⟨A, ts, hA, hp⟩ := h
  unfold fClr at hp
  split at hp
  · rename_i ds e
    obtain ⟨p0, xs0, ev, hp0, _, h1⟩ := hA.slotAl (slotL_get e)
    obtain ⟨p, xs, q, hp2, h5⟩ := (h1.move (slotL_get e)).clr
    cases q
    have h6 := h5.put (fun j q => nomatch q) (set_none_get (slotL_get e)) ev
    rw [List.set_set] at h6
    exact ⟨.ref p0, ev, tyV_lst hp0, p0, xs, rfl, rfl, hp2, hp _ _ h6.pnon⟩
  · exact (show False from hp).elim
theorem ixN_lt {n : Nat} {i : Int} {j : Nat} (h : ixN n i = some j) : j < n := (ixN_seq h).2.1
theorem setI_go {i : Nat} {fk : FE} {D : Ends} {σ : L2.St} {H : Hp} (h : tS z (fSetI i fk fe) D σ H) : tAsg (tE z fe) (gSub (tVar i) (tE z fk) rSetL) D σ H := by
  obtain ⟨A, ts, hA, c, hp⟩ := h
  refine ⟨A, ts, hA, ?_⟩
  unfold fSetI at hp
  cases ea : fe A with
  | stuck => rw [ea] at hp; exact (pS_stuck hp).elim
  | exc c A1 => rw [ea] at hp; exact fun H' h' => hp σ H' h'
  | ok e A1 =>
    rw [ea] at hp
    simp only [Ou.bind_ok] at hp
    intro y H1 h1
    split at hp
    · exact (pS_stuck hp).elim
    · rename_i e' A2 ec
      obtain ⟨h2, n2⟩ := h1.closeD ec
      split at hp
      · exact (pS_stuck hp).elim
      · rename_i ds0 e0
        obtain ⟨p0, xs0, ev, hp0, _, h3⟩ := h2.slotAl (slotL_get e0)
        refine ⟨.ref p0, ev, A2, (.ref p0, .al i) :: (y, e') :: ts, h3, ?_⟩
        cases ek : fk A2 with
        | stuck => rw [ek] at hp; exact (pS_stuck hp).elim
        | exc c A3 => rw [ek] at hp; exact fun H' h' => hp σ H' h'.drop.drop
        | ok k A3 =>
          rw [ek] at hp
          simp only [Ou.bind_ok] at hp
          intro u H3 h4
          split at hp
          · rename_i k ds es
            split at hp
            · rename_i j ej
              have eu := h4.int
              have h5 : z.A σ A3 ((y, e') :: (.ref p0, .al i) :: ts) H3 := h4.drop.perm (List.Perm.swap _ _ _)
              obtain ⟨p, xs, q, hp2, hlen, h6⟩ := (h5.swapMove (slotL_get es)).setAt n2 (ixN_lt ej)
              cases q
              have h7 := h6.put (fun j q => nomatch q) (set_none_get (slotL_get es)) ev
              rw [List.set_set] at h7
              exact ⟨p0, xs, k, j, rfl, eu, hp2, by rw [hlen]; exact ej, hp σ _ h7⟩
            · exact (pS_stuck hp).elim
          · exact (pS_stuck hp).elim
theorem qe_app {i : Nat} {o e : Expr} {apos cpos : Pos} (hK : X.K = z.K) (ho : PE X o (tVar i)) (he : PE X e (tE z fe))
    (hbase : attributeBase o "append" X.env (eval o X.env) = eval o X.env := by rfl)
    (hfew : ((backTo cpos (starEach [e] X.env)).all (fun x => !x.1) && (backToKw cpos (keywordEach [] X.env)).all (fun x => x.1.isSome)
      && decide ([e].length + ([] : List Keyword).length + (if ([] : List Keyword).isEmpty then 0 else 1) < 30)) = true := by rfl)
    (hline : (apos.endLine == cpos.line) = true := by rfl) (hs : starEach [e] X.env = (false, eval e X.env) :: starEach [] X.env := by rfl) (hplain : (backTo cpos (starEach [] X.env)).any (·.1) = false := by rfl) :
    PE X (.Call (.Attribute o "append" apos) [e] [] cpos) (tE z (fApp i fe)) :=
  PE.imp (pe_bm PySem.F.plainAttrs_list PySem.F.slot_list_append PySem.F.type_list_append mt_append ho (pa_cons he pa_nil hs) hbase hfew hline hs hplain) fun _ _ _ h => by rw [hK]; exact app_go h
theorem qe_ext {i : Nat} {o e : Expr} {apos cpos : Pos} (hK : X.K = z.K) (ho : PE X o (tVar i)) (he : PE X e (tE z fe))
    (hbase : attributeBase o "extend" X.env (eval o X.env) = eval o X.env := by rfl)
    (hfew : ((backTo cpos (starEach [e] X.env)).all (fun x => !x.1) && (backToKw cpos (keywordEach [] X.env)).all (fun x => x.1.isSome)
      && decide ([e].length + ([] : List Keyword).length + (if ([] : List Keyword).isEmpty then 0 else 1) < 30)) = true := by rfl)
    (hline : (apos.endLine == cpos.line) = true := by rfl) (hs : starEach [e] X.env = (false, eval e X.env) :: starEach [] X.env := by rfl) (hplain : (backTo cpos (starEach [] X.env)).any (·.1) = false := by rfl) :
    PE X (.Call (.Attribute o "extend" apos) [e] [] cpos) (tE z (fExt i fe)) :=
  PE.imp (pe_bm PySem.F.plainAttrs_list PySem.F.slot_list_extend PySem.F.type_list_extend mt_extend ho (pa_cons he pa_nil hs) hbase hfew hline hs hplain) fun _ _ _ h => by rw [hK]; exact ext_go h
theorem qe_clr {i : Nat} {o : Expr} {apos cpos : Pos} (hK : X.K = z.K) (ho : PE X o (tVar i)) (hbase : attributeBase o "clear" X.env (eval o X.env) = eval o X.env := by rfl) (hline : (apos.endLine == cpos.line) = true := by rfl) :
    PE X (.Call (.Attribute o "clear" apos) [] [] cpos) (tE z (fClr i)) :=
  PE.imp (pe_bm0 PySem.F.plainAttrs_list PySem.F.slot_list_clear PySem.F.type_list_clear mt_clear ho hbase hline) fun _ _ _ h => by rw [hK]; exact clr_go h
theorem qs_setI {i : Nat} {o k e : Expr} {fk : FE} {p pos : Pos} (ho : PE X o (tVar i)) (hk : PE X k (tE z fk)) (he : PE X e (tE z fe))
    (ha : ∀ v, assign (.Subscript o k p) X.env v = (do
      let ov ← holding [v] (eval o X.env)
      let iv ← holding [v, ov] (eval k X.env)
      standAt p
      holding [v, ov, iv] (setItem ov iv v)
      release [v, ov, iv] []) := by intro _; rfl)
    (hs : swapsWithSole [.Subscript o k p] e pos.line X.env = pure false := by rfl) (hw : swappedStores [.Subscript o k p] e X.env = pure none := by rfl)
    (h1 : (assignEach [.Subscript o k p] X.env).map (·.2) = [assign (.Subscript o k p) X.env] := by rfl) : PS X (.Assign [.Subscript o k p] e pos) (tS z (fSetI i fk fe)) :=
  PS.imp (ps_asg he (pg_sub ho hk set_list ha) hs hw h1) fun _ _ _ h => setI_go h
end

/-! ### comprehensions -/
def wipeA (A : Sl) : List Nat → Sl
  | [] => A
  | i :: is => (wipeA A is).set i none
def compL (t : Tg) (ft : FT) (fe : FE) : List D → List D → Sl → Ou (List D)
  | [], acc, A => .ok acc A
  | d :: ds, acc, A => match t.set d A with
    | none => .stuck
    | some A1 => match ft A1 with
      | .ok true A2 => match fe A2 with
        | .ok e A3 => match closeD e A3 with
          | some (e', A4) => if acc.length < sizeLine then compL t ft fe ds (acc ++ [e']) (wipeA A4 t.own) else .stuck
          | none => .stuck
        | _ => .stuck
      | .ok false A2 => compL t ft fe ds acc (wipeA A2 t.own)
      | _ => .stuck
/-- [e for t in .. if c]: behind it the slots of t are told nothing of -/
def fComp (fi : FI) (t : Tg) (ft : FT) (fe : FE) : FE := fun A => (fi A).bind fun ds A1 => match compL t ft fe ds [] (wipeA A1 t.own) with
  | .ok es A2 => .ok (.mu es) (wipeA A2 t.own)
  | _ => .stuck
def fYes : FT := fun A => .ok true A
/-- the temporaries that are no aliases -/
def clsd (ts : Ts) : Ts := ts.filter fun p => match p.2 with | .al _ => false | _ => true
section
variable {K : PySem.W.Frag} {B : Bs} {G H : Hp} {σ σ' : L2.St} {A : Sl} {ts : Ts} {L : List Addr}
theorem clsd_cl : Cl (clsd ts) := fun p hp i e => by
  have := (List.mem_filter.mp hp).2
  rw [e] at this
  exact nomatch this
theorem Tms.clsd (t : Tms K σ G H ts L) : Tms K σ' G H (Ab.clsd ts) L := by
  induction t with
  | nil => exact .nil
  | @cons v d L L' ts r t ih =>
    have : Ab.clsd ((v, d) :: ts) = (v, d) :: Ab.clsd ts := by
      unfold Ab.clsd
      rw [List.filter_cons_of_pos]
      cases d <;> first | rfl | exact r.not_al.elim
    rw [this]
    exact .cons r ih
  | @al v i L ts e t ih =>
    have : Ab.clsd ((v, .al i) :: ts) = Ab.clsd ts := by
      unfold Ab.clsd
      rw [List.filter_cons_of_neg]
      intro z; exact nomatch z
    rw [this]
    exact ih
/-- the aliases of ts speak of σ -/
def AlAt (σ : L2.St) (ts : Ts) : Prop := ∀ v i, (v, D.al i) ∈ ts → σ[i]? = some (some v)
theorem Tms.alAt (t : Tms K σ G H ts L) : AlAt σ ts := by
  induction t with
  | nil => exact fun _ _ h => nomatch h
  | cons r _ ih =>
    intro v i h
    rcases List.mem_cons.mp h with h | h
    · cases h; exact r.not_al.elim
    · exact ih v i h
  | al e _ ih =>
    intro v i h
    rcases List.mem_cons.mp h with h | h
    · cases h; exact e
    · exact ih v i h
theorem Tms.unclsd : ∀ {ts : Ts} {L : List Addr}, Tms K σ' G H (Ab.clsd ts) L → AlAt σ ts → Tms K σ G H ts L
  | [], L, t, _ => by cases t; exact .nil
  | (v, d) :: ts, L, t, a => by
    have a' : AlAt σ ts := fun v i h => a v i (List.mem_cons_of_mem _ h)
    by_cases hd : ∃ i, d = .al i
    · obtain ⟨i, rfl⟩ := hd
      have e : Ab.clsd ((v, .al i) :: ts) = Ab.clsd ts := by
        unfold Ab.clsd
        rw [List.filter_cons_of_neg]
        intro z; exact nomatch z
      rw [e] at t
      exact .al (a v i List.mem_cons_self) (Tms.unclsd t a')
    · have e : Ab.clsd ((v, d) :: ts) = (v, d) :: Ab.clsd ts := by
        unfold Ab.clsd
        rw [List.filter_cons_of_pos]
        cases d <;> first | rfl | exact absurd ⟨_, rfl⟩ hd
      rw [e] at t
      cases t with
      | cons r t => exact .cons r (Tms.unclsd t a')
      | al _ _ => exact absurd ⟨_, rfl⟩ hd
theorem Sls.congr (s : Sls K G H σ A L) : ∀ {σ' : L2.St}, σ'.length = σ.length → (∀ (i : Nat) d, A[i]? = some (some d) → σ'[i]? = σ[i]?) → Sls K G H σ' A L := by
  induction s with
  | nil => intro σ' hl _; have : σ' = [] := by simpa using hl
           subst this; exact .nil
  | skip s ih =>
    intro σ' hl h
    cases σ' with
    | nil => simp at hl
    | cons o σ' => exact .skip (ih (by simpa using hl) fun i d e => by simpa using h (i + 1) d (by simpa using e))
  | cons r s ih =>
    intro σ' hl h
    cases σ' with
    | nil => simp at hl
    | cons o σ' =>
      have e0 := h 0 _ rfl
      simp at e0
      subst e0
      exact .cons r (ih (by simpa using hl) fun i d e => by simpa using h (i + 1) d (by simpa using e))
theorem wipeA_len : ∀ (is : List Nat) (A : Sl), (wipeA A is).length = A.length
  | [], _ => rfl
  | i :: is, A => by simp [wipeA, wipeA_len is A]
theorem wipeA_in : ∀ {is : List Nat} {A : Sl} {i : Nat} {d : D}, (wipeA A is)[i]? = some (some d) → i ∉ is
  | [], _, _, _, _ => fun h => nomatch h
  | j :: is, A, i, d, h => fun m => by
    rcases List.mem_cons.mp m with e | m
    · subst e
      unfold wipeA at h
      rw [List.getElem?_set] at h
      simp at h
    · unfold wipeA at h
      rw [List.getElem?_set] at h
      split at h
      · split at h <;> simp at h
      · exact wipeA_in h m
theorem wipe_off : ∀ (is : List Nat) (σ : L2.St), SameOff is σ (wipe σ is)
  | [], σ => .refl
  | i :: is, σ => by
    have ih := wipe_off is σ
    refine SameOff.set ⟨ih.1, fun j hj => ih.2 j fun m => hj (List.mem_cons_of_mem _ m)⟩ List.mem_cons_self
theorem Abs.wipeA (is : List Nat) (h : Abs K B σ A ts H) : Abs K B σ (Ab.wipeA A is) ts H := by
  induction is with
  | nil => exact h
  | cons i is ih => exact ih.forget
/-- into a block: its own slots told nothing of, no aliases -/
theorem Abs.block {is : List Nat} (h : Abs K B σ A ts H) (so : SameOff is σ σ') : Abs K B σ' (Ab.wipeA A is) (Ab.clsd ts) H := by
  obtain ⟨G, L1, L2, gd, tm, sl, nd, ow⟩ := h.wipeA is
  exact ⟨G, L1, L2, gd, tm.clsd, sl.congr so.1 fun i d e => so.2 i (wipeA_in e), nd, ow⟩
/-- .. and out of it -/
theorem Abs.unblock {is : List Nat} {tmp : Ts} (h : Abs K B σ' A (tmp ++ Ab.clsd ts) H) (ct : Cl tmp) (so : SameOff is σ σ') (al : AlAt σ ts) : Abs K B σ (Ab.wipeA A is) (tmp ++ ts) H := by
  obtain ⟨G, L1, L2, gd, tm, sl, nd, ow⟩ := h.wipeA is
  have e : Ab.clsd (tmp ++ ts) = tmp ++ Ab.clsd ts := by
    unfold Ab.clsd
    rw [List.filter_append]
    congr 1
    refine List.filter_eq_self.mpr fun p hp => ?_
    have := ct p hp
    cases p with
    | mk v d => cases d <;> first | rfl | exact absurd rfl (this _)
  refine ⟨G, L1, L2, gd, Tms.unclsd (by rw [e]; exact tm) fun v i h => ?_, sl.congr so.1.symm fun i d e => (so.2 i (wipeA_in e)).symm, nd, ow⟩
  rcases List.mem_append.mp h with m | m
  · exact absurd rfl (ct _ m i)
  · exact al v i m
theorem SameOff.symm {is : List Nat} (h : SameOff is σ σ') : SameOff is σ' σ := ⟨h.1.symm, fun i hi => (h.2 i hi).symm⟩
theorem SameOff.trans {is : List Nat} {τ : L2.St} (h : SameOff is σ σ') (k : SameOff is σ' τ) : SameOff is σ τ := ⟨k.1.trans h.1, fun i hi => (k.2 i hi).trans (h.2 i hi)⟩
theorem clsd_id {tmp : Ts} (ct : Cl tmp) : Ab.clsd tmp = tmp := List.filter_eq_self.mpr fun p hp => by
  have := ct p hp
  cases p with
  | mk v d => cases d <;> first | rfl | exact absurd rfl (this _)
theorem clsd_app {tmp : Ts} (ct : Cl tmp) : Ab.clsd (tmp ++ ts) = tmp ++ Ab.clsd ts := by
  have e := clsd_id ct
  unfold Ab.clsd at e ⊢
  rw [List.filter_append, e]
theorem wipe_in : ∀ {is : List Nat} {σ : L2.St} {i : Nat}, i ∈ is → i < σ.length → (wipe σ is)[i]? = some none
  | j :: is, σ, i, m, h => by
    unfold wipe
    rw [List.getElem?_set]
    split
    · rename_i e
      subst e
      rw [wipe_length, if_pos h]
    · rename_i ne
      exact wipe_in ((List.mem_cons.mp m).resolve_left fun e => ne e.symm) h
theorem wipe_ext {is : List Nat} {σ σ' : L2.St} (so : SameOff is σ σ') : wipe σ' is = wipe σ is := by
  apply List.ext_getElem?
  intro i
  by_cases hi : i ∈ is
  · by_cases hl : i < σ.length
    · rw [wipe_in hi hl, wipe_in hi (by rw [so.1]; exact hl)]
    · rw [List.getElem?_eq_none (by rw [wipe_length, so.1]; omega), List.getElem?_eq_none (by rw [wipe_length]; omega)]
  · rw [(wipe_off is σ').2 i hi, (wipe_off is σ).2 i hi, so.2 i hi]
end
section
variable {z : Z} {X : Cx}
/-- within a block nothing is raised -/
abbrev Z.q (z : Z) : Z := { z with W := fun _ _ _ _ => False }
theorem comp_go {t : Tg} {fi : FI} {ft : FT} {fe : FE} {σ : L2.St} {H : Hp} {Q : VK} (h : tE z (fComp fi t ft fe) σ H Q) : tLc (tI z fi) (t.read z.K) (tT z.q ft) (tE z.q fe) t.own σ H Q := by
  obtain ⟨A, ts, hA, hp⟩ := h
  refine ⟨A, ts, hA, ?_⟩
  unfold fComp at hp
  cases ea : fi A with
  | stuck => rw [ea] at hp; exact (show False from hp).elim
  | exc c A1 => rw [ea] at hp; exact hp
  | ok ds A1 =>
    rw [ea] at hp
    simp only [Ou.bind_ok] at hp
    intro J tmp H1 ctmp it h1 Dl hD
    have al : AlAt σ ts := by
      obtain ⟨_, _, _, _, tm, _⟩ := h1.dropn
      exact tm.alAt
    have so : SameOff t.own σ (wipe σ t.own) := wipe_off _ _
    -- what a turn's start bears, what is wanted
    let Post : Ou (List D) → Prop := fun o => match o with
      | .ok es A2 => ∀ H', z.A (wipe σ t.own) A2 ((.ref Dl, .mu es) :: (tmp ++ Ab.clsd ts)) H' → Q (.ref Dl) H'
      | _ => False
    have hpost : Post (compL t ft fe ds [] (Ab.wipeA A1 t.own)) := by
      cases ec : compL t ft fe ds [] (Ab.wipeA A1 t.own) with
      | stuck => rw [ec] at hp; exact (show False from hp).elim
      | exc c A2 => rw [ec] at hp; exact (show False from hp).elim
      | ok es A2 =>
        rw [ec] at hp
        intro H' h'
        have h2 : z.A (wipe σ t.own) A2 ([(.ref Dl, .mu es)] ++ Ab.clsd ts) H' := h'.dropMid
        exact hp _ _ (h2.unblock (fun p m j e => by rw [List.mem_singleton.mp m] at e; cases e) so al)
    have h0 : z.A (wipe σ t.own) (Ab.wipeA A1 t.own) (tmp ++ Ab.clsd ts) H1 := by
      have := h1.block so
      rw [clsd_app ctmp] at this
      exact this
    have cT : Cl (tmp ++ Ab.clsd ts) := ctmp.app clsd_cl
    have cTD : ∀ es, Cl (tmp ++ (V.ref Dl, D.mu es) :: Ab.clsd ts) := fun es p hp => by
      rcases List.mem_append.mp hp with m | m
      · exact ctmp p m
      · rcases List.mem_cons.mp m with m | m
        · intro j e; rw [m] at e; cases e
        · exact clsd_cl p m
    refine ⟨fun i m H' => ∃ A' es, z.A (wipe σ t.own) A' ((.ref Dl, .mu es) :: (tmp ++ Ab.clsd ts)) H' ∧ m = ds.length - i ∧ i ≤ ds.length ∧ Post (compL t ft fe (ds.drop i) es A'), ⟨_, Ab.wipeA A1 t.own, [], Abs.lst (vs := []) (ds := []) rfl rfl h0 hD, rfl, Nat.zero_le _, hpost⟩, fun i m H' hW => ?_⟩
    obtain ⟨A', es, h', rfl, hi, hq⟩ := hW
    have hm : z.A (wipe σ t.own) A' (tmp ++ (.ref Dl, .mu es) :: Ab.clsd ts) H' := h'.perm (by simpa using (List.perm_middle (l₁ := tmp) (a := (V.ref Dl, D.mu es)) (l₂ := Ab.clsd ts)).symm)
    by_cases hlt : i < ds.length
    · refine .inr ⟨it.go _ A' _ H' i hm hlt, fun H2 => ∃ A2 es2, z.A (wipe σ t.own) A2 ((.ref Dl, .mu es2) :: (tmp ++ Ab.clsd ts)) H2 ∧ Post (compL t ft fe (ds.drop (i + 1)) es2 A2), fun H2 ⟨A2, es2, h2, q2⟩ => ⟨ds.length - (i + 1), by omega, A2, es2, h2, rfl, hlt, q2⟩, fun x H2 hy => ?_⟩
      have h2 := it.yld _ A' _ H' i x H2 ds[i] hm (List.getElem?_eq_getElem hlt) hy
      have hdrop : ds.drop i = ds[i] :: ds.drop (i + 1) := List.drop_eq_getElem_cons hlt
      rw [hdrop] at hq
      unfold compL at hq
      cases eset : t.set ds[i] A' with
      | none => rw [eset] at hq; exact (show False from hq).elim
      | some A3 =>
        rw [eset] at hq
        simp only at hq
        refine tg_go h2 (cTD es) eset fun σ3 h3 so3 => ⟨wipe_ext (so.trans so3), A3, _, h3, ?_⟩
        have soB : SameOff t.own σ3 (wipe σ t.own) := so3.symm
        cases et : ft A3 with
        | stuck => rw [et] at hq; exact (show False from hq).elim
        | exc c A4 => rw [et] at hq; exact (show False from hq).elim
        | ok b A4 =>
          rw [et] at hq
          intro H3 h4
          cases b with
          | false =>
            rw [if_neg Bool.false_ne_true]
            have h5 : z.A σ3 A4 ((.ref Dl, .mu es) :: (tmp ++ Ab.clsd ts)) H3 := h4.perm List.perm_middle
            have h6 := h5.block soB
            rw [clsd_id (fun p hp => (List.mem_cons.mp hp).elim (fun e j q => by rw [e] at q; cases q) (cT p))] at h6
            exact ⟨_, es, h6, hq⟩
          | true =>
            rw [if_pos rfl]
            simp only at hq
            refine ⟨A4, _, h4, ?_⟩
            cases ee : fe A4 with
            | stuck => rw [ee] at hq; exact (show False from hq).elim
            | exc c A5 => rw [ee] at hq; exact (show False from hq).elim
            | ok e A5 =>
              rw [ee] at hq
              simp only at hq
              intro y H4 h5
              split at hq
              · rename_i e' A6 ecl
                obtain ⟨h6, n6⟩ := h5.closeD ecl
                split at hq
                · rename_i hl
                  have h7 : z.A σ3 A6 ((y, e') :: (.ref Dl, .mu es) :: (tmp ++ Ab.clsd ts)) H4 := h6.perm (List.Perm.cons _ List.perm_middle)
                  obtain ⟨p, xs, q, hp2, hlen, h8⟩ := h7.app n6
                  cases q
                  have h9 := h8.block soB
                  rw [clsd_id (fun p hp => (List.mem_cons.mp hp).elim (fun e j q => by rw [e] at q; cases q) (cT p))] at h9
                  exact ⟨xs, hp2, by rw [hlen]; exact hl, _, _, h9, hq⟩
                · exact (show False from hq).elim
              · exact (show False from hq).elim
    · have e : i = ds.length := by omega
      subst e
      rw [List.drop_length] at hq
      exact .inl ⟨it.stop _ A' _ H' _ hm (Nat.le_refl _), hq H' h'⟩
theorem qe_comp {elt tg iter : Expr} {ifs : List Expr} {scope : Scope} {own : List (Str × Nat)} {pos : Pos} {t : Tg} {fi : FI} {ft : FT} {fe : FE} (hc : X.calm = true) (hN : X.N.Nodup) (hK : X.K = z.K) (ho : own.map (·.2) = t.own) (hi : PI X tg iter (tI z fi)) (ok : BlkOk X.N X.env.scope scope own)
    (hg : ∀ (s : Shared) (H : Hp) (C : Addr) (cl : List (Str × Addr)) (fp : List Addr), PG (X.blk s H scope (compEnvC scope cl C X.env) fp) tg (t.read X.K)) (ht : ∀ (s : Shared) (H : Hp) (C : Addr) (cl : List (Str × Addr)) (fp : List Addr), PTs (X.blk s H scope (compEnvC scope cl C X.env) fp) ifs (tT z.q ft))
    (he : ∀ (s : Shared) (H : Hp) (C : Addr) (cl : List (Str × Addr)) (fp : List Addr), PE (X.blk s H scope (compEnvC scope cl C X.env) fp) elt (tE z.q fe)) (hs : ∀ x, foldedSetIterable iter X.env x = pure x := by intro _; rfl) :
    PE X (.ListComp elt [⟨tg, iter, ifs, 0⟩] scope pos) (tE z (fComp fi t ft fe)) :=
  PE.imp (pe_lc hc hN hi ok hg ht he hs) fun _ _ _ h => by rw [hK, ho]; exact comp_go h
theorem qs_comp {i : Nat} {y : Str} {py : Pos} {elt tg iter : Expr} {ifs : List Expr} {scope : Scope} {own : List (Str × Nat)} {pos spos : Pos} {t : Tg} {fi : FI} {ft : FT} {fe : FE} (hc : X.calm = true) (hN : X.N.Nodup) (hK : X.K = z.K) (ho : own.map (·.2) = t.own) (hy : X.N[i]? = some y) (hyl : X.env.scope.names.lookup y = some .local)
    (hsw : swapsWith (.ListComp elt [⟨tg, iter, ifs, 0⟩] scope pos) (some (.Name y py)) spos.line X.env = pure true) (hi : PI X tg iter (tI z fi)) (ok : BlkOk X.N X.env.scope scope own)
    (hg : ∀ (s : Shared) (H : Hp) (C : Addr) (cl : List (Str × Addr)) (fp : List Addr), PG (X.blk s H scope (compEnvC scope cl C X.env) fp) tg (t.read X.K)) (ht : ∀ (s : Shared) (H : Hp) (C : Addr) (cl : List (Str × Addr)) (fp : List Addr), PTs (X.blk s H scope (compEnvC scope cl C X.env) fp) ifs (tT z.q ft))
    (he : ∀ (s : Shared) (H : Hp) (C : Addr) (cl : List (Str × Addr)) (fp : List Addr), PE (X.blk s H scope (compEnvC scope cl C X.env) fp) elt (tE z.q fe)) (hs : ∀ x, foldedSetIterable iter X.env x = pure x := by intro _; rfl) :
    PS X (.Assign [.Name y py] (.ListComp elt [⟨tg, iter, ifs, 0⟩] scope pos) spos) (tS z (fAsg i (fComp fi t ft fe))) :=
  PS.imp (ps_setLc hc hN hy hyl hsw hi ok hg ht he hs) fun D σ H h => by
    have := asg_go h
    obtain ⟨A, ts, hA, hp⟩ := this
    rw [hK, ho]
    exact comp_go ⟨A, ts, hA, hp⟩
theorem qs_compF {i : Nat} {y : Str} {py : Pos} {elt tg iter : Expr} {ifs : List Expr} {scope : Scope} {own : List (Str × Nat)} {pos spos : Pos} {t : Tg} {fi : FI} {ft : FT} {fe : FE} (hc : X.calm = true) (hN : X.N.Nodup) (hK : X.K = z.K) (ho : own.map (·.2) = t.own) (hy : X.N[i]? = some y) (hyl : X.env.scope.names.lookup y = some .local)
    (hsw : swapsWith (.ListComp elt [⟨tg, iter, ifs, 0⟩] scope pos) (some (.Name y py)) spos.line X.env = pure true) (hi : PI X tg iter (tI z fi)) (ok : BlkOk X.N X.env.scope scope own)
    (hg : ∀ (s : Shared) (H : Hp) (C : Addr) (cl : List (Str × Addr)) (fp : List Addr), PG (X.blk s H scope (compEnvC scope cl C X.env) fp) tg (t.read X.K)) (ht : ∀ (s : Shared) (H : Hp) (C : Addr) (cl : List (Str × Addr)) (fp : List Addr), PTs (X.blk s H scope (compEnvC scope cl C X.env) fp) ifs (tT z.q ft))
    (he : ∀ (s : Shared) (H : Hp) (C : Addr) (cl : List (Str × Addr)) (fp : List Addr), PE (X.blk s H scope (compEnvC scope cl C X.env) fp) elt (tE z.q fe)) (hs : ∀ x, foldedSetIterable iter X.env x = pure x := by intro _; rfl) :
    PS X (.Assign [.Name y py] (.ListComp elt [⟨tg, iter, ifs, 0⟩] scope pos) spos) (tS z (fAsgF i (fComp fi t ft fe))) :=
  PS.imp (ps_setLc hc hN hy hyl hsw hi ok hg ht he hs) fun D σ H h => by
    have := asgF_go h
    obtain ⟨A, ts, hA, hp⟩ := this
    rw [hK, ho]
    exact comp_go ⟨A, ts, hA, hp⟩
theorem qts_nil : PTs X [] (tT z fYes) := ⟨fun pins s σ H Q I ⟨A, ts, hA, hp⟩ => pts_nil.run pins s σ H Q I (hp _ hA)⟩
theorem qts_one {c : Expr} {ft : FT} (h : PT X c (tT z ft)) : PTs X [c] (tT z ft) := pts_one h
end

/-! ### a def -/
def runF (n : Nat) (fb : FS) (ds : List D) : Ro := match fb (ds.map some ++ List.replicate (n - ds.length) none) with
  | .ok (.ret (.al _)) _ => .stuck
  | .ok (.ret d) _ => .ok d
  | .ok .next _ => .ok .non
  | .ok _ _ => .stuck
  | .exc c _ => .exc c
  | .stuck => .stuck
/-- .. for so many parameters alone -/
def defF (k n : Nat) (fb : FS) (ds : List D) : Ro := if ds.length = k then runF n fb ds else .stuck
theorem defF_len {k n : Nat} {fb : FS} (ds : List D) (h : defF k n fb ds ≠ .stuck) : ds.length = k := by
  unfold defF at h
  split at h
  · assumption
  · exact absurd rfl h
section
variable {P : Program} {w : World} {K : PySem.W.Frag} {mg : Str → Option Value} {base : Heap}
theorem sls_start {G H : Hp} : ∀ {vs : List V} {ds : List D} (m : Nat), Rs K G H vs ds [] → Sls K G H (vs.map some ++ List.replicate m none) (ds.map some ++ List.replicate m none) []
  | [], [], 0, _ => .nil
  | [], [], m + 1, r => by
    rw [List.replicate_succ]
    exact .skip (sls_start m r)
  | v :: vs, d :: ds, m, r => by
    generalize hL : ([] : List Addr) = L0 at r
    cases r with
    | cons r t =>
      obtain ⟨e1, e2⟩ := List.append_eq_nil_iff.mp hL.symm
      subst e1; subst e2
      exact Sls.cons r (sls_start m t)
/-- THE RULE for a def: its body as a term of rules over what is told -/
theorem ok_def {x qual : Str} {st : Stmt} {f : Addr} {fd : FuncData} {N ps : List Str} {k np nn : Nat} {cl : Str → Value} {fb : FS} (hnp : ps.length = np) (hnn : N.length = nn) (F : Fun K x qual st f fd) (S : FnScope N ps (defScope st))
    (hbody : ∀ (cdv : Value) (A : Around) (outer : List Env) (s : Shared) (H : Hp) (E : XK) (B : Bs), Room k (A.deeper (envOfC qual (defScope st) s.heap.objs.size f cdv)) →
      Takes (cxOf (L2.CX P w) P w K mg base N qual (defScope st) f cdv A outer s H E) (fun cls d _ H => E cls d H) →
      PassesOwn (model P w) (cxOf (L2.CX P w) P w K mg base N qual (defScope st) f cdv A outer s H E).A (cxOf (L2.CX P w) P w K mg base N qual (defScope st) f cdv A outer s H E).env (cxOf (L2.CX P w) P w K mg base N qual (defScope st) f cdv A outer s H E).xe →
      PSs (cxOf (L2.CX P w) P w K mg base N qual (defScope st) f cdv A outer s H E) (defBody st) (tS ⟨K, B, cl, fun cls d _ H => E cls d H⟩ fb)) :
    FnOk P w K mg base (L2.CX P w) (k + 1) f fd ps (spF K cl np (defF np nn fb)) := by
  subst hnp; subst hnn
  refine F.okX S (fun vs H Q E h => ?_) (fun cdv A outer s H vs Q E hr h => ?_)
  · obtain ⟨G, ds, _, hl, rs, _⟩ := h
    rw [rs.length]; exact hl
  · obtain ⟨G, ds, gh, hl, rs, h⟩ := h
    refine ⟨_, hbody cdv A outer s H E ⟨G, H, []⟩ hr (takes_of rfl rfl rfl rfl) (passes_of rfl), ds.map some ++ List.replicate (N.length - ds.length) none, [], ?_, (fun _ m => nomatch m), ?_⟩
    · refine ⟨G, [], [], ⟨gh, fun _ _ e => e, fun _ _ _ e => e, fun _ _ _ e => e, (fun _ m => nomatch m)⟩, .nil, ?_, List.nodup_nil, (fun _ m => nomatch m)⟩
      unfold L2.start
      rw [rs.length]
      exact sls_start _ rs.unown
    · unfold defF at h
      rw [if_pos hl] at h
      unfold runF at h
      cases eb : fb (ds.map some ++ List.replicate (N.length - ds.length) none) with
      | stuck => rw [eb] at h; exact (show False from h).elim
      | exc c A' =>
        rw [eb] at h
        intro σ' H' h'
        obtain ⟨G', L1, L2, gd, _⟩ := h'
        exact h H' fun a o e => gd.bh a o (fun m => nomatch m) e
      | ok r A' =>
        rw [eb] at h
        have fin : ∀ {d : D} {v : V} {σ' : L2.St} {H' : Hp}, (∀ v H' G' L, Same H H' → Same G G' → Same G' H' → (∀ a, H a ≠ none → G a = none → G' a = none) → R K G' H' v d L → L.Nodup → (∀ a ∈ L, H a = none) → Q v H') →
            Abs K ⟨G, H, []⟩ σ' A' ((v, d) :: []) H' → (∀ j, d ≠ .al j) → Q v H' := by
          intro d v σ' H' hq h' nd
          obtain ⟨G', L1, L2, gd, tm, sl, ndp, ow⟩ := h'
          cases tm with
          | al _ _ => exact absurd rfl (nd _)
          | cons r t =>
            rename_i La Lb
            refine hq v H' G' La (fun a o e => gd.bh a o (fun m => nomatch m) e) gd.bg gd.gh (fun a e1 e2 => gd.sep a (fun m => nomatch m) e1 e2) r ?_ fun a ha => ?_
            · rw [List.append_assoc] at ndp; exact (List.nodup_append.mp ndp).1
            · exact (ow a (List.mem_append_left _ (List.mem_append_left _ ha))).resolve_right fun m => nomatch m
        cases r with
        | next => exact fun σ' H' h' => fin h h'.pnon fun j q => nomatch q
        | brk => exact (show False from h).elim
        | cont => exact (show False from h).elim
        | ret d =>
          intro v σ' H' h'
          cases d <;> first | exact (show False from h).elim | exact fin h h' fun j q => nomatch q
end
end Ab
end
section
namespace Ab
open PySem PySem.Spec PyProof.Rows L2

/-! ### methods by values that change nothing -/
def fMt (g : D → List D → Sl → Option D) (fo : FE) (fa : FA) : FE := fun A => (fo A).bind fun d A1 => (fa A1).bind fun ds A2 => match g d ds A2 with
  | some r => .ok r A2
  | none => .stuck
/-- what the receiver must be, seen ahead of the arguments -/
def fMtL (g : D → List D → Sl → Option D) (fo : FE) (fa : FA) : FE := fun A => (fo A).bind fun d A1 => match lsOf (see A1 d) with
  | none => .stuck
  | some _ => (fa A1).bind fun ds A2 => match g d ds A2 with
    | some r => .ok r A2
    | none => .stuck
def MtD (z : Z) (r : V → List V → Hp → VK → Prop) (g : D → List D → Sl → Option D) : Prop :=
  ∀ (σ : L2.St) (A : Sl) (ts : Ts) (H : Hp) (v : V) (d : D) (vs : List V) (ds : List D) (d' : D), vs.length = ds.length → z.A σ A (vs.zip ds ++ (v, d) :: ts) H → g d ds A = some d' → ∀ Q : VK, (∀ w H', z.A σ A ((w, d') :: ts) H' → Q w H') → r v vs H Q
section
variable {z : Z} {X : Cx}
theorem mtL_go {r : V → List V → Hp → VK → Prop} {g : D → List D → Sl → Option D} {fo : FE} {fa : FA} (hd : MtD z r g) {σ : L2.St} {H : Hp} {Q : VK} (h : tE z (fMtL g fo fa) σ H Q) : tBM z.K "list" r (tE z fo) (tA z fa) σ H Q := by
  obtain ⟨A, ts, hA, hp⟩ := h
  refine ⟨A, ts, hA, ?_⟩
  unfold fMtL at hp
  cases ea : fo A with
  | stuck => rw [ea] at hp; exact (show False from hp).elim
  | exc c A1 => rw [ea] at hp; exact hp
  | ok d A1 =>
    rw [ea] at hp
    simp only [Ou.bind_ok] at hp
    intro v H1 h1
    split at hp
    · exact (show False from hp).elim
    · rename_i ls els
      obtain ⟨G, L, gh, rr, _⟩ := h1.open (lsOf_al els)
      obtain ⟨a, xs, _, rfl, sq, _⟩ := rr.list gh els
      refine ⟨.inl ⟨rfl, xs, sq⟩, A1, _, h1, ?_⟩
      cases eb : fa A1 with
      | stuck => rw [eb] at hp; exact (show False from hp).elim
      | exc c A2 => rw [eb] at hp; exact fun H' h' => hp H' h'.drop
      | ok ds A2 =>
        rw [eb] at hp
        simp only [Ou.bind_ok] at hp
        intro vs H2 hl h2
        split at hp
        · rename_i d' eg
          exact hd _ _ _ _ _ _ _ _ _ hl h2 eg Q hp
        · exact (show False from hp).elim
/-! x.index(e) -/
def idxOf (x : PyData) : List PyData → Nat → Option Nat
  | [], _ => none
  | y :: ys, k => if PyData.eqv y x = true then some k else idxOf x ys (k + 1)
theorem idxOf_spec {x : PyData} : ∀ {ys : List PyData} {k j : Nat}, idxOf x ys k = some j → ∃ m y, j = k + m ∧ ys[m]? = some y ∧ PyData.eqv y x = true ∧ ∀ (m' : Nat) y', m' < m → ys[m']? = some y' → PyData.eqv y' x = false
  | [], _, _, h => by simp [idxOf] at h
  | y :: ys, k, j, h => by
    unfold idxOf at h
    split at h
    · rename_i e
      cases h
      exact ⟨0, y, rfl, rfl, e, fun m' _ h => absurd h (Nat.not_lt_zero _)⟩
    · rename_i e
      obtain ⟨m, y', h1, h2, h3, h4⟩ := idxOf_spec h
      refine ⟨m + 1, y', by omega, by simpa using h2, h3, fun m' y2 hm hy => ?_⟩
      cases m' with
      | zero =>
        simp at hy; subst hy
        simpa using e
      | succ m' => exact h4 m' y2 (by omega) (by simpa using hy)
def gIndex (d : D) (ds : List D) (A : Sl) : Option D := match ds with
  | [e] => match lsOf (see A d) with
    | some es => if (okD (see A d) && okD (see A e)) = true then (idxOf (dat (see A e)) (dats es) 0).map fun j => .int (j : Nat) else none
    | none => none
  | _ => none
theorem dat_ls {d : D} {ds : List D} (h : lsOf d = some ds) : dat d = .list (dats ds) := by
  cases d <;> simp only [lsOf] at h <;> cases h <;> simp [dat]
theorem md_index : MtD z (rIndexD z.K) gIndex := by
  intro σ A ts H v d vs ds d' hl h hg Q q
  unfold gIndex at hg
  split at hg
  · rename_i e
    obtain ⟨u, rfl⟩ := call1 hl rfl
    have h : z.A σ A ((u, e) :: (v, d) :: ts) H := h
    split at hg
    · rename_i es hs
      by_cases hk : (okD (see A d) && okD (see A e)) = true
      · rw [if_pos hk] at hg
        rw [Bool.and_eq_true] at hk
        cases hi : idxOf (dat (see A e)) (dats es) 0 with
        | none => rw [hi] at hg; cases hg
        | some j =>
          rw [hi] at hg
          cases hg
          obtain ⟨m, y, e1, h2, h3, h4⟩ := idxOf_spec hi
          obtain ⟨G, L, L', gh, r1, r2, f⟩ := h.open2 (okD_al hk.2) (okD_al hk.1)
          obtain ⟨a, xs, _, rfl, _, _⟩ := r2.list gh hs
          have d2 := r2.dp gh (okD_lay hk.1)
          have s2 : SeqAt.shaped (dat (see A d)) = true := hk.1
          rw [dat_ls hs] at d2 s2
          have e2 : j = m := by omega
          subst e2
          exact ⟨a, u, _, _, j, y, rfl, rfl, d2, r1.dp gh (okD_lay hk.2), s2, hk.2, h2, h3, h4, q _ _ (f.known gh (.int _))⟩
      · rw [if_neg hk] at hg; cases hg
    · cases hg
  · cases hg
theorem qe_index {o e : Expr} {fo : FE} {fa : FA} {apos cpos : Pos} (hu : X.A.units + 65 < cLine) (hK : X.K = z.K) (ho : PE X o (tE z fo)) (he : PA X [e] (tA z fa))
    (hbase : attributeBase o "index" X.env (eval o X.env) = eval o X.env := by rfl)
    (hfew : ((backTo cpos (starEach [e] X.env)).all (fun x => !x.1) && (backToKw cpos (keywordEach [] X.env)).all (fun x => x.1.isSome)
      && decide ([e].length + ([] : List Keyword).length + (if ([] : List Keyword).isEmpty then 0 else 1) < 30)) = true := by rfl)
    (hline : (apos.endLine == cpos.line) = true := by rfl) (hs : starEach [e] X.env = (false, eval e X.env) :: starEach [] X.env := by rfl) (hplain : (backTo cpos (starEach [] X.env)).any (·.1) = false := by rfl) :
    PE X (.Call (.Attribute o "index" apos) [e] [] cpos) (tE z (fMtL gIndex fo fa)) :=
  PE.imp (pe_bm PySem.F.plainAttrs_list PySem.F.slot_list_index PySem.F.type_list_index (mt_indexD hu) ho he hbase hfew hline hs hplain) fun _ _ _ h => by rw [hK]; exact mtL_go (by rw [← hK]; rw [hK]; exact md_index) h

/-! ### sugar for printed terms -/
theorem qv (i : Nat) {x : Str} {pos : Pos} (hN : X.N[i]? = some x := by rfl) (hv : Vis X.env.scope x := by first | exact Or.inl rfl | exact Or.inr (Or.inl rfl) | exact Or.inr (Or.inr rfl)) (hd : (x == ("__debug__" : Str)) = false := by decide)
    (hcd : (x == ("__classdict__" : Str)) = false := by decide) : PE X (.Name x pos) (tE z (fVar i)) := qe_var (pv i hN hv hd hcd)
theorem hu64 {k : Nat} {A : Around} (r : Room k A) : A.units + 64 < cLine := r.units
theorem hu65 {k : Nat} {A : Around} (r : Room k A) : A.units + 65 < cLine := by have := r.un; omega
end
/-- the law's end, from its plain function -/
theorem law_sp {K : PySem.W.Frag} {cl : Str → Value} {F : List D → Ro} {H : Hp} {a : Addr} {ns : List Int} (hF : F [.fro (ns.map D.int)] = .ok (.bl true)) (hS : SqL K H a (ns.map V.int)) : spF K cl 1 F [.ref a] H (fun v _ => v = .bl true) fun _ _ _ => False := by
  have allI : ∀ ns : List Int, Rs K H H (ns.map V.int) (ns.map D.int) [] := by
    intro ns
    induction ns with
    | nil => exact .nil
    | cons n ns ih => exact Rs.cons (.int n) ih
  refine ⟨H, [.fro (ns.map D.int)], fun _ _ e => e, rfl, by simpa using Rs.one (.fro hS (allI ns)), ?_⟩
  rw [hF]
  intro v H' G' L _ _ _ _ r _ _
  cases r
  rfl
theorem law_cx {P : Program} {w : World} {H : Hp} {s : Shared} {e : Value} {s' : Shared} (h : L2.CX P w [] H s (fun _ _ _ => False) e s') : False := by
  obtain ⟨_, _, _, _, _, _, _, _, _, _, _, _, h⟩ := h
  exact h
end Ab
end
section
namespace Ab
open PySem PySem.Spec PyProof.Rows L2

/-! ### slices with a step -/
def pickAt {α : Type} (js : List Nat) (xs : List α) : List α := js.filterMap (xs[·]?)
def pickJs (lo hi st : Option Int) (n : Nat) : List Nat := sliceRange (sliceBounds lo hi st n).1 (sliceBounds lo hi st n).2.1 (sliceBounds lo hi st n).2.2
def pickG {α : Type} (xs : List α) (lo hi st : Option Int) : List α := pickAt (pickJs lo hi st xs.length) xs
theorem slicePick_G (xs : List Value) (lo hi st : Option Int) : slicePick xs.toArray lo hi st = (pickG xs lo hi st).toArray := by
  unfold slicePick pickG pickAt pickJs
  simp only [List.size_toArray, List.getElem?_toArray]
theorem valsPick {xs : List V} {us : List Value} (r : Vals xs us) : ∀ js : List Nat, Vals (pickAt js xs) (pickAt js us)
  | [] => .nil
  | j :: js => by
    have ih := valsPick r js
    unfold pickAt at ih ⊢
    cases e : xs[j]? with
    | none => rw [List.filterMap_cons_none e, List.filterMap_cons_none (r.none_of e)]; exact ih
    | some x =>
      obtain ⟨u, h1, h2⟩ := r.get e
      rw [List.filterMap_cons_some e, List.filterMap_cons_some h1]
      exact .cons h2 ih
theorem rsPick {K : PySem.W.Frag} {G H : Hp} {xs : List V} {ds : List D} (r : Rs K G H xs ds []) : ∀ js : List Nat, Rs K G H (pickAt js xs) (pickAt js ds) []
  | [] => .nil
  | j :: js => by
    have ih := rsPick r js
    unfold pickAt at ih ⊢
    cases e : xs[j]? with
    | none =>
      have l := r.length
      have h2 : xs.length ≤ j := List.getElem?_eq_none_iff.mp e
      rw [List.filterMap_cons_none e, List.filterMap_cons_none (List.getElem?_eq_none_iff.mpr (by omega))]
      exact ih
    | some x =>
      obtain ⟨d, Li, h1, h2, h3⟩ := r.get e
      have e3 := List.sublist_nil.mp h3
      subst e3
      rw [List.filterMap_cons_some e, List.filterMap_cons_some h1]
      exact .cons h2 ih
theorem pickG_le (xs : List V) (us : List Value) (r : Vals xs us) (lo hi st : Option Int) : (pickG xs lo hi st).length ≤ us.length := by
  have h := slicePick_size_le us.toArray lo hi st
  rw [slicePick_G, List.size_toArray, List.size_toArray] at h
  have e : (pickG xs lo hi st).length = (pickG us lo hi st).length := by
    have := (valsPick r (pickJs lo hi st us.length)).length
    unfold pickG
    rw [r.length]
    exact this
  omega
def SlR3 (X : Cx) (r : V → Option Int → Option Int → Option Int → Hp → VK → Prop) : Prop :=
  ∀ (pins : List (Addr × Obj)) (s : Shared) (σ : L2.St) (H : Hp) (x : V) (v vl vu vt : Value) (lo hi st : Option Int) (sl : Addr) (Q : VK), Inv X pins σ H s → RelV x v → s.heap.IsSliceOf sl vl vu vt → IsPart vl lo → IsPart vu hi → IsPart vt st → r x lo hi st H Q →
    ∃ T id, typeLookup (.type T) "__getitem__" = pure (some (.builtin id)) ∧ s.TypeIs v T ∧ wpAny (model X.prog X.w) X.A (getItem v (.ref sl)) (EP X pins σ Q) X.xe s
section
variable {X : Cx}
theorem SlR3.or {r r' : V → Option Int → Option Int → Option Int → Hp → VK → Prop} (h : SlR3 X r) (h' : SlR3 X r') : SlR3 X (fun x lo hi st H Q => r x lo hi st H Q ∨ r' x lo hi st H Q) := by
  intro pins s σ H x v vl vu vt lo hi st sl Q I rx hs pl pu pt q
  rcases q with q | q
  · exact h pins s σ H x v vl vu vt lo hi st sl Q I rx hs pl pu pt q
  · exact h' pins s σ H x v vl vu vt lo hi st sl Q I rx hs pl pu pt q
def tSl3 (r : V → Option Int → Option Int → Option Int → Hp → VK → Prop) (te : TE) (tl th tt : TO) : TE := fun σ H Q => te σ H fun x H1 => tl σ H1 fun l H2 => th σ H2 fun u H3 => tt σ H3 fun t H4 => r x l u t H4 Q
theorem pe_slice3 {e st : Expr} {te : TE} {lo hi : Option Expr} {tl th tt : TO} {pos p2 : Pos} {r : V → Option Int → Option Int → Option Int → Hp → VK → Prop} (hr : SlR3 X r) (he : PE X e te) (hl : PO X lo tl) (hu : PO X hi th) (ht : PO X (some st) tt) : PE X (.Subscript e (.Slice lo hi (some st) p2) pos) (tSl3 r te tl th tt) := by
  refine ⟨fun pins s σ H Q I h => ?_⟩
  refine Subscript_ (thn (he.run pins s σ H _ I h) fun v s1 ⟨x, H1, I1, r1, q1⟩ => ?_)
  refine wpAny_Slice (thn (hl.run pins s1 σ H1 _ I1 q1) fun vl s2 ⟨l, H2, I2, pl, q2⟩ => thn (hu.run pins s2 σ H2 _ I2 q2) fun vu s3 ⟨u, H3, I3, pu, q3⟩ => thn (ht.run pins s3 σ H3 _ I3 q3) fun vt s4 ⟨t, H4, I4, pt, q4⟩ => ?_)
  have I5 : Inv X pins σ H4 { s4 with heap := s4.heap.push { cls := .type "slice", data := .fields #[vl, vu, vt] } } := I4.kept (t' := s4.toks) fun b ob q => Heap.get?_push_of_some _ q
  obtain ⟨T, id, hT, hh, hg⟩ := hr pins { s4 with heap := s4.heap.push { cls := .type "slice", data := .fields #[vl, vu, vt] } } σ H4 x v vl vu vt l u t s4.heap.objs.size Q I5 r1 (Heap.IsSliceOf.new ..) pl pu pt q4
  show wpAny (model X.prog X.w) X.A (subscriptTail e (.Slice lo hi (some st) p2) v (.ref s4.heap.objs.size)) (EP X pins σ Q) X.xe { s4 with heap := s4.heap.push { cls := .type "slice", data := .fields #[vl, vu, vt] } }
  exact tail_any (ops := [v, .ref s4.heap.objs.size]) hh hT hg (by with_unfolding_all rfl)
def rSl3L (K : PySem.W.Frag) : V → Option Int → Option Int → Option Int → Hp → VK → Prop := fun x lo hi st H Q => ∃ a xs, x = .ref a ∧ SqL K H a xs ∧ st ≠ some 0 ∧ ∀ p, H p = none → Q (.ref p) (upd H p (.lst (pickG xs lo hi st)))
theorem sl3_list : SlR3 X (rSl3L X.K) := by
  intro pins s σ H x v vl vu vt lo hi st sl Q I rx hs pl pu pt h
  obtain ⟨a, xs, rfl, hx, h0, q⟩ := h
  cases rx
  obtain ⟨its, r, ht, hz⟩ := I.list hx
  have hlen := r.length
  refine ⟨"list", _, slot_list_getitem.lookup, ht.isList.typeIs, ?_⟩
  refine wpAny_getItem_list_slice ht.isList hs pl pu pt h0 ?_ (by rw [List.size_toArray] <;> omega)
  rw [slicePick_G]
  refine ⟨.ref s.heap.objs.size, _, I.laid (t' := s.toks) (o := .lst (pickG xs lo hi st)) (fun b ob q => Heap.get?_push_of_some _ q) (Nat.le_refl _) ?_, rfl, q _ (I.hok.fresh (Nat.le_refl _))⟩
  refine ⟨Nat.le_trans (pickG_le xs its r lo hi st) (hlen ▸ hz), _, 0, ?_, Heap.get?_push_size _ rfl⟩
  unfold pickG
  rw [hlen]
  exact valsPick r _

/-! t[::-1] -/
theorem filterMap_same {α β : Type} {f g : α → Option β} : ∀ {xs : List α}, (∀ x ∈ xs, f x = g x) → xs.filterMap f = xs.filterMap g
  | [], _ => rfl
  | x :: xs, h => by
    rw [List.filterMap_cons, List.filterMap_cons, h x (List.mem_cons_self), filterMap_same fun y hy => h y (List.mem_cons_of_mem _ hy)]
theorem revPick (xs : List Value) : ((List.range xs.length).filterMap fun (m : Nat) => xs.toArray[(((xs.length : Int) - 1) + (m : Int) * (-1)).toNat]?).toArray = xs.reverse.toArray := by
  congr 1
  rw [filterMap_same (g := fun m => xs.reverse[m]?)]
  · have := pick_run xs.reverse.toArray 0 xs.length
    simp only [Nat.zero_add, List.getElem?_toArray] at this
    rw [List.map_id'] at this
    rw [this]
    simp only [List.drop_zero]
    rw [List.take_of_length_le (by simp)]
  · intro m hm
    have h1 : m < xs.length := List.mem_range.mp hm
    rw [List.getElem?_toArray, List.getElem?_reverse h1]
    congr 1
    omega
theorem adjust_rev (n : Nat) : Builtin.Slice.sliceAdjust none none (-1) (n : Int) = ((n : Int) - 1, -1) := by
  unfold Builtin.Slice.sliceAdjust
  simp only [show ((-1 : Int) < 0) from by decide, if_true]
theorem places_rev (n : Nat) : Builtin.Slice.slicePlaces ((n : Int) - 1) (-1) (-1) = n := by
  unfold Builtin.Slice.slicePlaces
  simp only [show ¬ ((-1 : Int) > 0) from by decide, if_false, show (-(-1) : Int) = 1 from by decide, Int.ediv_one]
  split <;> omega
section
variable {prog : Program} {w : World} {A : Around} {E : Value → Shared → Prop} {s : Shared}
theorem sliceApplied_rev {sl : Addr} {t : Tok} {n : Nat} {Q : Int × Int × Nat → Shared → Prop} (hs : s.heap.IsSliceOf sl .none .none (.int (-1) t))
    (h : Q ((n : Int) - 1, -1, n) s) : wpAny (model prog w) A (Builtin.Slice.sliceApplied (.ref sl) (pure (n : Int))) Q E s := by
  obtain ⟨os, hos, hcs, hds⟩ := id hs
  unfold Builtin.Slice.sliceApplied Builtin.Slice.sliceFields
  refine wpAny_bind (wpAny_bind (wpAny_field hos hds (x := .none) rfl (wpAny_bind (wpAny_field hos hds (x := .none) rfl (wpAny_bind (wpAny_field hos hds (x := .int (-1) t) rfl (wpAny_pure ?_)))))))
  refine wpAny_bind (slicePart_int ?_)
  show wpAny _ _ (if ((-1 : Int) == 0) = true then _ else _) _ _ s
  rw [if_neg (by decide)]
  refine wpAny_bind (slicePart_none (wpAny_bind (slicePart_none (wpAny_bind (wpAny_pure ?_)))))
  show wpAny _ _ (match Builtin.Slice.sliceAdjust none none (-1) (n : Int) with | (lo, hi) => pure (lo, (-1 : Int), Builtin.Slice.slicePlaces lo hi (-1))) _ _ s
  rw [adjust_rev n]
  show wpAny _ _ (pure ((n : Int) - 1, (-1 : Int), Builtin.Slice.slicePlaces ((n : Int) - 1) (-1) (-1))) _ _ s
  rw [places_rev]
  exact wpAny_pure h
theorem getItem_tuple_rev {t sl : Addr} {xs : List Value} {tk : Tok} {Q : Value → Shared → Prop} (ht : IsTup s.heap t xs.toArray) (hs : s.heap.IsSliceOf sl .none .none (.int (-1) tk))
    (h : Q (.ref s.heap.objs.size) { s with heap := s.heap.push { cls := .type "tuple", data := .seq xs.reverse.toArray } })
    (hsz : xs.toArray.size ≤ sizeLine) : wpAny (model prog w) A (getItem (.ref t) (.ref sl)) Q E s := by
  have htake : sizeOk (.seq xs.reverse.toArray) := by
    show xs.reverse.toArray.size ≤ sizeLine
    rw [List.size_toArray, List.length_reverse]
    rw [List.size_toArray] at hsz
    exact hsz
  obtain ⟨os, hos, hcs, hds⟩ := id hs
  have hTs : s.TypeIs (.ref sl) "slice" := ⟨os, hos, hcs⟩
  unfold getItem
  try with_reducible refine wpAny_holding ?_
  first | refine wpAny_bind (wpAny_pure ?_) | skip
  refine wpAny_bind (wpAny_sequenceKey ht.typeIs (by decide) ?_)
  refine wpAny_bind (wpAny_callSpecial?_slot (name := Str.ofString "__getitem__") ht.typeIs PyProof.Rows.slot_tuple_getitem
    (wpAny_call_entry PyProof.Rows.slot_tuple_getitem ht.typeIs PyProof.Rows.entry_tuple_getitem ?_ (PyProof.Rows.args_tuple_getitem _ _)))
  show wpAny _ _ (Builtin.Tuple.tupleItemsOf (.ref t) >>= _) _ _ s
  refine wpAny_bind (PyProof.Rows.tupleItemsOf_ ht ?_)
  refine wpAny_bind (wpAny_typeOf hTs ?_)
  rw [if_pos (by decide)]
  refine wpAny_bind (sliceApplied_rev (n := xs.toArray.size) hs ?_)
  have hno : ¬ ((((xs.toArray.size : Int) - 1) == 0 && (-1 : Int) == 1 && xs.toArray.size == xs.toArray.size) = true) := by
    intro q
    rw [Bool.and_eq_true, Bool.and_eq_true] at q
    exact absurd q.1.2 (by decide)
  show wpAny _ _ (if (((xs.toArray.size : Int) - 1) == 0 && (-1 : Int) == 1 && xs.toArray.size == xs.toArray.size) = true then _ else _) _ _ s
  rw [if_neg hno, List.size_toArray, revPick]
  first
    | exact wpAny_bind (m := Builtin.Tuple.tupleExact _) (wpAny_newObj_type (wpAny_pure ⟨_, rfl, wpAny_pure h⟩) htake)
    | exact wpAny_bind (m := Builtin.Tuple.tupleExact _) (wpAny_newObj_type (wpAny_bind (wpAny_pure (wpAny_pure ⟨_, rfl, wpAny_pure h⟩))) htake)
    | exact wpAny_bind (wpAny_bind (m := Builtin.Tuple.tupleExact _) (wpAny_newObj_type (wpAny_pure (wpAny_pure ⟨_, rfl, wpAny_pure h⟩)) htake))
    | exact wpAny_bind (wpAny_bind (m := Builtin.Tuple.tupleExact _) (wpAny_newObj_type (wpAny_pure ⟨_, rfl, wpAny_pure h⟩) htake))
end
theorem valsRev : ∀ {xs : List V} {us : List Value}, Vals xs us → Vals xs.reverse us.reverse
  | _, _, .nil => .nil
  | _, _, .cons r t => by rw [List.reverse_cons, List.reverse_cons]; exact Vals.append (valsRev t) (.cons r .nil)
def rSl3T (K : PySem.W.Frag) : V → Option Int → Option Int → Option Int → Hp → VK → Prop := fun x lo hi st H Q => ∃ a xs, x = .ref a ∧ SqT K H a xs ∧ lo = none ∧ hi = none ∧ st = some (-1) ∧ ∀ p, H p = none → Q (.ref p) (upd H p (.tup xs.reverse))
theorem sl3_tup : SlR3 X (rSl3T X.K) := by
  intro pins s σ H x v vl vu vt lo hi st sl Q I rx hs pl pu pt h
  obtain ⟨a, xs, rfl, hx, rfl, rfl, rfl, q⟩ := h
  cases rx
  cases pl
  cases pu
  cases pt
  obtain ⟨its, r, ht, hz⟩ := I.tuple hx
  have hlen := r.length
  refine ⟨"tuple", _, PyProof.Rows.slot_tuple_getitem.lookup, ht.typeIs, ?_⟩
  refine getItem_tuple_rev ht hs ?_ (by rw [List.size_toArray] <;> omega)
  refine ⟨.ref s.heap.objs.size, _, I.laid (t' := s.toks) (o := .tup xs.reverse) (fun b ob q => Heap.get?_push_of_some _ q) (Nat.le_refl _) ?_, rfl, q _ (I.hok.fresh (Nat.le_refl _))⟩
  exact ⟨by rw [List.length_reverse]; exact hz, _, valsRev r, IsTup.new _ _⟩
theorem rsRev {K : PySem.W.Frag} {G H : Hp} : ∀ {xs : List V} {ds : List D}, Rs K G H xs ds [] → Rs K G H xs.reverse ds.reverse [] := by
  intro xs ds r
  have h := r.length
  have e1 : xs.reverse = pickAt (List.range xs.length).reverse xs := by
    unfold pickAt
    rw [List.filterMap_reverse]
    congr 1
    have := pick_run xs.toArray 0 xs.length
    simp only [Nat.zero_add, List.getElem?_toArray] at this
    rw [List.map_id'] at this
    rw [this]
    simp
  have e2 : ds.reverse = pickAt (List.range xs.length).reverse ds := by
    unfold pickAt
    rw [List.filterMap_reverse]
    congr 1
    have := pick_run ds.toArray 0 xs.length
    simp only [Nat.zero_add, List.getElem?_toArray] at this
    rw [List.map_id'] at this
    rw [this, h]
    simp
  rw [e1, e2]
  exact rsPick r _
def gSlS (d : D) (lo hi st : Option Int) (A : Sl) : Option D := match see A d with
  | .tup ds => if isFs ds = true ∧ lo = none ∧ hi = none ∧ st = some (-1) then some (.tup ds.reverse) else none
  | s => match lsOf s with
    | some ds => if isFs ds = true ∧ st ≠ some 0 then some (.mu (pickG ds lo hi st)) else none
    | none => none
def fSlS (fe : FE) (fl fh ft : FO) : FE := fun A => (fe A).bind fun d A1 => (fl A1).bind fun l A2 => (fh A2).bind fun h A3 => (ft A3).bind fun t A4 => match gSlS d l h t A4 with
  | some r => .ok r A4
  | none => .stuck
def rSl3 (K : PySem.W.Frag) : V → Option Int → Option Int → Option Int → Hp → VK → Prop := fun x lo hi st H Q => rSl3L K x lo hi st H Q ∨ rSl3T K x lo hi st H Q
theorem sl3_any : SlR3 X (rSl3 X.K) := sl3_list.or sl3_tup
end
section
variable {z : Z} {X : Cx}
theorem sld3 {σ : L2.St} {A : Sl} {ts : Ts} {H : Hp} {v : V} {d d' : D} {lo hi st : Option Int} (h : z.A σ A ((v, d) :: ts) H) (hg : gSlS d lo hi st A = some d') (Q : VK) (q : ∀ w H', z.A σ A ((w, d') :: ts) H' → Q w H') : rSl3 z.K v lo hi st H Q := by
  unfold gSlS at hg
  split at hg
  · rename_i ds hx
    split at hg
    · rename_i hl
      obtain ⟨hl, rfl, rfl, rfl⟩ := hl
      cases hg
      obtain ⟨G, L, gh, r, f⟩ := h.open (fun j z => by rw [z] at hx; cases hx)
      rw [hx] at r
      cases r with | tup q1 s1 =>
      have e1 := s1.isFs hl
      subst e1
      exact .inr ⟨_, _, rfl, .inl (.inl (gh _ _ q1)), rfl, rfl, rfl, fun p hp => q _ _ (f.tup gh (rsRev s1) hp)⟩
    · cases hg
  · split at hg
    · rename_i ds hs
      split at hg
      · rename_i hl
        obtain ⟨hl, h0⟩ := hl
        cases hg
        obtain ⟨G, L, gh, r, f⟩ := h.open (lsOf_al hs)
        obtain ⟨a, xs, M, rfl, k1, s1⟩ := r.list gh hs
        have e1 := s1.isFs hl
        subst e1
        refine .inl ⟨a, xs, rfl, k1, h0, fun p hp => q _ _ (f.lst gh ?_ hp)⟩
        unfold pickG
        rw [s1.length]
        exact rsPick s1 _
      · cases hg
    · cases hg
theorem qe_sliceS {e st : Expr} {lo hi : Option Expr} {fe : FE} {fl fh ft : FO} {pos p2 : Pos} (hK : X.K = z.K) (he : PE X e (tE z fe)) (hl : PO X lo (tO z fl)) (hh : PO X hi (tO z fh)) (ht : PO X (some st) (tO z ft)) : PE X (.Subscript e (.Slice lo hi (some st) p2) pos) (tE z (fSlS fe fl fh ft)) := by
  refine PE.imp (pe_slice3 sl3_any he hl hh ht) fun σ H Q ⟨A, ts, ha, hp⟩ => ⟨A, ts, ha, ?_⟩
  unfold fSlS at hp
  cases ea : fe A with
  | stuck => rw [ea] at hp; exact hp.elim
  | exc c A1 => rw [ea] at hp; exact hp
  | ok d A1 =>
    rw [ea] at hp
    simp only [Ou.bind_ok] at hp
    intro v H1 h1
    refine ⟨A1, (v, d) :: ts, h1, ?_⟩
    cases eb : fl A1 with
    | stuck => rw [eb] at hp; exact hp.elim
    | exc c A2 => rw [eb] at hp; exact fun H' h' => hp H' h'.drop
    | ok l A2 =>
      rw [eb] at hp
      simp only [Ou.bind_ok] at hp
      intro H2 h2
      refine ⟨A2, (v, d) :: ts, h2, ?_⟩
      cases ec : fh A2 with
      | stuck => rw [ec] at hp; exact hp.elim
      | exc c A3 => rw [ec] at hp; exact fun H' h' => hp H' h'.drop
      | ok hh A3 =>
        rw [ec] at hp
        simp only [Ou.bind_ok] at hp
        intro H3 h3
        refine ⟨A3, (v, d) :: ts, h3, ?_⟩
        cases ed : ft A3 with
        | stuck => rw [ed] at hp; exact hp.elim
        | exc c A4 => rw [ed] at hp; exact fun H' h' => hp H' h'.drop
        | ok tt A4 =>
          rw [ed] at hp
          simp only [Ou.bind_ok] at hp
          intro H4 h4
          cases eg : gSlS d l hh tt A4 with
          | none => rw [eg] at hp; exact hp.elim
          | some d' =>
            rw [eg] at hp
            rw [hK]
            exact sld3 h4 eg Q hp
end
end Ab
end
section
namespace Ab
open PySem PySem.Spec PyProof.Rows L2

/-! ### a list inside an owned list, changed through another name -/
section
variable {K : PySem.W.Frag} {B : Bs} {G H : Hp} {σ : L2.St} {A : Sl} {ts : Ts}
theorem Rs.pick : ∀ {vs : List V} {ds : List D} {L : List Addr} {j : Nat} {es : List D}, Rs K G H vs ds L → ds[j]? = some (.mu es) → ∃ p ws Le N, vs[j]? = some (.ref p) ∧ H p = some (.lst ws) ∧ G p = none ∧ Rs K G H ws es Le ∧ L.Perm ((p :: Le) ++ N) ∧
    (∀ H' e' L', R K G H' (.ref p) e' L' → (∀ a ∈ N, H' a = H a ∧ G a = none) → ∃ M, Rs K G H' vs (ds.set j e') M ∧ M.Perm (L' ++ N))
  | _, _, _, _, _, .nil, e => by simp at e
  | _, _, _, 0, es, .cons (L := La) (L' := Lb) r t, e => by
    simp at e
    subst e
    cases r with
    | mu q gp rs => exact ⟨_, _, _, Lb, rfl, q, gp, rs, .refl _, fun H' e' L' r' h => ⟨L' ++ Lb, .cons r' (t.mono (fun _ _ e => e) h), .refl _⟩⟩
  | _, _, _, j + 1, es, .cons (L := La) (L' := Lb) r t, e => by
    obtain ⟨p, ws, Le, N, h1, h2, h3, h4, h5, h6⟩ := Rs.pick (j := j) t (by simpa using e)
    refine ⟨p, ws, Le, La ++ N, by simpa using h1, h2, h3, h4, ?_, fun H' e' L' r' h => ?_⟩
    · refine (List.Perm.append_left _ h5).trans ?_
      rw [← List.append_assoc, ← List.append_assoc]
      exact List.Perm.append_right _ List.perm_append_comm
    · obtain ⟨M, m1, m2⟩ := h6 H' e' L' r' fun a ha => h a (List.mem_append_right _ ha)
      refine ⟨La ++ M, .cons (r.mono (fun _ _ e => e) fun a ha => h a (List.mem_append_left _ ha)) m1, ?_⟩
      refine (List.Perm.append_left _ m2).trans ?_
      rw [← List.append_assoc, ← List.append_assoc]
      exact List.Perm.append_right _ List.perm_append_comm
theorem Abs.nest {v : V} {ds es : List D} {j : Nat} (h : Abs K B σ A ((v, .mu ds) :: ts) H) (hj : ds[j]? = some (.mu es)) (he : isFs es = true) : ∃ q vs p ws G, v = .ref q ∧ H q = some (.lst vs) ∧ vs.length = ds.length ∧ vs[j]? = some (.ref p) ∧ H p = some (.lst ws) ∧ Rs K G H ws es [] ∧
    ∀ (y : V) (e' : D) (u : Nat), (∀ G H, R K G H y e' []) → Abs K B σ A ((v, .mu (ds.set j (.mu (es.set u e')))) :: ts) (upd H p (.lst (ws.set u y))) := by
  obtain ⟨G, L1, L2, gd, tm, sl, nd, ow⟩ := h
  cases tm with
  | cons r2 t =>
    rename_i Lp Lt
    cases r2 with
    | mu hq gp rs =>
      rename_i q vs L
      obtain ⟨p, ws, Le, N, h1, h2, h3, h4, h5, h6⟩ := rs.pick hj
      have e0 := h4.isFs he
      subst e0
      refine ⟨q, vs, p, ws, G, rfl, hq, rs.length, h1, h2, h4, fun y e' u hr => ?_⟩
      have pm : L.Perm (p :: N) := by simpa using h5
      have pp : (((q :: L) ++ Lt) ++ L2).Perm (((q :: p :: N) ++ Lt) ++ L2) := List.Perm.append_right _ (List.Perm.append_right _ (List.Perm.cons _ pm))
      have nd2 := nodup_perm pp nd
      have ow2 : ∀ a ∈ ((q :: p :: N) ++ Lt) ++ L2, Own B a := fun a ha => ow a (pp.mem_iff.mpr ha)
      have qn : q ∉ (p :: N ++ Lt) ++ L2 := (List.nodup_cons.mp nd2).1
      have pn : p ∉ (N ++ Lt) ++ L2 := (List.nodup_cons.mp (List.nodup_cons.mp nd2).2).1
      have qp : q ≠ p := fun z => qn (by rw [z]; simp)
      have old : ∀ a ∈ (N ++ Lt) ++ L2, G a = none := fun a ha => by
        rcases List.mem_append.mp ha with m | m
        · rcases List.mem_append.mp m with m | m
          · exact (rs.own a (pm.mem_iff.mpr (List.mem_cons_of_mem _ m))).1
          · exact (t.own a m).1
        · exact (sl.own a m).1
      have keep : ∀ a ∈ (N ++ Lt) ++ L2, upd H p (.lst (ws.set u y)) a = H a ∧ G a = none := fun a ha => ⟨upd_ne (fun z => pn (by rw [← z]; exact ha)), old a ha⟩
      have wr : Rs K G (upd H p (.lst (ws.set u y))) (ws.set u y) (es.set u e') [] := by
        have h7 : Rs K G (upd H p (.lst (ws.set u y))) ws es [] := h4.mono (fun _ _ e => e) fun a ha => nomatch ha
        by_cases hu : u < es.length
        · obtain ⟨M, N', m1, m2, m3⟩ := Rs.setAt (j := u) h7 (hr G _) hu
          have n0 := List.sublist_nil.mp m3
          subst n0
          have m0 : M = [] := by simpa using m2
          subst m0
          exact m1
        · have e1 : ws.set u y = ws := List.set_eq_of_length_le (by rw [h4.length]; omega)
          have e2 : es.set u e' = es := List.set_eq_of_length_le (by omega)
          rw [e1] at h7 ⊢
          rw [e2]
          exact h7
      obtain ⟨M, m1, m2⟩ := h6 (upd H p (.lst (ws.set u y))) (.mu (es.set u e')) [p] (.mu upd_same h3 wr) fun a ha => keep a (by simp [ha])
      have ownp : Own B p := ow2 p (by simp)
      have pq : (((q :: M) ++ Lt) ++ L2).Perm (((q :: p :: N) ++ Lt) ++ L2) := List.Perm.append_right _ (List.Perm.append_right _ (List.Perm.cons _ (by simpa using m2)))
      refine ⟨G, (q :: M) ++ Lt, L2, ⟨fun a o h => ?_, gd.bg, fun a o hx h => ?_, gd.sep, fun a ha => ?_⟩, .cons (.mu ((upd_ne qp).trans hq) gp m1) (t.mono (fun _ _ e => e) fun a ha => keep a (by simp [ha])), sl.mono (fun _ _ e => e) fun a ha => keep a (by simp [ha]), nodup_perm pq.symm nd2, fun a ha => ow2 a (pq.mem_iff.mp ha)⟩
      · have : a ≠ p := fun z => by rw [z, h3] at h; cases h
        rw [upd_ne this]; exact gd.gh a o h
      · have : a ≠ p := fun z => by
          subst z
          rcases ownp with n | n
          · rw [n] at h; cases h
          · exact hx n
        rw [upd_ne this]; exact gd.bh a o hx h
      · by_cases z : a = p
        · rw [z, upd_same]; exact fun z => nomatch z
        · rw [upd_ne z]; exact gd.alive a ha
/-- a slot of which nothing is told may hold anything -/
theorem Abs.anySlot {i : Nat} {o : Option V} (h : Abs K B σ A ts H) (e : A[i]? = some none) (c : Cl ts) : Abs K B (σ.set i o) A ts H := by
  obtain ⟨G, L1, L2, gd, tm, sl, nd, ow⟩ := h
  exact ⟨G, L1, L2, gd, tm.any c, sl.any (.inl e), nd, ow⟩
theorem Abs.litInt {k : Int} (h : Abs K B σ A ts H) : Abs K B σ A ((.int k, .int k) :: ts) H := by
  obtain ⟨G, L1, L2, gd, tm, sl, nd, ow⟩ := h
  exact ⟨G, [] ++ L1, L2, gd, .cons (.int k) tm, sl, nd, ow⟩
theorem Abs.lens (h : Abs K B σ A ts H) : σ.length = A.length := by
  obtain ⟨G, L1, L2, gd, tm, sl, nd, ow⟩ := h
  exact sl.len
end
/-- b = xs[e]; a = m // c % len(ls); b[a] = 1 - b[a] -/
def fBag (i b a n l : Nat) (c : Int) (fe1 : FE) : FS := fun A => match slotL i A with
  | none => .stuck
  | some _ => (fe1 A).bind fun k A1 => match k, slotL i A1, A1[n]?, A1[l]? with
    | .int k, some ds, some (some (.int m)), some (some (.lst ls)) => match ixN ds.length k with
      | some j => match ds[j]? with
        | some (.mu es) => if isFs es = true ∧ cDiv m c = true ∧ 0 < ls.length ∧ b < A1.length ∧ a < A1.length then match ixN es.length (m / c % (ls.length : Int)) with
            | some u => match es[u]? with
              | some (.int w) => .ok .next (((A1.set i (some (.mu (ds.set j (.mu (es.set u (.int (1 - w)))))))).set b none).set a (some (.int (m / c % (ls.length : Int)))))
              | _ => .stuck
            | none => .stuck
          else .stuck
        | _ => .stuck
      | none => .stuck
    | _, _, _, _ => .stuck
section
variable {z : Z} {X : Cx} {fe : FE}
def rLenX (K : PySem.W.Frag) : List V → Hp → VK → Prop := fun xs H Q => ∃ x n, xs = [x] ∧ LenV K x H n ∧ Q (.int n) H
theorem bag_go {i b a n l : Nat} {c : Int} {D : Ends} {σ : L2.St} {H : Hp} (hd : n ≠ b ∧ l ≠ b ∧ a ≠ b ∧ i ≠ b ∧ i ≠ a) (h : tS z (fBag i b a n l c fe) D σ H) :
    tSeq (tAsg (tOp (rIxL z.K) (tVar i) (tE z fe)) (gName b)) (tSeq (tAsg (tOp (rI (fun _ j => 0 < j) fun i j => .int (i % j)) (tOp (rI CDivW fun i j => .int (i / j)) (tVar n) (L2.tC (.int c))) (tCB (rLenX z.K) (L2.tCons (tVar l) L2.tNil))) (gName a))
      (tAsg (tOp (rI0 fun i j => .int (i - j)) (L2.tC (.int 1)) (tOp (rIxL z.K) (tVar b) (tVar a))) (gSub (tVar b) (tVar a) rSetL))) D σ H := by
  obtain ⟨A, ts, hA, cl, hp⟩ := h
  unfold fBag at hp
  split at hp
  · exact (pS_stuck hp).elim
  · rename_i ds0 e0
    obtain ⟨p0, xs0, ev, hp0, _, h1⟩ := hA.slotAl (slotL_get e0)
    refine ⟨.ref p0, ev, A, (.ref p0, .al i) :: ts, h1, ?_⟩
    cases ea : fe A with
    | stuck => rw [ea] at hp; exact (pS_stuck hp).elim
    | exc c A1 => rw [ea] at hp; exact fun H' h' => hp σ H' h'.drop
    | ok k A1 =>
      rw [ea] at hp
      simp only [Ou.bind_ok] at hp
      intro y H1 h2
      split at hp
      · rename_i k ds m ls es_ en el
        split at hp
        · rename_i j ej
          split at hp
          · rename_i es ed
            split at hp
            · rename_i hc
              obtain ⟨he, hdv, hls, hb, ha⟩ := hc
              split at hp
              · rename_i u eu
                split at hp
                · rename_i w ew
                  have ey := h2.int
                  subst ey
                  have h3 := h2.drop
                  have hA1 := h3.drop
                  have h4 := h3.move (slotL_get es_)
                  obtain ⟨q, vs, p, ws, G, eq, hq, hl, hv, hw, rws, fin⟩ := h4.nest ed he
                  cases eq
                  obtain ⟨x, Li, hx, rx, _⟩ := rws.getD ew
                  cases rx
                  obtain ⟨vn, en1, h5⟩ := hA1.var en
                  rw [if_pos (by simp [isF])] at h5
                  have e5 := h5.int
                  subst e5
                  obtain ⟨vl, el1, h6⟩ := hA1.var el
                  rw [if_pos (by simp [isF])] at h6
                  obtain ⟨G6, L6, g6, r6, _⟩ := h6.open (d := .lst ls) (fun j q => nomatch q)
                  have hsl := hA1.lens
                  obtain ⟨tl, xl, _, rfl, hxl, rxl⟩ := R.list g6 r6 rfl
                  unfold cDiv at hdv
                  rw [Bool.and_eq_true, decide_eq_true_iff, decide_eq_true_iff] at hdv
                  refine ⟨p0, vs, k, .ref p, rfl, rfl, .inl (.inl hq), ?_, ?_⟩
                  · unfold atI
                    rw [hl, ej]
                    exact hv
                  refine ⟨.int m, ?_, m, c, rfl, rfl, wide_div hdv.1 hdv.2 (by decide) (by decide), .ref tl, ?_, .ref tl, ls.length, rfl, ?_, m / c, ls.length, rfl, rfl, by omega, ?_⟩
                  · rw [List.getElem?_set_ne (Ne.symm hd.1)]; exact en1
                  · rw [List.getElem?_set_ne (Ne.symm hd.2.1)]; exact el1
                  · exact .inl ⟨xl, hxl, rxl.length.symm⟩
                  have gb : (List.set (List.set σ b (some (V.ref p))) a (some (V.int (m / c % (ls.length : Int)))))[b]? = some (some (.ref p)) := by
                    rw [List.getElem?_set_ne hd.2.2.1, List.getElem?_set_self (by omega)]
                  have ga : (List.set (List.set σ b (some (V.ref p))) a (some (V.int (m / c % (ls.length : Int)))))[a]? = some (some (.int (m / c % (ls.length : Int)))) := by
                    rw [List.getElem?_set_self (by rw [List.length_set]; omega)]
                  have ewl : ixN ws.length (m / c % (ls.length : Int)) = some u := by rw [rws.length]; exact eu
                  refine ⟨.ref p, gb, .int _, ga, p, ws, _, .int w, rfl, rfl, .inl (.inl hw), ?_, 1, w, rfl, rfl, .ref p, gb, .int _, ga, p, ws, _, u, rfl, rfl, hw, ewl, ?_⟩
                  · unfold atI
                    rw [ewl]
                    exact hx
                  have h7 := fin (.int (1 - w)) (.int (1 - w)) u fun _ _ => .int _
                  have h8 := h7.put (fun j q => nomatch q) (set_none_get (slotL_get es_)) ev
                  rw [List.set_set] at h8
                  have h9 := (h8.forget (i := b)).anySlot (i := b) (o := some (.ref p)) (by simp [hb]) cl
                  have h10 := (h9.litInt (k := m / c % (ls.length : Int))).set (i := a) (fun j q => nomatch q) cl
                  exact hp _ _ h10
                · exact (pS_stuck hp).elim
              · exact (pS_stuck hp).elim
            · exact (pS_stuck hp).elim
          · exact (pS_stuck hp).elim
        · exact (pS_stuck hp).elim
      · exact (pS_stuck hp).elim
theorem qs_bag {i b a n l : Nat} {c : Int} {s1 s2 s3 : Stmt} (hK : X.K = z.K) (hd : n ≠ b ∧ l ≠ b ∧ a ≠ b ∧ i ≠ b ∧ i ≠ a) (h1 : PS X s1 (tAsg (tOp (rIxL X.K) (tVar i) (tE z fe)) (gName b)))
    (h2 : PS X s2 (tAsg (tOp (rI (fun _ j => 0 < j) fun i j => .int (i % j)) (tOp (rI CDivW fun i j => .int (i / j)) (tVar n) (L2.tC (.int c))) (tCB (rLenX X.K) (L2.tCons (tVar l) L2.tNil))) (gName a)))
    (h3 : PS X s3 (tAsg (tOp (rI0 fun i j => .int (i - j)) (L2.tC (.int 1)) (tOp (rIxL X.K) (tVar b) (tVar a))) (gSub (tVar b) (tVar a) rSetL))) : PSs X [s1, s2, s3] (tS z (fBag i b a n l c fe)) :=
  PSs.imp (pss_cons h1 (pss_cons h2 (pss_one h3))) fun D σ H h => by rw [hK]; exact bag_go hd h
end
end Ab
end
section
/-! plain reasoning over told values: no program in sight -/
namespace Ab
open PySem L2

/-! ### steps -/
section
variable {A A1 A2 : Sl} {f g : FS} {fe fa fb : FE} {ft : FT} {i : Nat} {d e : D}
theorem seq_next (h : f A = .ok .next A1) : fSeq f g A = g A1 := by unfold fSeq; rw [h]; rfl
theorem seq_n {o : Ou Fl} (h : f A = .ok .next A1) (k : g A1 = o) : fSeq f g A = o := (seq_next h).trans k
theorem seq_ret {v : D} (h : f A = .ok (.ret v) A1) : fSeq f g A = .ok (.ret v) A1 := by unfold fSeq; rw [h]; rfl
theorem seq_cont (h : f A = .ok .cont A1) : fSeq f g A = .ok .cont A1 := by unfold fSeq; rw [h]; rfl
theorem seq_exc {c : Str} (h : f A = .exc c A1) : fSeq f g A = .exc c A1 := by unfold fSeq; rw [h]; rfl
theorem fif_t (h : ft A = .ok true A1) : fIf ft f g A = f A1 := by unfold fIf; rw [h]; rfl
theorem fif_f (h : ft A = .ok false A1) : fIf ft f g A = g A1 := by unfold fIf; rw [h]; rfl
end
theorem see_isF {A : Sl} {d : D} (h : isF d = true) : see A d = d := by
  cases d <;> first | rfl | (simp [isF] at h)
/-! ### multiplication's bounds -/
theorem cMul_l {a b : Int} (h : -18446744073709551616 < a ∧ a < 18446744073709551616) : cMul a b = true := by
  unfold cMul
  rw [Bool.or_eq_true, decide_eq_true_iff]
  left
  have : (2 : Nat) ^ 64 = 18446744073709551616 := by decide
  omega
theorem cMul_r {a b : Int} (h : -18446744073709551616 < b ∧ b < 18446744073709551616) : cMul a b = true := by
  unfold cMul
  rw [Bool.or_eq_true, decide_eq_true_iff, decide_eq_true_iff]
  right
  have : (2 : Nat) ^ 64 = 18446744073709551616 := by decide
  omega
/-! ### loops -/
theorem forL_ind {t : Tg} {fb : FS} (I : Nat → Sl → Prop) : ∀ (xs : List D) (k : Nat) (A : Sl), I k A → (∀ j d A, xs[j]? = some d → I (k + j) A → ∃ A1 A2, t.set d A = some A1 ∧ (fb A1 = .ok .next A2 ∨ fb A1 = .ok .cont A2) ∧ I (k + j + 1) A2) →
    ∃ A', forL t fb xs A = .ok .next A' ∧ I (k + xs.length) A'
  | [], k, A, h0, _ => ⟨A, rfl, h0⟩
  | x :: xs, k, A, h0, hs => by
    obtain ⟨A1, A2, h1, h2, h3⟩ := hs 0 x A rfl h0
    obtain ⟨A', h4, h5⟩ := forL_ind I xs (k + 1) A2 h3 fun j d A e h => by
      have := hs (j + 1) d A (by simpa using e) (by rw [show k + (j + 1) = k + 1 + j by omega]; exact h)
      rw [show k + (j + 1) + 1 = k + 1 + j + 1 by omega] at this
      exact this
    refine ⟨A', ?_, by rw [List.length_cons, show k + (xs.length + 1) = k + 1 + xs.length by omega]; exact h5⟩
    unfold forL
    simp only [h1]
    rcases h2 with h2 | h2 <;> simp only [h2] <;> exact h4
/-- a for whose turns all go on -/
theorem for_ind {fi : FI} {t : Tg} {fb : FS} {A A0 : Sl} {xs : List D} (I : Nat → Sl → Prop) (hi : fi A = .ok xs A0) (h0 : I 0 A0) (hs : ∀ j d A, xs[j]? = some d → I j A → ∃ A1 A2, t.set d A = some A1 ∧ (fb A1 = .ok .next A2 ∨ fb A1 = .ok .cont A2) ∧ I (j + 1) A2) :
    ∃ A', fFor fi t fb A = .ok .next A' ∧ I xs.length A' := by
  obtain ⟨A', h1, h2⟩ := forL_ind (t := t) (fb := fb) I xs 0 A0 h0 fun j d A e h => by
    rw [Nat.zero_add] at h ⊢
    exact hs j d A e h
  refine ⟨A', ?_, by simpa using h2⟩
  unfold fFor
  rw [hi]
  exact h1
/-- a comprehension whose turns are all plain -/
theorem compL_ok {t : Tg} {ft : FT} {fe : FE} {A : Sl} (p : D → Bool) (g : D → D) : ∀ (ds acc : List D), acc.length + ds.length ≤ sizeLine → (∀ d ∈ ds, ∃ A1, t.set d A = some A1 ∧ ft A1 = .ok (p d) A1 ∧ (p d = true → fe A1 = .ok (g d) A1 ∧ ∀ i, g d ≠ .al i) ∧ wipeA A1 t.own = A) →
    compL t ft fe ds acc A = .ok (acc ++ (ds.filter p).map g) A
  | [], acc, _, _ => by simp [compL]
  | d :: ds, acc, hl, h => by
    obtain ⟨A1, h1, h2, h3, h4⟩ := h d List.mem_cons_self
    have ih := fun acc' h' => compL_ok p g ds acc' h' (fun d' m => h d' (List.mem_cons_of_mem _ m))
    rw [List.length_cons] at hl
    unfold compL
    rw [h1]
    simp only [h2]
    cases hp : p d with
    | false =>
      simp only [h4]
      rw [ih acc (by omega), List.filter_cons_of_neg (by simp [hp])]
    | true =>
      obtain ⟨h5, h6⟩ := h3 hp
      have ec : closeD (g d) A1 = some (g d, A1) := by
        unfold closeD
        cases hg : g d <;> first | rfl | exact absurd hg (h6 _)
      simp only [h5, ec, h4]
      rw [if_pos (by omega), ih _ (by simp; omega), List.filter_cons_of_pos hp, List.map_cons, List.append_assoc]
      rfl
theorem comp_ok {fi : FI} {t : Tg} {ft : FT} {fe : FE} {A A0 : Sl} {xs : List D} (p : D → Bool) (g : D → D) (hi : fi A = .ok xs A0) (hl : xs.length ≤ sizeLine) (h : ∀ d ∈ xs, ∃ A1, t.set d (wipeA A0 t.own) = some A1 ∧ ft A1 = .ok (p d) A1 ∧ (p d = true → fe A1 = .ok (g d) A1 ∧ ∀ i, g d ≠ .al i) ∧ wipeA A1 t.own = wipeA A0 t.own) :
    fComp fi t ft fe A = .ok (.mu ((xs.filter p).map g)) (wipeA (wipeA A0 t.own) t.own) := by
  unfold fComp
  rw [hi]
  simp only [Ou.bind_ok]
  rw [compL_ok p g xs [] (by simpa using hl) h]
  simp
/-! ### evaluation, rule by rule -/
mutual
theorem fz_isF : ∀ {d : D}, isF d = true → fz d = d
  | .tup ds, h => by rw [isF] at h; rw [fz, fzs_isFs h]
  | .non, _ => by rw [fz]
  | .bl _, _ => by rw [fz]
  | .int _, _ => by rw [fz]
  | .str _, _ => by rw [fz]
  | .ty _, _ => by rw [fz]
  | .lst _, _ => by rw [fz]
  | .fro _, _ => by rw [fz]
  | .mu _, h => by simp [isF] at h
  | .fdi .., h => by simp [isF] at h
  | .mdi .., h => by simp [isF] at h
  | .al _, h => by simp [isF] at h
  | .exc _, h => by simp [isF] at h
  | .obj .., h => by simp [isF] at h
theorem fzs_isFs : ∀ {ds : List D}, isFs ds = true → fzs ds = ds
  | [], _ => by rw [fzs]
  | d :: ds, h => by
    rw [isFs, Bool.and_eq_true] at h
    rw [fzs, fz_isF h.1, fzs_isFs h.2]
end
theorem isF_al {d : D} (h : isF d = true) : ∀ i, d ≠ .al i := fun i e => by rw [e] at h; simp [isF] at h
theorem closeD_isF {d : D} {A : Sl} (h : isF d = true) : closeD d A = some (d, A) := by
  unfold closeD
  cases d <;> first | rfl | (simp [isF] at h)
theorem closeL_isFs : ∀ {ds : List D} {A : Sl}, isFs ds = true → closeL ds A = some (ds, A)
  | [], _, _ => rfl
  | d :: ds, A, h => by
    rw [isFs, Bool.and_eq_true] at h
    unfold closeL
    rw [closeL_isFs h.2]
    cases d <;> first | rfl | (simp [isF] at h)
section
variable {A A1 A2 A3 : Sl} {f g : FS} {fe fa fb : FE} {ft fu : FT} {fl : FA} {i j : Nat} {d e r : D} {ds es : List D} {F : List D → Ro}
theorem ev_C : fC d A = .ok d A := rfl
theorem ev_var (h : A[i]? = some (some d)) (hf : isF d = true) : fVar i A = .ok d A := by unfold fVar; rw [h]; simp only [hf, if_true]
theorem ev_al (h : A[i]? = some (some d)) (hf : isF d = false) : fVar i A = .ok (.al i) A := by unfold fVar; rw [h]; simp [hf]
theorem ev_bin {g : D → D → Sl → Option D} (h1 : fa A = .ok d A1) (h2 : fb A1 = .ok e A2) (h3 : g d e A2 = some r) : fBin g fa fb A = .ok r A2 := by
  unfold fBin; rw [h1]; simp only [Ou.bind_ok]; rw [h2]; simp only [Ou.bind_ok]; rw [h3]
theorem ev_un {g : D → Sl → Option D} (h1 : fa A = .ok d A1) (h3 : g d A1 = some r) : fUn g fa A = .ok r A1 := by
  unfold fUn; rw [h1]; simp only [Ou.bind_ok]; rw [h3]
theorem ev_nil : fNil A = .ok [] A := rfl
theorem ev_cons (h1 : fe A = .ok d A1) (h2 : fl A1 = .ok ds A2) : fCons fe fl A = .ok (d :: ds) A2 := by
  unfold fCons; rw [h1]; simp only [Ou.bind_ok]; rw [h2]; rfl
theorem ev_tup (h1 : fl A = .ok ds A1) (h2 : isFs ds = true) (h3 : ds.length ≤ sizeLine) : fTup fl A = .ok (.tup ds) A1 := by
  unfold fTup; rw [h1]; simp only [Ou.bind_ok]; rw [closeL_isFs h2]; simp only [h3, if_true]
theorem ev_lst (h1 : fl A = .ok ds A1) (h2 : isFs ds = true) (h3 : ds.length ≤ sizeLine) : fLst fl A = .ok (.mu ds) A1 := by
  unfold fLst; rw [h1]; simp only [Ou.bind_ok]; rw [closeL_isFs h2]; simp only [h3, if_true]
theorem ev_cb {g : List D → Sl → Option D} (h1 : fl A = .ok ds A1) (h2 : g ds A1 = some r) : fCB g fl A = .ok r A1 := by
  unfold fCB; rw [h1]; simp only [Ou.bind_ok]; rw [h2]
theorem ev_call (h1 : fl A = .ok ds A1) (h2 : isFs ds = true) (h3 : F ds = .ok r) : fCall F fl A = .ok r A1 := by
  unfold fCall; rw [h1]; simp only [Ou.bind_ok]; rw [closeL_isFs h2]; simp only [fzs_isFs h2, h3]; split <;> rfl
/-- .. where an argument is what a slot owns: the answer is a scalar -/
theorem ev_callS {es : List D} (h1 : fl A = .ok ds A1) (h2 : closeL ds A1 = some (es, A2)) (h3 : F (fzs es) = .ok r) (h4 : isScal r = true) : fCall F fl A = .ok r A1 := by
  unfold fCall; rw [h1]; simp only [Ou.bind_ok]; rw [h2]; simp only [h3, h4, if_true]
theorem ev_mtl {g : D → List D → Sl → Option D} (h1 : fe A = .ok d A1) (h0 : lsOf (see A1 d) = some es) (h2 : fl A1 = .ok ds A2) (h3 : g d ds A2 = some r) : fMtL g fe fl A = .ok r A2 := by
  unfold fMtL; rw [h1]; simp only [Ou.bind_ok]; rw [h0]; simp only [h2, Ou.bind_ok]; rw [h3]
theorem ev_noPart : fNoPart A = .ok none A := rfl
theorem ev_part {n : Int} (h : fe A = .ok (.int n) A1) : fPart fe A = .ok (some n) A1 := by unfold fPart; rw [h]; rfl
theorem ev_sl {fl fh : FO} {l h : Option Int} (h1 : fe A = .ok d A1) (h2 : fl A1 = .ok l A2) (h3 : fh A2 = .ok h A3) (h4 : gSl d l h A3 = some r) : fSl fe fl fh A = .ok r A3 := by
  unfold fSl; rw [h1]; simp only [Ou.bind_ok]; rw [h2]; simp only [Ou.bind_ok]; rw [h3]; simp only [Ou.bind_ok]; rw [h4]
theorem ev_B {b : Bool} (h : fe A = .ok (.bl b) A1) : fB fe A = .ok b A1 := by unfold fB; rw [h]; rfl
theorem ev_not {b : Bool} (h : ft A = .ok b A1) : fNot ft A = .ok (!b) A1 := by unfold fNot; rw [h]; rfl
theorem ev_and {a b : Bool} (h : ft A = .ok a A1) (k : a = true → fu A1 = .ok b A1) (k2 : a = false → b = false) : fAnd ft fu A = .ok b A1 := by
  unfold fAnd; rw [h]; simp only [Ou.bind_ok]
  cases a with
  | true => rw [if_pos rfl]; exact k rfl
  | false => rw [if_neg Bool.false_ne_true, k2 rfl]
theorem ev_or {a b : Bool} (h : ft A = .ok a A1) (k : a = false → fu A1 = .ok b A1) (k2 : a = true → b = true) : fOr ft fu A = .ok b A1 := by
  unfold fOr; rw [h]; simp only [Ou.bind_ok]
  cases a with
  | true => rw [if_pos rfl, k2 rfl]
  | false => rw [if_neg Bool.false_ne_true]; exact k rfl
/-- and, or whose parts change nothing: the answers -/
theorem ev_and2 {a b : Bool} (h : ft A = .ok a A1) (k : a = true → fu A1 = .ok b A1) : fAnd ft fu A = .ok (a && b) A1 := by
  cases a with
  | true => exact ev_and h k (fun z => nomatch z)
  | false => exact ev_and h (fun z => nomatch z) (fun _ => rfl)
theorem ev_or2 {a b : Bool} (h : ft A = .ok a A1) (k : a = false → fu A1 = .ok b A1) : fOr ft fu A = .ok (a || b) A1 := by
  cases a with
  | true => exact ev_or h (fun z => nomatch z) (fun _ => rfl)
  | false => exact ev_or h k (fun z => nomatch z)
theorem ev_andV {a b : Bool} (h : fa A = .ok (.bl a) A1) (k : a = true → fb A1 = .ok (.bl b) A1) : fAndV fa fb A = .ok (.bl (a && b)) A1 := by
  unfold fAndV; rw [h]; simp only [Ou.bind_ok]
  cases a with
  | true => rw [if_pos rfl]; exact k rfl
  | false => rw [if_neg Bool.false_ne_true]; rfl
theorem ev_orV {a b : Bool} (h : fa A = .ok (.bl a) A1) (k : a = false → fb A1 = .ok (.bl b) A1) : fOrV fa fb A = .ok (.bl (a || b)) A1 := by
  unfold fOrV; rw [h]; simp only [Ou.bind_ok]
  cases a with
  | true => rw [if_pos rfl]; rfl
  | false => rw [if_neg Bool.false_ne_true]; exact k rfl
theorem ev_notV {a : Bool} (h : fa A = .ok (.bl a) A1) : fNotV fa A = .ok (.bl (!a)) A1 := by unfold fNotV; rw [h]; rfl
/-! statements -/
theorem ev_asgF (h : fe A = .ok d A1) (hf : isF d = true) : fAsgF i fe A = .ok .next (A1.set i (some d)) := by
  unfold fAsgF; rw [h]; simp only [Ou.bind_ok]; rw [closeD_isF hf]; simp only [fz_isF hf]
theorem ev_asgF_mu (h : fe A = .ok (.mu ds) A1) (hf : isFs ds = true) : fAsgF i fe A = .ok .next (A1.set i (some (.lst ds))) := by
  unfold fAsgF; rw [h]; simp only [Ou.bind_ok, closeD, fz, fzs_isFs hf]
theorem ev_asgF_al (h : A[j]? = some (some (.mu ds))) (hf : isFs ds = true) : fAsgF i (fVar j) A = .ok .next ((A.set j (some (.lst ds))).set i (some (.lst ds))) := by
  unfold fAsgF
  rw [ev_al h (by simp [isF])]
  simp only [Ou.bind_ok, closeD, h, fz, fzs_isFs hf]
theorem ev_asg (h : fe A = .ok d A1) (hd : ∀ j, d ≠ .al j) : fAsg i fe A = .ok .next (A1.set i (some d)) := by
  unfold fAsg; rw [h]
  cases d <;> first | rfl | exact absurd rfl (hd _)
theorem ev_asgM (h : A[j]? = some (some (.mu ds))) : fAsgM i (fVar j) A = .ok .next ((A.set j none).set i (some (.mu ds))) := by
  unfold fAsgM
  rw [ev_al h (by simp [isF])]
  simp only [Ou.bind_ok, h]
theorem ev_drop (h : fe A = .ok d A1) : fDrop fe A = .ok .next A1 := by unfold fDrop; rw [h]; rfl
theorem ev_app (hs : A[i]? = some (some (.mu ds))) (h : fe A = .ok e A) (hf : isF e = true) (hl : ds.length < sizeLine) : fApp i fe A = .ok .non (A.set i (some (.mu (ds ++ [e])))) := by
  have s : slotL i A = some ds := by unfold slotL; rw [hs]
  unfold fApp
  simp only [s, h, Ou.bind_ok, closeD_isF hf, hl, if_true]
theorem ev_ext_mu (hs : A[i]? = some (some (.mu ds))) (h : fe A = .ok (.mu es) A1) (hs1 : A1[i]? = some (some (.mu ds))) (hf : isFs es = true) (hl : ds.length + es.length ≤ sizeLine) : fExt i fe A = .ok .non (A1.set i (some (.mu (ds ++ es)))) := by
  have s : slotL i A = some ds := by unfold slotL; rw [hs]
  have s1 : slotL i A1 = some ds := by unfold slotL; rw [hs1]
  unfold fExt
  simp only [s, h, Ou.bind_ok, closeD, fz, fzs_isFs hf, s1, hl, if_true]
theorem ev_clr (hs : A[i]? = some (some (.mu ds))) : fClr i A = .ok .non (A.set i (some (.mu []))) := by
  have s : slotL i A = some ds := by unfold slotL; rw [hs]
  unfold fClr
  simp only [s]
theorem ev_ret (h : fe A = .ok d A1) (hd : ∀ j, d ≠ .al j) : fRet fe A = .ok (.ret d) A1 := by
  unfold fRet; rw [h]
  cases d <;> first | rfl | exact absurd rfl (hd _)
theorem ev_ret_al (h : A[i]? = some (some (.mu ds))) : fRet (fVar i) A = .ok (.ret (.mu ds)) (A.set i none) := by
  unfold fRet
  rw [ev_al h (by simp [isF])]
  simp only [Ou.bind_ok, h]
theorem if_t {b : Bool} {o : Ou Fl} (h : ft A = .ok b A1) (hb : b = true) (k : f A1 = o) : fIf ft f g A = o := by
  subst hb; rw [fif_t h]; exact k
theorem if_f {b : Bool} {o : Ou Fl} (h : ft A = .ok b A1) (hb : b = false) (k : g A1 = o) : fIf ft f g A = o := by
  subst hb; rw [fif_f h]; exact k
/-! what is walked -/
theorem ev_range {n : Int} (h : fe A = .ok (.int n) A1) (hn : n.natAbs < 4611686018427387904) : fRange fe A = .ok ((List.range n.toNat).map fun i => .int (i : Nat)) A1 := by
  have : (2 : Nat) ^ 62 = 4611686018427387904 := by decide
  unfold fRange; rw [h]; simp only [Ou.bind_ok, this, hn, if_true]
theorem ev_it (h : fe A = .ok d A1) (hf : isF d = true) (hi : iterOf d = some ds) : fIt fe A = .ok ds A1 := by
  unfold fIt; rw [h]; simp only [Ou.bind_ok, closeD_isF hf, fz_isF hf, hi]
theorem ev_it_mu (h : fe A = .ok (.mu ds) A1) (hf : isFs ds = true) : fIt fe A = .ok ds A1 := by
  unfold fIt; rw [h]; simp only [Ou.bind_ok, closeD, fz, fzs_isFs hf, iterOf]
/-! a def -/
theorem def_ret (A0 : Sl) {k n : Nat} {fs : FS} (hA : ds.map some ++ List.replicate (n - ds.length) none = A0) (hk : ds.length = k) (hd : ∀ i, d ≠ .al i) (h : ∃ A', fs A0 = .ok (.ret d) A') : defF k n fs ds = .ok d := by
  obtain ⟨A', h⟩ := h
  unfold defF runF
  rw [if_pos hk, hA, h]
  cases d <;> first | rfl | exact absurd rfl (hd _)
/-! operators -/
theorem gMinus_ok {a b : Int} : gMinus (.int a) (.int b) A = some (.int (a - b)) := rfl
theorem gAdd_ok {a b : Int} : gAdd (.int a) (.int b) A = some (.int (a + b)) := rfl
theorem gMul_l {a b : Int} (h : -18446744073709551616 < a ∧ a < 18446744073709551616) : gMulA (.int a) (.int b) A = some (.int (a * b)) := by unfold gMulA; simp only [cMul_l h, if_true]
theorem gMul_r {a b : Int} (h : -18446744073709551616 < b ∧ b < 18446744073709551616) : gMulA (.int a) (.int b) A = some (.int (a * b)) := by unfold gMulA; simp only [cMul_r h, if_true]
theorem gMod_ok {a b : Int} (h : 0 < b) : gMod (.int a) (.int b) A = some (.int (a % b)) := by unfold gMod g2I cMod; simp [h]
set_option exponentiation.threshold 500 in
theorem gDiv_ok {a b : Int} (h : 0 < b) (h2 : b ≤ 1000000000000000000000000000000000000000000000000000000000000000000000) : gDiv (.int a) (.int b) A = some (.int (a / b)) := by
  have : b.natAbs < 2 ^ 400 := by
    have : (1000000000000000000000000000000000000000000000000000000000000000000000 : Nat) < 2 ^ 400 := by decide
    omega
  unfold gDiv g2I cDiv; simp [h, this]
theorem gPow_ok {a : Int} {b : Nat} (h : b ≤ 1000) (h2 : a.natAbs < 1000000) : gPow (.int a) (.int (b : Nat)) A = some (.int (a ^ b)) := by
  have h3 : a.natAbs < 2 ^ 64 := by omega
  have h4 : ((b : Nat) : Int) ≤ 1000000 := by omega
  unfold gPow g2I cPow
  simp [h3, h4]
theorem gLt_ok {a b : Int} : gLt (.int a) (.int b) A = some (.bl (decide (a < b))) := rfl
theorem gLe_ok {a b : Int} : gLe (.int a) (.int b) A = some (.bl (decide (a ≤ b))) := rfl
theorem gGt_ok {a b : Int} : gGt (.int a) (.int b) A = some (.bl (decide (b < a))) := rfl
theorem gGe_ok {a b : Int} : gGe (.int a) (.int b) A = some (.bl (decide (b ≤ a))) := rfl
theorem eqv_int (a b : Int) : PyData.eqv (.int a) (.int b) = decide (a = b) := by rw [PyData.eqv]; exact Bool.beq_eq_decide_eq a b
theorem okD_int (a : Int) : okD (.int a) = true := by simp [okD, dat, SeqAt.shaped, PyData.canLay0, PyData.depth]
theorem gEq_int {a b : Int} : gEq (.int a) (.int b) A = some (.bl (decide (a = b))) := by
  unfold gEq; simp only [see, okD_int, Bool.and_self, if_true, dat, eqv_int]
theorem gNe_int {a b : Int} : gNe (.int a) (.int b) A = some (.bl (!decide (a = b))) := by
  unfold gNe; simp only [see, okD_int, Bool.and_self, if_true, dat, eqv_int]
end
end Ab
end
section
/-! typed data as told values -/
namespace Ab
open PySem L2
structure EncOk {α : Type} [DecidableEq α] (e : α → D) (n : Nat) : Prop where
  f : ∀ x, isF (e x) = true
  lay : ∀ x, (dat (e x)).canLay0 = true
  dep : ∀ x, (dat (e x)).depth ≤ n
  eqv : ∀ x y, PyData.eqv (dat (e x)) (dat (e y)) = decide (x = y)
section
variable {α β : Type} [DecidableEq α] [DecidableEq β] {e : α → D} {e' : β → D} {n m : Nat}
theorem enc_int : EncOk D.int 0 := ⟨fun _ => by simp [isF], fun _ => by simp [dat, PyData.canLay0], fun _ => by simp [dat, PyData.depth], fun x y => by rw [dat, dat]; exact eqv_int x y⟩
theorem EncOk.fs (h : EncOk e n) : ∀ xs : List α, isFs (xs.map e) = true
  | [] => by simp [isFs]
  | x :: xs => by rw [List.map_cons, isFs, h.f x, EncOk.fs h xs]; rfl
theorem EncOk.lays (h : EncOk e n) : ∀ xs : List α, PyData.canLayAll0 (dats (xs.map e)) = true
  | [] => by simp [dats, PyData.canLayAll0]
  | x :: xs => by rw [List.map_cons, dats, PyData.canLayAll0, h.lay x, EncOk.lays h xs]; rfl
theorem EncOk.deps (h : EncOk e n) : ∀ xs : List α, PyData.depthAll (dats (xs.map e)) ≤ n
  | [] => by simp [dats, PyData.depthAll]
  | x :: xs => by
    rw [List.map_cons, dats, PyData.depthAll]
    exact Nat.max_le.mpr ⟨h.dep x, EncOk.deps h xs⟩
theorem EncOk.eqvs (h : EncOk e n) : ∀ xs ys : List α, PyData.eqvAll (dats (xs.map e)) (dats (ys.map e)) = decide (xs = ys)
  | [], [] => by simp [dats, PyData.eqvAll]
  | [], _ :: _ => by simp [dats, PyData.eqvAll]
  | _ :: _, [] => by simp [dats, PyData.eqvAll]
  | x :: xs, y :: ys => by
    rw [List.map_cons, List.map_cons, dats, dats, PyData.eqvAll, h.eqv, EncOk.eqvs h xs ys]
    simp only [List.cons.injEq]
    by_cases h1 : x = y <;> by_cases h2 : xs = ys <;> simp [h1, h2]
abbrev eT (e : α → D) : List α → D := fun xs => .tup (xs.map e)
abbrev eL (e : α → D) : List α → D := fun xs => .lst (xs.map e)
abbrev eM (e : α → D) : List α → D := fun xs => .mu (xs.map e)
abbrev eP (e : α → D) (e' : β → D) : α × β → D := fun p => .tup [e p.1, e' p.2]
theorem enc_tup (h : EncOk e n) : EncOk (eT e) (n + 1) where
  f := fun xs => by rw [isF]; exact h.fs xs
  lay := fun xs => by rw [dat, PyData.canLay0]; exact h.lays xs
  dep := fun xs => by rw [dat, PyData.depth]; have := h.deps xs; omega
  eqv := fun xs ys => by rw [dat, dat, PyData.eqv]; exact h.eqvs xs ys
theorem enc_lst (h : EncOk e n) : EncOk (eL e) (n + 1) where
  f := fun xs => by simp [isF]
  lay := fun xs => by rw [dat, PyData.canLay0]; exact h.lays xs
  dep := fun xs => by rw [dat, PyData.depth]; have := h.deps xs; omega
  eqv := fun xs ys => by rw [dat, dat, PyData.eqv]; exact h.eqvs xs ys
theorem enc_pair (h : EncOk e n) (h' : EncOk e' m) : EncOk (eP e e') (max n m + 1) where
  f := fun p => by simp [isF, isFs, h.f, h'.f]
  lay := fun p => by simp [dat, dats, PyData.canLay0, PyData.canLayAll0, h.lay, h'.lay]
  dep := fun p => by
    simp only [dat, dats, PyData.depth, PyData.depthAll]
    have := h.dep p.1; have := h'.dep p.2
    omega
  eqv := fun p q => by
    cases p with | mk a b => cases q with | mk c d =>
    simp only [dat, dats, PyData.eqv, PyData.eqvAll, h.eqv, h'.eqv, Bool.and_true, Prod.mk.injEq]
    by_cases h1 : a = c <;> by_cases h2 : b = d <;> simp [h1, h2]
/-- None, or a value that is never None -/
def eO (e : α → D) : Option α → D
  | none => .non
  | some x => e x
theorem enc_opt (h : EncOk e n) (hn : ∀ x, PyData.eqv .none (dat (e x)) = false) (hn' : ∀ x, PyData.eqv (dat (e x)) .none = false) : EncOk (eO e) n where
  f := fun o => by cases o <;> simp [eO, isF, h.f]
  lay := fun o => by cases o <;> simp [eO, dat, PyData.canLay0, h.lay]
  dep := fun o => by
    cases o with
    | none => simp [eO, dat, PyData.depth]
    | some x => exact h.dep x
  eqv := fun o q => by
    cases o <;> cases q
    · simp [eO, dat, PyData.eqv]
    · simp only [eO, dat, hn]; simp
    · simp only [eO, dat, hn']; simp
    · simp only [eO, h.eqv]; simp
theorem EncOk.ok (h : EncOk e n) (hn : n ≤ 64 := by decide) (x : α) : okD (e x) = true := by
  unfold okD SeqAt.shaped
  rw [h.lay x, Bool.true_and, decide_eq_true_iff]
  exact Nat.le_trans (h.dep x) hn
theorem EncOk.okSeq (h : EncOk e n) (hn : n ≤ 63 := by decide) {d : D} {xs : List α} (hd : sqOf d = some (xs.map e)) : okD d = true := by
  have l := h.lays xs
  have p := h.deps xs
  unfold okD SeqAt.shaped
  rcases dat_seq hd with q | q <;> rw [q, PyData.canLay0, l, PyData.depth, Bool.true_and, decide_eq_true_iff] <;> omega
theorem EncOk.see (h : EncOk e n) (A : Sl) (x : α) : see A (e x) = e x := see_isF (h.f x)
section
variable {A : Sl} {d : D} {xs ys : List α} {x y : α}
theorem gEq_enc (h : EncOk e n) (hn : n ≤ 64 := by decide) : gEq (e x) (e y) A = some (.bl (decide (x = y))) := by
  unfold gEq; simp only [h.see, h.ok hn, Bool.and_self, if_true, h.eqv]
theorem gNe_enc (h : EncOk e n) (hn : n ≤ 64 := by decide) : gNe (e x) (e y) A = some (.bl (!decide (x = y))) := by
  unfold gNe; simp only [h.see, h.ok hn, Bool.and_self, if_true, h.eqv]
theorem EncOk.any (h : EncOk e n) (x : α) : ∀ ys : List α, ((dats (ys.map e)).any fun z => PyData.eqv z (dat (e x))) = decide (x ∈ ys)
  | [] => by simp [dats]
  | y :: ys => by
    rw [List.map_cons, dats, List.any_cons, h.eqv, EncOk.any h x ys]
    by_cases h1 : y = x <;> by_cases h2 : x ∈ ys <;> simp [h1, h2, eq_comm]
    · intro q; exact h1 q.symm
theorem inB_enc (h : EncOk e n) (hs : sqOf (Ab.see A d) = some (ys.map e)) (hn : n ≤ 63 := by decide) : inB (e x) d A = some (decide (x ∈ ys)) := by
  unfold inB
  split
  · rename_i z hz; rw [hz] at hs; cases hs
  · rw [hs]
    simp only [h.see, h.ok (Nat.le_trans hn (by decide)), h.okSeq hn hs, Bool.and_self, if_true, h.any]
theorem gIn_enc (h : EncOk e n) (hs : sqOf (Ab.see A d) = some (ys.map e)) (hn : n ≤ 63 := by decide) : gIn (e x) d A = some (.bl (decide (x ∈ ys))) := by
  unfold gIn; rw [inB_enc h hs hn]; rfl
theorem gNotIn_enc (h : EncOk e n) (hs : sqOf (Ab.see A d) = some (ys.map e)) (hn : n ≤ 63 := by decide) : gNotIn (e x) d A = some (.bl (!decide (x ∈ ys))) := by
  unfold gNotIn; rw [inB_enc h hs hn]; rfl
end
end
/-! ### items -/
section
variable {A : Sl} {d e : D} {ds : List D} {i : Int}
theorem atI_nn {α : Type} {xs : List α} {i : Int} {x : α} (h0 : 0 ≤ i) (h : xs[i.toNat]? = some x) : atI xs i = some x := by
  have hl := (List.getElem?_eq_some_iff.mp h).1
  unfold atI ixN
  rw [if_pos h0, if_pos (by omega)]
  exact h
theorem atI_neg {α : Type} {xs : List α} {i : Int} {x : α} (h0 : i < 0) (h1 : 0 ≤ i + xs.length) (h : xs[(i + xs.length).toNat]? = some x) : atI xs i = some x := by
  unfold atI ixN
  rw [if_neg (by omega), if_pos (by omega)]
  exact h
theorem gIx_at (hs : sqOf (see A d) = some ds) (h : atI ds i = some e) (hf : isF e = true) : gIx d (.int i) A = some e := by
  unfold gIx
  simp only
  split
  · rename_i z hz; rw [hz] at hs; cases hs
  · rw [hs]; simp only [h, hf, if_true]
theorem gIx_map {α : Type} {f : α → D} {xs : List α} {x : α} (hs : sqOf (see A d) = some (xs.map f)) (h0 : 0 ≤ i) (h : xs[i.toNat]? = some x) (hf : isF (f x) = true) : gIx d (.int i) A = some (f x) :=
  gIx_at hs (atI_nn h0 (by rw [List.getElem?_map, h]; rfl)) hf
theorem idxOf_enc {α : Type} [DecidableEq α] {f : α → D} {n : Nat} (h : EncOk f n) (x : α) : ∀ (ys : List α) (k : Nat), x ∈ ys → idxOf (dat (f x)) (dats (ys.map f)) k = some (k + ys.idxOf x)
  | y :: ys, k, m => by
    rw [List.map_cons, dats, idxOf, h.eqv]
    by_cases e : y = x
    · subst e; simp
    · have m' : x ∈ ys := (List.mem_cons.mp m).resolve_left fun q => e q.symm
      rw [decide_eq_false e, if_neg Bool.false_ne_true, idxOf_enc h x ys (k + 1) m', List.idxOf_cons, show (y == x) = false by simpa using e]
      simp only [cond_false]
      congr 1; omega
theorem gIndex_enc {α : Type} [DecidableEq α] {f : α → D} {n : Nat} {x : α} {ys : List α} (h : EncOk f n) (hs : lsOf (see A d) = some (ys.map f)) (m : x ∈ ys) (hn : n ≤ 63 := by decide) : gIndex d [f x] A = some (.int ((ys.idxOf x : Nat) : Int)) := by
  have hs2 : sqOf (see A d) = some (ys.map f) := by
    revert hs
    cases see A d <;> simp [lsOf, sqOf]
  unfold gIndex
  simp only [hs, h.see, h.ok (Nat.le_trans hn (by decide)), h.okSeq hn hs2, Bool.and_self, if_true, idxOf_enc h x ys 0 m, Option.map_some, Nat.zero_add]
end
section
variable {A A1 : Sl} {fe : FE} {i : Nat} {ds es : List D}
theorem ev_it_al (h : A[i]? = some (some (.mu ds))) (hf : isFs ds = true) : fIt (fVar i) A = .ok ds (A.set i (some (.lst ds))) := by
  unfold fIt
  rw [ev_al h (by simp [isF])]
  simp only [Ou.bind_ok, closeD, h, fz, fzs_isFs hf, iterOf]
theorem gAdd_tup (h1 : isFs ds = true) (h2 : isFs es = true) (h3 : ds.length + es.length ≤ sizeLine) : gAdd (.tup ds) (.tup es) A = some (.tup (ds ++ es)) := by
  unfold gAdd
  simp only [see, h1, h2, h3, and_self, if_true]
theorem gAdd_lst {d e : D} (h0 : exOf (see A d) = some ds) (h00 : exOf (see A e) = some es) (h1 : isFs ds = true) (h2 : isFs es = true) (h3 : ds.length + es.length ≤ sizeLine) : gAdd d e A = some (.mu (ds ++ es)) := by
  unfold gAdd
  split
  · rename_i q _; rw [q] at h0; cases h0
  · rename_i q _; rw [q] at h0; cases h0
  · rename_i q _; rw [q] at h0; cases h0
  · rw [h0, h00]; simp only [h1, h2, h3, and_self, if_true]
end
end Ab
end
section
/-! statements by what holds behind them -/
namespace Ab
open PySem L2
def W (o : Ou Fl) (P : Fl → Sl → Prop) : Prop := ∃ r A', o = .ok r A' ∧ P r A'
section
variable {A A0 A1 A2 : Sl} {f g k : FS} {fe fa fb : FE} {ft : FT} {P Q : Fl → Sl → Prop} {r : Fl} {b : Bool}
theorem w_of (h : f A = .ok r A1) (hp : P r A1) : W (f A) P := ⟨r, A1, h, hp⟩
theorem w_imp (h : W (f A) P) (hq : ∀ r A, P r A → Q r A) : W (f A) Q := let ⟨r, A', e, p⟩ := h; ⟨r, A', e, hq _ _ p⟩
theorem w_seq_n (h : f A = .ok .next A1) (hk : W (g A1) P) : W (fSeq f g A) P := by
  obtain ⟨r, A', e, p⟩ := hk
  exact ⟨r, A', (seq_next h).trans e, p⟩
theorem w_seq (h : W (f A) fun r A1 => match r with | .next => W (g A1) P | r => P r A1) : W (fSeq f g A) P := by
  obtain ⟨r, A', e, p⟩ := h
  unfold fSeq
  rw [e]
  simp only [Ou.bind_ok]
  cases r with
  | next => exact p
  | brk => exact ⟨_, _, rfl, p⟩
  | cont => exact ⟨_, _, rfl, p⟩
  | ret d => exact ⟨_, _, rfl, p⟩
theorem w_seq_W (h : W (f A) fun r A1 => r = .next ∧ W (g A1) P) : W (fSeq f g A) P := by
  obtain ⟨r, A', e, rfl, p⟩ := h
  exact w_seq_n e p
theorem wf_next (h : P .next A) : W (fNext A) P := ⟨_, _, rfl, h⟩
theorem w_cont (h : P .cont A) : W (fCont A) P := ⟨_, _, rfl, h⟩
theorem w_brk (h : P .brk A) : W (fBrk A) P := ⟨_, _, rfl, h⟩
theorem w_seq_next (h : W (k A) P) : W (fSeq fNext k A) P := w_seq_n rfl h
theorem w_seq_cont (h : P .cont A) : W (fSeq fCont k A) P := w_seq ⟨_, _, rfl, h⟩
theorem w_if (h : ft A = .ok b A1) (ht : b = true → W (f A1) P) (hf : b = false → W (g A1) P) : W (fIf ft f g A) P := by
  cases b with
  | true => obtain ⟨r, A', e, p⟩ := ht rfl; exact ⟨r, A', (fif_t h).trans e, p⟩
  | false => obtain ⟨r, A', e, p⟩ := hf rfl; exact ⟨r, A', (fif_f h).trans e, p⟩
theorem w_seq_if (h : ft A = .ok b A1) (ht : b = true → W (fSeq f k A1) P) (hf : b = false → W (fSeq g k A1) P) : W (fSeq (fIf ft f g) k A) P := by
  cases b with
  | true =>
    have := ht rfl
    unfold fSeq at this ⊢
    rw [fif_t h]; exact this
  | false =>
    have := hf rfl
    unfold fSeq at this ⊢
    rw [fif_f h]; exact this
theorem w_assoc (h : W (fSeq f (fSeq g k) A) P) : W (fSeq (fSeq f g) k A) P := by
  have e : fSeq (fSeq f g) k A = fSeq f (fSeq g k) A := by
    unfold fSeq
    cases f A with
    | ok r A1 => cases r <;> rfl
    | exc _ _ => rfl
    | stuck => rfl
  rw [e]; exact h
/-- a for by an invariant; its turns go on -/
theorem w_seq_for {fi : FI} {t : Tg} {fb : FS} {xs : List D} (I : Nat → Sl → Prop) (hi : fi A = .ok xs A0) (h0 : I 0 A0) (hs : ∀ j d A, xs[j]? = some d → I j A → ∃ A1, t.set d A = some A1 ∧ W (fb A1) fun r A2 => (r = .next ∨ r = .cont) ∧ I (j + 1) A2)
    (hk : ∀ A', I xs.length A' → W (k A') P) : W (fSeq (fFor fi t fb) k A) P := by
  obtain ⟨A', h1, h2⟩ := for_ind I hi h0 fun j d A e h => by
    obtain ⟨A1, e1, r, A2, e2, hr, hI⟩ := hs j d A e h
    exact ⟨A1, A2, e1, hr.elim (fun z => .inl (by rw [← z]; exact e2)) fun z => .inr (by rw [← z]; exact e2), hI⟩
  exact w_seq_n h1 (hk A' h2)
theorem w_for {fi : FI} {t : Tg} {fb : FS} {xs : List D} (I : Nat → Sl → Prop) (hi : fi A = .ok xs A0) (h0 : I 0 A0) (hs : ∀ j d A, xs[j]? = some d → I j A → ∃ A1, t.set d A = some A1 ∧ W (fb A1) fun r A2 => (r = .next ∨ r = .cont) ∧ I (j + 1) A2)
    (hk : ∀ A', I xs.length A' → P .next A') : W (fFor fi t fb A) P := by
  obtain ⟨A', h1, h2⟩ := for_ind I hi h0 fun j d A e h => by
    obtain ⟨A1, e1, r, A2, e2, hr, hI⟩ := hs j d A e h
    exact ⟨A1, A2, e1, hr.elim (fun z => .inl (by rw [← z]; exact e2)) fun z => .inr (by rw [← z]; exact e2), hI⟩
  exact ⟨_, _, h1, hk A' h2⟩
/-- a for that may be left by a return: up to some turn all go on, then one gives r -/
theorem forL_find {t : Tg} {fb : FS} (I : Nat → Sl → Prop) (E : D → Prop) : ∀ (xs : List D) (n : Nat) (A : Sl), I n A → (∀ j d A, xs[j]? = some d → I (n + j) A → ∃ A1, t.set d A = some A1 ∧ W (fb A1) fun r A2 => (r = .next ∨ r = .cont) ∧ I (n + j + 1) A2 ∨ ∃ v, r = .ret v ∧ E v) →
    W (forL t fb xs A) fun r A' => r = .next ∧ I (n + xs.length) A' ∨ ∃ v, r = .ret v ∧ E v
  | [], n, A, h0, _ => ⟨.next, A, rfl, .inl ⟨rfl, h0⟩⟩
  | x :: xs, n, A, h0, hs => by
    obtain ⟨A1, h1, r, A2, h2, h3⟩ := hs 0 x A rfl h0
    unfold forL
    simp only [h1]
    rcases h3 with ⟨hr, h3⟩ | ⟨v, rfl, hv⟩
    · have ih := forL_find I E xs (n + 1) A2 h3 fun j d A e h => by
        have := hs (j + 1) d A (by simpa using e) (by rw [show n + (j + 1) = n + 1 + j by omega]; exact h)
        rw [show n + (j + 1) + 1 = n + 1 + j + 1 by omega] at this
        exact this
      rw [List.length_cons, show n + (xs.length + 1) = n + 1 + xs.length by omega]
      rcases hr with rfl | rfl <;> simp only [h2] <;> exact ih
    · simp only [h2]
      exact ⟨_, _, rfl, .inr ⟨v, rfl, hv⟩⟩
theorem w_seq_find {fi : FI} {t : Tg} {fb : FS} {xs : List D} (I : Nat → Sl → Prop) (E : D → Prop) (hi : fi A = .ok xs A0) (h0 : I 0 A0) (hs : ∀ j d A, xs[j]? = some d → I j A → ∃ A1, t.set d A = some A1 ∧ W (fb A1) fun r A2 => (r = .next ∨ r = .cont) ∧ I (j + 1) A2 ∨ ∃ v, r = .ret v ∧ E v)
    (hk : ∀ A', I xs.length A' → W (k A') P) (he : ∀ v A', E v → P (.ret v) A') : W (fSeq (fFor fi t fb) k A) P := by
  obtain ⟨r, A', h1, h2⟩ := forL_find (t := t) (fb := fb) I E xs 0 A0 h0 fun j d A e h => by rw [Nat.zero_add] at h ⊢; exact hs j d A e h
  have e : fFor fi t fb A = .ok r A' := by unfold fFor; rw [hi]; exact h1
  rcases h2 with ⟨rfl, h2⟩ | ⟨v, rfl, hv⟩
  · exact w_seq_n e (hk A' (by simpa using h2))
  · exact w_seq ⟨_, _, e, he v A' hv⟩
/-- while, by an invariant that falls -/
theorem whileN_w {c : FT} {fb : FS} (I : Nat → Sl → Prop) : ∀ (m n : Nat) (A : Sl), m < n → I m A → (∀ m A, I m A → ∃ b A1, c A = .ok b A1 ∧ (b = true → W (fb A1) fun r A2 => (r = .next ∨ r = .cont) ∧ ∃ m', m' < m ∧ I m' A2) ∧ (b = false → P .next A1)) → W (whileN c fb n A) P
  | m, 0, A, h, _, _ => absurd h (Nat.not_lt_zero _)
  | m, n + 1, A, h, hI, hs => by
    obtain ⟨b, A1, h1, h2, h3⟩ := hs m A hI
    unfold whileN
    cases b with
    | false => simp only [h1]; exact ⟨_, _, rfl, h3 rfl⟩
    | true =>
      obtain ⟨r, A2, h4, hr, m', hm, hI'⟩ := h2 rfl
      simp only [h1]
      have ih := whileN_w I m' n A2 (by omega) hI' hs
      rcases hr with rfl | rfl <;> simp only [h4] <;> exact ih
theorem w_seq_while {n : Nat} {c : FT} {fb : FS} (I : Nat → Sl → Prop) (m : Nat) (hm : m < n) (h0 : I m A) (hs : ∀ m A, I m A → ∃ b A1, c A = .ok b A1 ∧ (b = true → W (fb A1) fun r A2 => (r = .next ∨ r = .cont) ∧ ∃ m', m' < m ∧ I m' A2) ∧ (b = false → W (k A1) P)) : W (fSeq (fWhile n c fb) k A) P := by
  obtain ⟨r, A', e, p⟩ := whileN_w (P := fun r A1 => r = .next ∧ W (k A1) P) I m n A hm h0 fun m A hI => by
    obtain ⟨b, A1, h1, h2, h3⟩ := hs m A hI
    exact ⟨b, A1, h1, h2, fun hb => ⟨rfl, h3 hb⟩⟩
  obtain ⟨rfl, p⟩ := p
  exact w_seq_n e p
theorem w_ret {d : D} (h : fe A = .ok d A1) (hd : isF d = true) (hp : P (.ret d) A1) : W (fRet fe A) P := ⟨_, _, ev_ret h (isF_al hd), hp⟩
theorem w_ret_mu {ds : List D} (h : fe A = .ok (.mu ds) A1) (hp : P (.ret (.mu ds)) A1) : W (fRet fe A) P := ⟨_, _, ev_ret h (fun _ q => nomatch q), hp⟩
theorem w_ret_al {i : Nat} {ds : List D} (h : A[i]? = some (some (.mu ds))) (hp : P (.ret (.mu ds)) (A.set i none)) : W (fRet (fVar i) A) P := ⟨_, _, ev_ret_al h, hp⟩
theorem w_seq_ret (h : W (f A) fun r A1 => ∃ v, r = .ret v ∧ P (.ret v) A1) : W (fSeq f g A) P := by
  obtain ⟨r, A', e, v, rfl, p⟩ := h
  exact w_seq ⟨_, _, e, p⟩
end
/-- a def's answer -/
def Ret (P : D → Prop) : Fl → Sl → Prop := fun r _ => match r with
  | .ret d => (∀ i, d ≠ .al i) ∧ P d
  | .next => P .non
  | _ => False
theorem ret_of {P : D → Prop} {d : D} {A : Sl} (hd : isF d = true) (h : P d) : Ret P (.ret d) A := ⟨isF_al hd, h⟩
theorem ret_mu {P : D → Prop} {ds : List D} {A : Sl} (h : P (.mu ds)) : Ret P (.ret (.mu ds)) A := ⟨(fun _ q => nomatch q), h⟩
theorem def_w {ds : List D} {k n : Nat} {fs : FS} {P : D → Prop} (A0 : Sl) (hA : ds.map some ++ List.replicate (n - ds.length) none = A0) (hk : ds.length = k) (h : W (fs A0) (Ret P)) : ∃ d, defF k n fs ds = .ok d ∧ P d := by
  obtain ⟨r, A', e, p⟩ := h
  unfold defF runF
  rw [if_pos hk, hA, e]
  cases r with
  | next => exact ⟨_, rfl, p⟩
  | brk => exact p.elim
  | cont => exact p.elim
  | ret d =>
    obtain ⟨p1, p2⟩ := p
    refine ⟨d, ?_, p2⟩
    cases d <;> first | rfl | exact absurd rfl (p1 _)
theorem def_is {ds : List D} {k n : Nat} {fs : FS} {d : D} (A0 : Sl) (hA : ds.map some ++ List.replicate (n - ds.length) none = A0) (hk : ds.length = k) (h : W (fs A0) (Ret fun x => x = d)) : defF k n fs ds = .ok d := by
  obtain ⟨_, e, rfl⟩ := def_w A0 hA hk h
  exact e
theorem getD_get {α : Type} {xs : List α} {k : Nat} {d : α} (h : k < xs.length) : xs[k]? = some (xs.getD k d) := by
  rw [List.getD_eq_getElem?_getD, List.getElem?_eq_getElem h]; rfl
/-- menus -/
theorem gIx_2 {a b i : Int} {A : Sl} (h0 : 0 ≤ i) (h1 : i < 2) : gIx (.mu [.int a, .int b]) (.int i) A = some (.int (if i = 0 then a else b)) := by
  rcases (by omega : i = 0 ∨ i = 1) with rfl | rfl
  · exact gIx_at (ds := [.int a, .int b]) rfl rfl rfl
  · exact gIx_at (ds := [.int a, .int b]) rfl rfl rfl
theorem gIx_3 {a b c i : Int} {A : Sl} (h0 : 0 ≤ i) (h1 : i < 3) : gIx (.mu [.int a, .int b, .int c]) (.int i) A = some (.int (if i = 0 then a else if i = 1 then b else c)) := by
  rcases (by omega : i = 0 ∨ i = 1 ∨ i = 2) with rfl | rfl | rfl
  · exact gIx_at (ds := [.int a, .int b, .int c]) rfl rfl rfl
  · exact gIx_at (ds := [.int a, .int b, .int c]) rfl rfl rfl
  · exact gIx_at (ds := [.int a, .int b, .int c]) rfl rfl rfl
theorem gIx_4 {a b c d i : Int} {A : Sl} (h0 : 0 ≤ i) (h1 : i < 4) : gIx (.mu [.int a, .int b, .int c, .int d]) (.int i) A = some (.int (if i = 0 then a else if i = 1 then b else if i = 2 then c else d)) := by
  rcases (by omega : i = 0 ∨ i = 1 ∨ i = 2 ∨ i = 3) with rfl | rfl | rfl | rfl
  · exact gIx_at (ds := [.int a, .int b, .int c, .int d]) rfl rfl rfl
  · exact gIx_at (ds := [.int a, .int b, .int c, .int d]) rfl rfl rfl
  · exact gIx_at (ds := [.int a, .int b, .int c, .int d]) rfl rfl rfl
  · exact gIx_at (ds := [.int a, .int b, .int c, .int d]) rfl rfl rfl
theorem range_get {n j : Nat} {d : D} (h : ((List.range n).map fun i => D.int (i : Nat))[j]? = some d) : d = .int (j : Nat) ∧ j < n := by
  have hj : j < n := by simpa using (List.getElem?_eq_some_iff.mp h).1
  rw [List.getElem?_map, List.getElem?_range hj] at h
  exact ⟨(Option.some.inj h).symm, hj⟩
theorem map_get {α : Type} {f : α → D} {xs : List α} {j : Nat} {d : D} (h : (xs.map f)[j]? = some d) : ∃ x, xs[j]? = some x ∧ d = f x := by
  rw [List.getElem?_map] at h
  cases q : xs[j]? with
  | none => rw [q] at h; cases h
  | some x => rw [q] at h; exact ⟨x, rfl, (Option.some.inj h).symm⟩
theorem compL_map {α β : Type} {e : α → D} {e' : β → D} {t : Tg} {ft : FT} {fe : FE} {A : Sl} (f : α → β) (p : α → Bool) : ∀ (xs : List α) (acc : List D), acc.length + xs.length ≤ sizeLine → (∀ x ∈ xs, ∃ A1, t.set (e x) A = some A1 ∧ ft A1 = .ok (p x) A1 ∧ (p x = true → fe A1 = .ok (e' (f x)) A1 ∧ ∀ i, e' (f x) ≠ .al i) ∧ wipeA A1 t.own = A) →
    compL t ft fe (xs.map e) acc A = .ok (acc ++ ((xs.filter p).map f).map e') A
  | [], acc, _, _ => by simp [compL]
  | d :: ds, acc, hl, h => by
    obtain ⟨A1, h1, h2, h3, h4⟩ := h d List.mem_cons_self
    have ih := fun acc' h' => compL_map f p ds acc' h' (fun d' m => h d' (List.mem_cons_of_mem _ m))
    rw [List.length_cons] at hl
    rw [List.map_cons]
    unfold compL
    rw [h1]
    simp only [h2]
    cases hp : p d with
    | false =>
      simp only [h4]
      rw [ih acc (by omega), List.filter_cons_of_neg (by simp [hp])]
    | true =>
      obtain ⟨h5, h6⟩ := h3 hp
      have ec : closeD (e' (f d)) A1 = some (e' (f d), A1) := by
        unfold closeD
        cases hg : e' (f d) <;> first | rfl | exact absurd hg (h6 _)
      simp only [h5, ec, h4]
      rw [if_pos (by omega), ih _ (by simp; omega), List.filter_cons_of_pos hp, List.map_cons, List.map_cons, List.append_assoc]
      rfl
theorem fcomp_filter {α β : Type} {e : α → D} {e' : β → D} {fi : FI} {t : Tg} {ft : FT} {fe : FE} {A A0 : Sl} {xs : List α} (f : α → β) (p : α → Bool) (hi : fi A = .ok (xs.map e) A0) (hl : xs.length ≤ sizeLine) (h : ∀ x ∈ xs, ∃ A1, t.set (e x) (wipeA A0 t.own) = some A1 ∧ ft A1 = .ok (p x) A1 ∧ (p x = true → fe A1 = .ok (e' (f x)) A1 ∧ ∀ i, e' (f x) ≠ .al i) ∧ wipeA A1 t.own = wipeA A0 t.own) :
    fComp fi t ft fe A = .ok (.mu (((xs.filter p).map f).map e')) (wipeA (wipeA A0 t.own) t.own) := by
  unfold fComp
  rw [hi]
  simp only [Ou.bind_ok]
  rw [compL_map f p xs [] (by simpa using hl) h]
  simp
theorem fcomp_map {α β : Type} {e : α → D} {e' : β → D} {fi : FI} {t : Tg} {fe : FE} {A A0 : Sl} {xs : List α} (f : α → β) (hi : fi A = .ok (xs.map e) A0) (hl : xs.length ≤ sizeLine) (h : ∀ x ∈ xs, ∃ A1, t.set (e x) (wipeA A0 t.own) = some A1 ∧ fe A1 = .ok (e' (f x)) A1 ∧ (∀ i, e' (f x) ≠ .al i) ∧ wipeA A1 t.own = wipeA A0 t.own) :
    fComp fi t fYes fe A = .ok (.mu ((xs.map f).map e')) (wipeA (wipeA A0 t.own) t.own) := by
  have := fcomp_filter (ft := fYes) f (fun _ => true) hi hl fun x m => by
    obtain ⟨A1, h1, h2, h3, h4⟩ := h x m
    exact ⟨A1, h1, rfl, fun _ => ⟨h2, h3⟩, h4⟩
  rw [List.filter_eq_self.mpr (fun _ _ => rfl)] at this
  exact this
/-! isinstance -/
section
variable {A : Sl} {v : Int} {ds : List D}
theorem isi_ii : gIsi [.int v, .ty "int"] A = some (.bl true) := by
  show (kitB "int" "int").map D.bl = _; rw [show kitB "int" "int" = some true by decide +kernel]; rfl
theorem isi_ib : gIsi [.int v, .ty "bool"] A = some (.bl false) := by
  show (kitB "int" "bool").map D.bl = _; rw [show kitB "int" "bool" = some false by decide +kernel]; rfl
theorem isi_tt : gIsi [.tup ds, .ty "tuple"] A = some (.bl true) := by
  show (kitB "tuple" "tuple").map D.bl = _; rw [show kitB "tuple" "tuple" = some true by decide +kernel]; rfl
theorem isi_ll : gIsi [.lst ds, .ty "list"] A = some (.bl true) := by
  show (kitB "list" "list").map D.bl = _; rw [show kitB "list" "list" = some true by decide +kernel]; rfl
theorem isi_ml : gIsi [.mu ds, .ty "list"] A = some (.bl true) := by
  show (kitB "list" "list").map D.bl = _; rw [show kitB "list" "list" = some true by decide +kernel]; rfl
theorem isi_bi {b : Bool} : gIsi [.bl b, .ty "int"] A = some (.bl true) := by
  show (kitB "bool" "int").map D.bl = _; rw [show kitB "bool" "int" = some true by decide +kernel]; rfl
theorem isi_bb {b : Bool} : gIsi [.bl b, .ty "bool"] A = some (.bl true) := by
  show (kitB "bool" "bool").map D.bl = _; rw [show kitB "bool" "bool" = some true by decide +kernel]; rfl
theorem isi_ss {x : Str} : gIsi [.str x, .ty "str"] A = some (.bl true) := by
  show (kitB "str" "str").map D.bl = _; rw [show kitB "str" "str" = some true by decide +kernel]; rfl
end
end Ab
end
section
namespace Lw
open PySem PySem.Spec PyProof.Rows L2 Ab
/-- many_rows(road, rounds, many, turn) -/
def f_many_rows : FS := fSeq (fAsg 2 (fC (.int 1))) (fSeq (fFor (fRange (fVar 1)) (.nm 3) (fAsg 2 (fBin gMulA (fVar 2) (fCB gLen (fCons (fVar 0) (fNil)))))) (fRet (fVar 2)))
def F_many_rows : List D → Ro := defF 2 4 f_many_rows
/-- many_runs(road, rounds, starts) -/
def f_many_runs : FS := fRet (fBin gMulA (fCB gLen (fCons (fVar 2) (fNil))) (fCall F_many_rows (fCons (fVar 0) (fCons (fVar 1) (fNil)))))
def F_many_runs : List D → Ro := defF 3 3 f_many_runs
/-- row_at(road, rounds, number, row, turn) -/
def f_row_at : FS := fSeq (fAsg 3 (fLst (fNil))) (fSeq (fFor (fRange (fVar 1)) (.nm 4) (fSeq (fDrop (fApp 3 (fBin gIx (fVar 0) (fBin gMod (fVar 2) (fCB gLen (fCons (fVar 0) (fNil))))))) (fAsgF 2 (fBin gDiv (fVar 2) (fCB gLen (fCons (fVar 0) (fNil))))))) (fRet (fCB gTuple (fCons (fSlS (fVar 3) fNoPart fNoPart (fPart (fUn gNeg (fC (.int 1))))) (fNil)))))
def F_row_at : List D → Ro := defF 3 5 f_row_at
/-- run_at(road, rounds, starts, number, many) -/
def f_run_at : FS := fSeq (fAsgF 4 (fCall F_many_rows (fCons (fVar 0) (fCons (fVar 1) (fNil))))) (fRet (fTup (fCons (fBin gIx (fVar 2) (fBin gDiv (fVar 3) (fVar 4))) (fCons (fCall F_row_at (fCons (fVar 0) (fCons (fVar 1) (fCons (fBin gMod (fVar 3) (fVar 4)) (fNil))))) (fNil)))))
def F_run_at : List D → Ro := defF 4 5 f_run_at
/-- number_of(road, rounds, starts, run, number, weather) -/
def f_number_of : FS := fSeq (fAsg 4 (fMtL gIndex (fVar 2) (fCons (fBin gIx (fVar 3) (fC (.int 0))) (fNil)))) (fSeq (fFor (fIt (fBin gIx (fVar 3) (fC (.int 1)))) (.nm 5) (fAsg 4 (fBin gAdd (fBin gMulA (fVar 4) (fCB gLen (fCons (fVar 0) (fNil)))) (fMtL gIndex (fVar 0) (fCons (fVar 5) (fNil)))))) (fRet (fVar 4)))
def F_number_of : List D → Ro := defF 4 6 f_number_of
/-- _law_at(_law_script, _law_k) -/
def f__law_at : FS := fSeq (fIf (fB (fBin gLt (fVar 1) (fCB gLen (fCons (fVar 0) (fNil))))) (fRet (fBin gIx (fVar 0) (fVar 1))) (fNext)) (fRet (fBin gAdd (fBin gMulA (fC (.int 13)) (fVar 1)) (fC (.int 6))))
def F__law_at : List D → Ro := defF 2 2 f__law_at
/-- _law_mix(_law_number, _law_place, _law_part) -/
def f__law_mix : FS := fSeq (fAsgF 2 (fBin gMod (fBin gMulA (fBin gAdd (fBin gAdd (fBin gMod (fVar 0) (fC (.int 2147483629))) (fVar 1)) (fC (.int 1))) (fBin gAdd (fBin gMulA (fBin gMulA (fC (.int 8)) (fVar 1)) (fVar 1)) (fC (.int 48271)))) (fC (.int 2147483647)))) (fRet (fBin gMod (fBin gMulA (fVar 2) (fVar 2)) (fC (.int 2147483587))))
def F__law_mix : List D → Ro := defF 2 3 f__law_mix
/-- _law_letters(_law_hands, _law_letters_here, _law_start, _law_goal) -/
def f__law_letters : FS := fSeq (fAsg 1 (fLst (fNil))) (fSeq (fFor (fRange (fVar 0)) (.nm 2) (fDrop (fExt 1 (fComp (fRange (fVar 0)) (.nm 3) (fB (fBin gNe (fVar 3) (fVar 2))) (fTup (fCons (fVar 2) (fCons (fVar 3) (fNil)))))))) (fRet (fVar 1)))
def F__law_letters : List D → Ro := defF 1 4 f__law_letters
/-- _law_road(_law_script, _law_hands, _law_most, _law_letters_here, _law_lost, _law_cell, _law_road_here, _law_bag, _law_number, _law_at_here, _law_weather, _law_k) -/
def f__law_road : FS := fSeq (fAsgF 3 (fCall F__law_letters (fCons (fVar 1) (fNil)))) (fSeq (fAsg 4 (fComp (fRange (fBin gAdd (fC (.int 1)) (fBin gMod (fCall F__law_mix (fCons (fCall F__law_at (fCons (fVar 0) (fCons (fC (.int 0)) (fNil)))) (fCons (fC (.int 1)) (fNil)))) (fVar 2)))) (.nm 11) fYes (fBin gMulA (fLst (fCons (fC (.int 0)) (fNil))) (fCB gLen (fCons (fVar 3) (fNil)))))) (fSeq (fFor (fIt (fSl (fVar 0) (fPart (fC (.int 1))) (fPart (fC (.int 64))))) (.nm 5) (fSeq (fAsgF 8 (fCall F__law_mix (fCons (fVar 5) (fCons (fC (.int 2)) (fNil))))) (fBag 4 7 9 8 3 8 (fBin gMod (fVar 8) (fCB gLen (fCons (fVar 4) (fNil))))))) (fSeq (fAsg 6 (fLst (fNil))) (fSeq (fFor (fIt (fVar 4)) (.nm 7) (fSeq (fAsgF 10 (fCB gTuple (fCons (fComp (fRange (fCB gLen (fCons (fVar 3) (fNil)))) (.nm 11) (fB (fBin gEq (fBin gIx (fVar 7) (fVar 11)) (fC (.int 1)))) (fBin gIx (fVar 3) (fVar 11))) (fNil)))) (fIf (fB (fBin gNotIn (fVar 10) (fVar 6))) (fDrop (fApp 6 (fVar 10))) (fNext)))) (fRet (fVar 6))))))
def F__law_road : List D → Ro := defF 3 12 f__law_road
/-- _law_starts(_law_script, _law_hands, _law_starts_here, _law_k, _law_number, _law_first, _law_start, _law_j) -/
def f__law_starts : FS := fSeq (fAsg 2 (fLst (fNil))) (fSeq (fFor (fRange (fBin gAdd (fC (.int 1)) (fBin gMod (fCall F__law_mix (fCons (fCall F__law_at (fCons (fVar 0) (fCons (fC (.int 0)) (fNil)))) (fCons (fC (.int 6)) (fNil)))) (fC (.int 81))))) (.nm 3) (fSeq (fAsgF 4 (fCall F__law_mix (fCons (fCall F__law_at (fCons (fVar 0) (fCons (fBin gAdd (fC (.int 1)) (fBin gMod (fVar 3) (fC (.int 63)))) (fNil)))) (fCons (fBin gAdd (fC (.int 40)) (fVar 3)) (fNil))))) (fSeq (fAsgF 5 (fBin gAdd (fBin gMinus (fBin gMod (fCall F__law_at (fCons (fVar 0) (fCons (fBin gAdd (fC (.int 1)) (fBin gMod (fVar 3) (fC (.int 63)))) (fNil)))) (fBin gMinus (fBin gMulA (fC (.int 2)) (fBin gPow (fC (.int 10)) (fC (.int 60)))) (fC (.int 1)))) (fBin gPow (fC (.int 10)) (fC (.int 60)))) (fC (.int 1)))) (fSeq (fAsgF 6 (fBin gAdd (fTup (fCons (fVar 5) (fNil))) (fCB gTuple (fCons (fComp (fRange (fBin gMinus (fVar 1) (fC (.int 1)))) (.nm 7) fYes (fBin gMinus (fBin gMod (fBin gDiv (fVar 4) (fBin gIx (fLst (fCons (fC (.int 1)) (fCons (fC (.int 7)) (fCons (fC (.int 49)) (fNil))))) (fVar 7))) (fC (.int 7))) (fC (.int 3)))) (fNil))))) (fSeq (fIf (fB (fBin gEq (fBin gMod (fVar 4) (fC (.int 4))) (fC (.int 0)))) (fAsgF 6 (fBin gAdd (fSl (fVar 6) (fPart (fC (.int 1))) fNoPart) (fSl (fVar 6) fNoPart (fPart (fC (.int 1)))))) (fNext)) (fIf (fB (fBin gNotIn (fVar 6) (fVar 2))) (fDrop (fApp 2 (fVar 6))) (fNext))))))) (fRet (fVar 2)))
def F__law_starts : List D → Ro := defF 2 8 f__law_starts
/-- _law_run(_law_found, _law_hands, _law_rounds) -/
def f__law_run : FS := fSeq (fIf (fOr (fNot (fB (fCB gIsi (fCons (fVar 0) (fCons (fC (.ty "tuple")) (fNil)))))) (fB (fBin gNe (fCB gLen (fCons (fVar 0) (fNil))) (fC (.int 2))))) (fRet (fC (.bl false))) (fNext)) (fSeq (fIf (fOr (fNot (fB (fCB gIsi (fCons (fBin gIx (fVar 0) (fC (.int 0))) (fCons (fC (.ty "tuple")) (fNil)))))) (fB (fBin gNe (fCB gLen (fCons (fBin gIx (fVar 0) (fC (.int 0))) (fNil))) (fVar 1)))) (fRet (fC (.bl false))) (fNext)) (fRet (fAndV (fCB gIsi (fCons (fBin gIx (fVar 0) (fC (.int 1))) (fCons (fC (.ty "tuple")) (fNil)))) (fBin gEq (fCB gLen (fCons (fBin gIx (fVar 0) (fC (.int 1))) (fNil))) (fVar 2)))))
def F__law_run : List D → Ro := defF 3 3 f__law_run
/-- _law_counted(_law_road_here, _law_rounds, _law_starts_here, _law_run_here, _law_place, _law_weather) -/
def f__law_counted : FS := fSeq (fAsg 4 (fMtL gIndex (fVar 2) (fCons (fBin gIx (fVar 3) (fC (.int 0))) (fNil)))) (fSeq (fFor (fIt (fBin gIx (fVar 3) (fC (.int 1)))) (.nm 5) (fAsg 4 (fBin gAdd (fBin gMulA (fVar 4) (fCB gLen (fCons (fVar 0) (fNil)))) (fMtL gIndex (fVar 0) (fCons (fVar 5) (fNil)))))) (fRet (fVar 4)))
def F__law_counted : List D → Ro := defF 4 6 f__law_counted
/-- law(_law_script, _law_hands, _law_road_here, _law_rounds, _law_starts_here, _law_handed, _law_many, _law_k, _law_found, _law_number, _law_run_here, _law_weather) -/
def f_law : FS := fSeq (fAsgF 1 (fBin gAdd (fC (.int 2)) (fBin gMod (fCall F__law_mix (fCons (fCall F__law_at (fCons (fVar 0) (fCons (fC (.int 0)) (fNil)))) (fCons (fC (.int 3)) (fNil)))) (fC (.int 3))))) (fSeq (fAsgF 2 (fCall F__law_road (fCons (fVar 0) (fCons (fVar 1) (fCons (fC (.int 8)) (fNil)))))) (fSeq (fAsgF 3 (fBin gMod (fCall F__law_mix (fCons (fCall F__law_at (fCons (fVar 0) (fCons (fC (.int 0)) (fNil)))) (fCons (fC (.int 5)) (fNil)))) (fC (.int 6)))) (fSeq (fAsgF 4 (fCall F__law_starts (fCons (fVar 0) (fCons (fVar 1) (fNil))))) (fSeq (fAsgF 5 (fLst (fCons (fCB gList (fCons (fVar 2) (fNil))) (fCons (fCB gList (fCons (fVar 4) (fNil))) (fNil))))) (fSeq (fAsgF 6 (fCB gLen (fCons (fVar 4) (fNil)))) (fSeq (fFor (fRange (fVar 3)) (.nm 7) (fAsgF 6 (fBin gMulA (fVar 6) (fCB gLen (fCons (fVar 2) (fNil)))))) (fSeq (fAsgF 8 (fCall F_many_runs (fCons (fBin gIx (fVar 5) (fC (.int 0))) (fCons (fVar 3) (fCons (fBin gIx (fVar 5) (fC (.int 1))) (fNil)))))) (fSeq (fIf (fOr (fNot (fB (fCB gIsi (fCons (fVar 8) (fCons (fC (.ty "int")) (fNil)))))) (fOr (fB (fCB gIsi (fCons (fVar 8) (fCons (fC (.ty "bool")) (fNil))))) (fB (fBin gNe (fVar 8) (fVar 6))))) (fRet (fC (.bl false))) (fNext)) (fSeq (fFor (fRange (fC (.int 8))) (.nm 7) (fSeq (fAsgF 9 (fBin gIx (fLst (fCons (fC (.int 0)) (fCons (fBin gMinus (fVar 6) (fC (.int 1))) (fCons (fBin gMod (fCall F__law_mix (fCons (fCall F__law_at (fCons (fVar 0) (fCons (fVar 7) (fNil)))) (fCons (fC (.int 7)) (fNil)))) (fVar 6)) (fNil))))) (fCB gMin2 (fCons (fVar 7) (fCons (fC (.int 2)) (fNil)))))) (fSeq (fAsgF 10 (fCall F_run_at (fCons (fBin gIx (fVar 5) (fC (.int 0))) (fCons (fVar 3) (fCons (fBin gIx (fVar 5) (fC (.int 1))) (fCons (fVar 9) (fNil))))))) (fSeq (fIf (fOr (fNot (fB (fCall F__law_run (fCons (fVar 10) (fCons (fVar 1) (fCons (fVar 3) (fNil))))))) (fB (fBin gNotIn (fBin gIx (fVar 10) (fC (.int 0))) (fVar 4)))) (fRet (fC (.bl false))) (fNext)) (fSeq (fIf (fB (fBin gGt (fCB gLen (fCons (fComp (fIt (fBin gIx (fVar 10) (fC (.int 1)))) (.nm 11) (fB (fBin gNotIn (fVar 11) (fVar 2))) (fVar 11)) (fNil))) (fC (.int 0)))) (fRet (fC (.bl false))) (fNext)) (fSeq (fIf (fB (fBin gNe (fCall F__law_counted (fCons (fVar 2) (fCons (fVar 3) (fCons (fVar 4) (fCons (fVar 10) (fNil)))))) (fVar 9))) (fRet (fC (.bl false))) (fNext)) (fSeq (fAsgF 8 (fCall F_number_of (fCons (fBin gIx (fVar 5) (fC (.int 0))) (fCons (fVar 3) (fCons (fBin gIx (fVar 5) (fC (.int 1))) (fCons (fVar 10) (fNil))))))) (fIf (fOr (fNot (fB (fCB gIsi (fCons (fVar 8) (fCons (fC (.ty "int")) (fNil)))))) (fOr (fB (fCB gIsi (fCons (fVar 8) (fCons (fC (.ty "bool")) (fNil))))) (fB (fBin gNe (fVar 8) (fVar 9))))) (fRet (fC (.bl false))) (fNext))))))))) (fRet (fBin gEq (fVar 5) (fLst (fCons (fVar 2) (fCons (fVar 4) (fNil)))))))))))))))
def F_law : List D → Ro := defF 1 12 f_law
end Lw
end
section
namespace Lw
open PySem PySem.Spec PyProof.Rows L2 Ab
def topS (i : Nat) : Stmt := PySem.Challenge.pw_losspact_k22_runs_by_number.main.body.getD i (.Pass ⟨0, 0, 0, 0⟩)
abbrev s_many_rows : Stmt := topS 1
abbrev N_many_rows : List Str := ["road", "rounds", "many", "turn"]
theorem sc_many_rows : FnScope N_many_rows ["road", "rounds"] (defScope s_many_rows) := ⟨rfl, rfl, rfl, by decide +kernel, rfl, by decide +kernel, by decide +kernel⟩
abbrev s_many_runs : Stmt := topS 2
abbrev N_many_runs : List Str := ["road", "rounds", "starts"]
theorem sc_many_runs : FnScope N_many_runs ["road", "rounds", "starts"] (defScope s_many_runs) := ⟨rfl, rfl, rfl, by decide +kernel, rfl, by decide +kernel, by decide +kernel⟩
abbrev s_row_at : Stmt := topS 3
abbrev N_row_at : List Str := ["road", "rounds", "number", "row", "turn"]
theorem sc_row_at : FnScope N_row_at ["road", "rounds", "number"] (defScope s_row_at) := ⟨rfl, rfl, rfl, by decide +kernel, rfl, by decide +kernel, by decide +kernel⟩
abbrev s_run_at : Stmt := topS 4
abbrev N_run_at : List Str := ["road", "rounds", "starts", "number", "many"]
theorem sc_run_at : FnScope N_run_at ["road", "rounds", "starts", "number"] (defScope s_run_at) := ⟨rfl, rfl, rfl, by decide +kernel, rfl, by decide +kernel, by decide +kernel⟩
abbrev s_number_of : Stmt := topS 5
abbrev N_number_of : List Str := ["road", "rounds", "starts", "run", "number", "weather"]
theorem sc_number_of : FnScope N_number_of ["road", "rounds", "starts", "run"] (defScope s_number_of) := ⟨rfl, rfl, rfl, by decide +kernel, rfl, by decide +kernel, by decide +kernel⟩
abbrev s__law_at : Stmt := topS 7
abbrev N__law_at : List Str := ["_law_script", "_law_k"]
theorem sc__law_at : FnScope N__law_at ["_law_script", "_law_k"] (defScope s__law_at) := ⟨rfl, rfl, rfl, by decide +kernel, rfl, by decide +kernel, by decide +kernel⟩
abbrev s__law_mix : Stmt := topS 8
abbrev N__law_mix : List Str := ["_law_number", "_law_place", "_law_part"]
theorem sc__law_mix : FnScope N__law_mix ["_law_number", "_law_place"] (defScope s__law_mix) := ⟨rfl, rfl, rfl, by decide +kernel, rfl, by decide +kernel, by decide +kernel⟩
abbrev s__law_letters : Stmt := topS 9
abbrev N__law_letters : List Str := ["_law_hands", "_law_letters_here", "_law_start", "_law_goal"]
theorem sc__law_letters : FnScope N__law_letters ["_law_hands"] (defScope s__law_letters) := ⟨rfl, rfl, rfl, by decide +kernel, rfl, by decide +kernel, by decide +kernel⟩
abbrev s__law_road : Stmt := topS 10
abbrev N__law_road : List Str := ["_law_script", "_law_hands", "_law_most", "_law_letters_here", "_law_lost", "_law_cell", "_law_road_here", "_law_bag", "_law_number", "_law_at_here", "_law_weather", "_law_k"]
theorem sc__law_road : FnScope N__law_road ["_law_script", "_law_hands", "_law_most"] (defScope s__law_road) := ⟨rfl, rfl, rfl, by decide +kernel, rfl, by decide +kernel, by decide +kernel⟩
abbrev s__law_starts : Stmt := topS 11
abbrev N__law_starts : List Str := ["_law_script", "_law_hands", "_law_starts_here", "_law_k", "_law_number", "_law_first", "_law_start", "_law_j"]
theorem sc__law_starts : FnScope N__law_starts ["_law_script", "_law_hands"] (defScope s__law_starts) := ⟨rfl, rfl, rfl, by decide +kernel, rfl, by decide +kernel, by decide +kernel⟩
abbrev s__law_run : Stmt := topS 12
abbrev N__law_run : List Str := ["_law_found", "_law_hands", "_law_rounds"]
theorem sc__law_run : FnScope N__law_run ["_law_found", "_law_hands", "_law_rounds"] (defScope s__law_run) := ⟨rfl, rfl, rfl, by decide +kernel, rfl, by decide +kernel, by decide +kernel⟩
abbrev s__law_counted : Stmt := topS 13
abbrev N__law_counted : List Str := ["_law_road_here", "_law_rounds", "_law_starts_here", "_law_run_here", "_law_place", "_law_weather"]
theorem sc__law_counted : FnScope N__law_counted ["_law_road_here", "_law_rounds", "_law_starts_here", "_law_run_here"] (defScope s__law_counted) := ⟨rfl, rfl, rfl, by decide +kernel, rfl, by decide +kernel, by decide +kernel⟩
abbrev s_law : Stmt := topS 14
abbrev N_law : List Str := ["_law_script", "_law_hands", "_law_road_here", "_law_rounds", "_law_starts_here", "_law_handed", "_law_many", "_law_k", "_law_found", "_law_number", "_law_run_here", "_law_weather"]
theorem sc_law : FnScope N_law ["_law_script"] (defScope s_law) := ⟨rfl, rfl, rfl, by decide +kernel, rfl, by decide +kernel, by decide +kernel⟩
/-- what the top has left: the defs' places a, their data, the built-ins, the constants -/
structure Txt (K : PySem.W.Frag) (mg : Str → Option Value) (a : Nat → Addr) (fd : Nat → FuncData) : Prop where
  f_many_rows : Fun K "many_rows" "many_rows" s_many_rows (a 0) (fd 0)
  g_many_rows : mg "many_rows" = some (.ref (a 0))
  k_many_rows : PySem.W.keepIn K (.ref (a 0)) = true
  b_many_rows : L2.Binds K (fd 0) ["road", "rounds"] []
  f_many_runs : Fun K "many_runs" "many_runs" s_many_runs (a 1) (fd 1)
  g_many_runs : mg "many_runs" = some (.ref (a 1))
  k_many_runs : PySem.W.keepIn K (.ref (a 1)) = true
  b_many_runs : L2.Binds K (fd 1) ["road", "rounds", "starts"] []
  f_row_at : Fun K "row_at" "row_at" s_row_at (a 2) (fd 2)
  g_row_at : mg "row_at" = some (.ref (a 2))
  k_row_at : PySem.W.keepIn K (.ref (a 2)) = true
  b_row_at : L2.Binds K (fd 2) ["road", "rounds", "number"] []
  f_run_at : Fun K "run_at" "run_at" s_run_at (a 3) (fd 3)
  g_run_at : mg "run_at" = some (.ref (a 3))
  k_run_at : PySem.W.keepIn K (.ref (a 3)) = true
  b_run_at : L2.Binds K (fd 3) ["road", "rounds", "starts", "number"] []
  f_number_of : Fun K "number_of" "number_of" s_number_of (a 4) (fd 4)
  g_number_of : mg "number_of" = some (.ref (a 4))
  k_number_of : PySem.W.keepIn K (.ref (a 4)) = true
  b_number_of : L2.Binds K (fd 4) ["road", "rounds", "starts", "run"] []
  f__law_at : Fun K "_law_at" "_law_at" s__law_at (a 5) (fd 5)
  g__law_at : mg "_law_at" = some (.ref (a 5))
  k__law_at : PySem.W.keepIn K (.ref (a 5)) = true
  b__law_at : L2.Binds K (fd 5) ["_law_script", "_law_k"] []
  f__law_mix : Fun K "_law_mix" "_law_mix" s__law_mix (a 6) (fd 6)
  g__law_mix : mg "_law_mix" = some (.ref (a 6))
  k__law_mix : PySem.W.keepIn K (.ref (a 6)) = true
  b__law_mix : L2.Binds K (fd 6) ["_law_number", "_law_place"] []
  f__law_letters : Fun K "_law_letters" "_law_letters" s__law_letters (a 7) (fd 7)
  g__law_letters : mg "_law_letters" = some (.ref (a 7))
  k__law_letters : PySem.W.keepIn K (.ref (a 7)) = true
  b__law_letters : L2.Binds K (fd 7) ["_law_hands"] []
  f__law_road : Fun K "_law_road" "_law_road" s__law_road (a 8) (fd 8)
  g__law_road : mg "_law_road" = some (.ref (a 8))
  k__law_road : PySem.W.keepIn K (.ref (a 8)) = true
  b__law_road : L2.Binds K (fd 8) ["_law_script", "_law_hands", "_law_most"] []
  f__law_starts : Fun K "_law_starts" "_law_starts" s__law_starts (a 9) (fd 9)
  g__law_starts : mg "_law_starts" = some (.ref (a 9))
  k__law_starts : PySem.W.keepIn K (.ref (a 9)) = true
  b__law_starts : L2.Binds K (fd 9) ["_law_script", "_law_hands"] []
  f__law_run : Fun K "_law_run" "_law_run" s__law_run (a 10) (fd 10)
  g__law_run : mg "_law_run" = some (.ref (a 10))
  k__law_run : PySem.W.keepIn K (.ref (a 10)) = true
  b__law_run : L2.Binds K (fd 10) ["_law_found", "_law_hands", "_law_rounds"] []
  f__law_counted : Fun K "_law_counted" "_law_counted" s__law_counted (a 11) (fd 11)
  g__law_counted : mg "_law_counted" = some (.ref (a 11))
  k__law_counted : PySem.W.keepIn K (.ref (a 11)) = true
  b__law_counted : L2.Binds K (fd 11) ["_law_road_here", "_law_rounds", "_law_starts_here", "_law_run_here"] []
  f_law : Fun K "law" "law" s_law (a 12) (fd 12)
  g_law : mg "law" = some (.ref (a 12))
  k_law : PySem.W.keepIn K (.ref (a 12)) = true
  b_law : L2.Binds K (fd 12) ["_law_script"] []
  b_bool : mg "bool" = none
  b_int : mg "int" = none
  b_isinstance : mg "isinstance" = none
  b_len : mg "len" = none
  b_list : mg "list" = none
  b_min : mg "min" = none
  b_range : mg "range" = none
  b_tuple : mg "tuple" = none
section
variable {P : Program} {w : World} {K : PySem.W.Frag} {mg : Str → Option Value} {base : Heap} {cl : Str → Value} {a : Nat → Addr} {fd : Nat → FuncData}
theorem ok_many_rows (T : Txt K mg a fd) : FnOk P w K mg base (L2.CX P w) 1 (a 0) (fd 0) ["road", "rounds"] (spF K cl 2 F_many_rows) := by
  have sc := sc_many_rows
  refine ok_def (N := N_many_rows) (k := 0) (np := 2) (nn := 4) (fb := f_many_rows) rfl rfl T.f_many_rows sc fun cdv A outer s H E B hr tk hp => ?_
  exact (qs_cons (qs_set (i := 2) sc.nd rfl (by first | exact Or.inl rfl | exact Or.inr rfl) qe_int)
      (qs_cons (qs_for hp rfl rfl (qi_range (by rfl) T.b_range (qv 1)) (qg_name (i := 3) sc.nd rfl (by first | exact Or.inl rfl | exact Or.inr rfl)) (qs_one (qs_set (i := 2) sc.nd rfl (by first | exact Or.inl rfl | exact Or.inr rfl) (qe_bin op_mulA opd_mulA (qv 2) (qe_callB call_len cd_len (by rfl) T.b_len (by decide +kernel) (qa_cons (qv 0) qa_nil))))))
      (qs_one (qs_ret (qv 2)))))
theorem ok_many_runs (T : Txt K mg a fd) (G_many_rows : FnOk P w K mg base (L2.CX P w) 1 (a 0) (fd 0) ["road", "rounds"] (spF K cl 2 F_many_rows)) : FnOk P w K mg base (L2.CX P w) 2 (a 1) (fd 1) ["road", "rounds", "starts"] (spF K cl 3 F_many_runs) := by
  have sc := sc_many_runs
  refine ok_def (N := N_many_runs) (k := 1) (np := 3) (nn := 3) (fb := f_many_runs) rfl rfl T.f_many_runs sc fun cdv A outer s H E B hr tk hp => ?_
  exact (qs_one (qs_ret (qe_bin op_mulA opd_mulA (qe_callB call_len cd_len (by rfl) T.b_len (by decide +kernel) (qa_cons (qv 2) qa_nil)) (qe_call defF_len rfl tk G_many_rows (hr.mono (by decide)) (by rfl) T.g_many_rows T.k_many_rows T.b_many_rows (qa_cons (qv 0) (qa_cons (qv 1) qa_nil))))))
theorem ok_row_at (T : Txt K mg a fd) : FnOk P w K mg base (L2.CX P w) 1 (a 2) (fd 2) ["road", "rounds", "number"] (spF K cl 3 F_row_at) := by
  have sc := sc_row_at
  refine ok_def (N := N_row_at) (k := 0) (np := 3) (nn := 5) (fb := f_row_at) rfl rfl T.f_row_at sc fun cdv A outer s H E B hr tk hp => ?_
  exact (qs_cons (qs_set (i := 3) sc.nd rfl (by first | exact Or.inl rfl | exact Or.inr rfl) (qe_lst qa_nil))
      (qs_cons (qs_for hp rfl rfl (qi_range (by rfl) T.b_range (qv 1)) (qg_name (i := 4) sc.nd rfl (by first | exact Or.inl rfl | exact Or.inr rfl)) (qs_cons (qs_expr (qe_app rfl (pv 3) (qe_ix ix_seq opd_ix (qv 0) (qe_bin op_mod opd_mod (qv 2) (qe_callB call_len cd_len (by rfl) T.b_len (by decide +kernel) (qa_cons (qv 0) qa_nil))) (fun _ _ => rfl))))
      (qs_one (qs_setF (i := 2) sc.nd rfl (by first | exact Or.inl rfl | exact Or.inr rfl) (qe_bin op_fdivW opd_div (qv 2) (qe_callB call_len cd_len (by rfl) T.b_len (by decide +kernel) (qa_cons (qv 0) qa_nil)))))))
      (qs_one (qs_ret (qe_callTy call_tuple_of cd_tuple (by rfl) T.b_tuple (by decide +kernel) (qa_cons (qe_sliceS rfl (qv 3) qo_none qo_none (qo_some (qe_neg qe_int))) qa_nil))))))
theorem ok_run_at (T : Txt K mg a fd) (G_many_rows : FnOk P w K mg base (L2.CX P w) 1 (a 0) (fd 0) ["road", "rounds"] (spF K cl 2 F_many_rows)) (G_row_at : FnOk P w K mg base (L2.CX P w) 1 (a 2) (fd 2) ["road", "rounds", "number"] (spF K cl 3 F_row_at)) : FnOk P w K mg base (L2.CX P w) 2 (a 3) (fd 3) ["road", "rounds", "starts", "number"] (spF K cl 4 F_run_at) := by
  have sc := sc_run_at
  refine ok_def (N := N_run_at) (k := 1) (np := 4) (nn := 5) (fb := f_run_at) rfl rfl T.f_run_at sc fun cdv A outer s H E B hr tk hp => ?_
  exact (qs_cons (qs_setF (i := 4) sc.nd rfl (by first | exact Or.inl rfl | exact Or.inr rfl) (qe_call defF_len rfl tk G_many_rows (hr.mono (by decide)) (by rfl) T.g_many_rows T.k_many_rows T.b_many_rows (qa_cons (qv 0) (qa_cons (qv 1) qa_nil))))
      (qs_one (qs_ret (qe_tup (qa_cons (qe_ix ix_seq opd_ix (qv 2) (qe_bin op_fdivW opd_div (qv 3) (qv 4)) (fun _ _ => rfl)) (qa_cons (qe_call defF_len rfl tk G_row_at (hr.mono (by decide)) (by rfl) T.g_row_at T.k_row_at T.b_row_at (qa_cons (qv 0) (qa_cons (qv 1) (qa_cons (qe_bin op_mod opd_mod (qv 3) (qv 4)) qa_nil)))) qa_nil))))))
theorem ok_number_of (T : Txt K mg a fd) : FnOk P w K mg base (L2.CX P w) 1 (a 4) (fd 4) ["road", "rounds", "starts", "run"] (spF K cl 4 F_number_of) := by
  have sc := sc_number_of
  refine ok_def (N := N_number_of) (k := 0) (np := 4) (nn := 6) (fb := f_number_of) rfl rfl T.f_number_of sc fun cdv A outer s H E B hr tk hp => ?_
  exact (qs_cons (qs_set (i := 4) sc.nd rfl (by first | exact Or.inl rfl | exact Or.inr rfl) (qe_index (hu65 hr) rfl (qv 2) (qa_cons (qe_ix ix_seq opd_ix (qv 3) qe_int (fun _ _ => rfl)) qa_nil)))
      (qs_cons (qs_for hp rfl rfl (qi_it rfl (qe_ix ix_seq opd_ix (qv 3) qe_int (fun _ _ => rfl))) (qg_name (i := 5) sc.nd rfl (by first | exact Or.inl rfl | exact Or.inr rfl)) (qs_one (qs_set (i := 4) sc.nd rfl (by first | exact Or.inl rfl | exact Or.inr rfl) (qe_bin op_addA opd_add (qe_bin op_mulA opd_mulA (qv 4) (qe_callB call_len cd_len (by rfl) T.b_len (by decide +kernel) (qa_cons (qv 0) qa_nil))) (qe_index (hu65 hr) rfl (qv 0) (qa_cons (qv 5) qa_nil))))))
      (qs_one (qs_ret (qv 4)))))
theorem ok__law_at (T : Txt K mg a fd) : FnOk P w K mg base (L2.CX P w) 1 (a 5) (fd 5) ["_law_script", "_law_k"] (spF K cl 2 F__law_at) := by
  have sc := sc__law_at
  refine ok_def (N := N__law_at) (k := 0) (np := 2) (nn := 2) (fb := f__law_at) rfl rfl T.f__law_at sc fun cdv A outer s H E B hr tk hp => ?_
  exact (qs_cons (qs_if (qt_cmp op_lt opd_lt (qv 1) (qe_callB call_len cd_len (by rfl) T.b_len (by decide +kernel) (qa_cons (qv 0) qa_nil)) (nomark _)) (qs_one (qs_ret (qe_ix ix_seq opd_ix (qv 0) (qv 1) (fun _ _ => rfl)))) qs_nil)
      (qs_one (qs_ret (qe_bin op_addA opd_add (qe_bin op_mulA opd_mulA qe_int (qv 1)) qe_int))))
theorem ok__law_mix (T : Txt K mg a fd) : FnOk P w K mg base (L2.CX P w) 1 (a 6) (fd 6) ["_law_number", "_law_place"] (spF K cl 2 F__law_mix) := by
  have sc := sc__law_mix
  refine ok_def (N := N__law_mix) (k := 0) (np := 2) (nn := 3) (fb := f__law_mix) rfl rfl T.f__law_mix sc fun cdv A outer s H E B hr tk hp => ?_
  exact (qs_cons (qs_setF (i := 2) sc.nd rfl (by first | exact Or.inl rfl | exact Or.inr rfl) (qe_bin op_mod opd_mod (qe_bin op_mulA opd_mulA (qe_bin op_addA opd_add (qe_bin op_addA opd_add (qe_bin op_mod opd_mod (qv 0) qe_int) (qv 1)) qe_int) (qe_bin op_addA opd_add (qe_bin op_mulA opd_mulA (qe_bin op_mulA opd_mulA qe_int (qv 1)) (qv 1)) qe_int)) qe_int))
      (qs_one (qs_ret (qe_bin op_mod opd_mod (qe_bin op_mulA opd_mulA (qv 2) (qv 2)) qe_int))))
theorem ok__law_letters (T : Txt K mg a fd) : FnOk P w K mg base (L2.CX P w) 1 (a 7) (fd 7) ["_law_hands"] (spF K cl 1 F__law_letters) := by
  have sc := sc__law_letters
  refine ok_def (N := N__law_letters) (k := 0) (np := 1) (nn := 4) (fb := f__law_letters) rfl rfl T.f__law_letters sc fun cdv A outer s H E B hr tk hp => ?_
  exact (qs_cons (qs_set (i := 1) sc.nd rfl (by first | exact Or.inl rfl | exact Or.inr rfl) (qe_lst qa_nil))
      (qs_cons (qs_for hp rfl rfl (qi_range (by rfl) T.b_range (qv 0)) (qg_name (i := 2) sc.nd rfl (by first | exact Or.inl rfl | exact Or.inr rfl)) (qs_one (qs_expr (qe_ext rfl (pv 1) (qe_comp (own := [("_law_goal", 3)]) rfl sc.nd rfl rfl (qi_range (by rfl) T.b_range (qv 0)) (blkOk_by (own := [("_law_goal", 3)]) (N := N__law_letters) (sc := defScope s__law_letters) (by decide +kernel)) (fun _ _ _ _ _ => (qg_name (i := 3) sc.nd rfl (by first | exact Or.inl rfl | exact Or.inr rfl))) (fun _ _ _ _ _ => (qts_one (qt_cmp (op_neD (hu64 hr)) opd_ne (qv 3) (qv 2) (nomark _)))) (fun _ _ _ _ _ => (qe_tup (qa_cons (qv 2) (qa_cons (qv 3) qa_nil)))))))))
      (qs_one (qs_ret (qv 1)))))
theorem ok__law_road (T : Txt K mg a fd) (G__law_letters : FnOk P w K mg base (L2.CX P w) 1 (a 7) (fd 7) ["_law_hands"] (spF K cl 1 F__law_letters)) (G__law_mix : FnOk P w K mg base (L2.CX P w) 1 (a 6) (fd 6) ["_law_number", "_law_place"] (spF K cl 2 F__law_mix)) (G__law_at : FnOk P w K mg base (L2.CX P w) 1 (a 5) (fd 5) ["_law_script", "_law_k"] (spF K cl 2 F__law_at)) : FnOk P w K mg base (L2.CX P w) 2 (a 8) (fd 8) ["_law_script", "_law_hands", "_law_most"] (spF K cl 3 F__law_road) := by
  have sc := sc__law_road
  refine ok_def (N := N__law_road) (k := 1) (np := 3) (nn := 12) (fb := f__law_road) rfl rfl T.f__law_road sc fun cdv A outer s H E B hr tk hp => ?_
  exact (qs_cons (qs_setF (i := 3) sc.nd rfl (by first | exact Or.inl rfl | exact Or.inr rfl) (qe_call defF_len rfl tk G__law_letters (hr.mono (by decide)) (by rfl) T.g__law_letters T.k__law_letters T.b__law_letters (qa_cons (qv 1) qa_nil)))
      (qs_cons (qs_comp (i := 4) (own := [("_law_k", 11)]) rfl sc.nd rfl rfl rfl rfl (sw_true rfl rfl rfl (by decide +kernel)) (qi_range (by rfl) T.b_range (qe_bin op_addA opd_add qe_int (qe_bin op_mod opd_mod (qe_call defF_len rfl tk G__law_mix (hr.mono (by decide)) (by rfl) T.g__law_mix T.k__law_mix T.b__law_mix (qa_cons (qe_call defF_len rfl tk G__law_at (hr.mono (by decide)) (by rfl) T.g__law_at T.k__law_at T.b__law_at (qa_cons (qv 0) (qa_cons qe_int qa_nil))) (qa_cons qe_int qa_nil))) (qv 2)))) (blkOk_by (own := [("_law_k", 11)]) (N := N__law_road) (sc := defScope s__law_road) (by decide +kernel)) (fun _ _ _ _ _ => (qg_name (i := 11) sc.nd rfl (by first | exact Or.inl rfl | exact Or.inr rfl))) (fun _ _ _ _ _ => qts_nil) (fun _ _ _ _ _ => (qe_bin op_mulA opd_mulA (qe_lst (qa_cons qe_int qa_nil)) (qe_callB call_len cd_len (by rfl) T.b_len (by decide +kernel) (qa_cons (qv 3) qa_nil)))))
      (qs_cons (qs_for hp rfl rfl (qi_it rfl (qe_slice rfl (qv 0) (qo_some qe_int) (qo_some qe_int))) (qg_name (i := 5) sc.nd rfl (by first | exact Or.inl rfl | exact Or.inr rfl)) (qs_cons (qs_setF (i := 8) sc.nd rfl (by first | exact Or.inl rfl | exact Or.inr rfl) (qe_call defF_len rfl tk G__law_mix (hr.mono (by decide)) (by rfl) T.g__law_mix T.k__law_mix T.b__law_mix (qa_cons (qv 5) (qa_cons qe_int qa_nil))))
      (qs_bag rfl (by decide) (ps_set (i := 7) sc.nd rfl (by first | exact Or.inl rfl | exact Or.inr rfl) (pe_ix ix_list (pv 4) (qe_bin op_mod opd_mod (qv 8) (qe_callB call_len cd_len (by rfl) T.b_len (by decide +kernel) (qa_cons (qv 4) qa_nil))) (fun _ _ => rfl))) (ps_set (i := 9) sc.nd rfl (by first | exact Or.inl rfl | exact Or.inr rfl) (pe_op op_mod (pe_op op_fdivW (pv 8) pe_int) (pe_callB call_len (by rfl) T.b_len (by decide +kernel) (pa_cons (pv 3) pa_nil)))) (ps_asg (pe_op op_sub pe_int (pe_ix ix_list (pv 7) (pv 9) (fun _ _ => rfl))) (pg_sub (pv 7) (pv 9) set_list (by intro _; rfl))))))
      (qs_cons (qs_set (i := 6) sc.nd rfl (by first | exact Or.inl rfl | exact Or.inr rfl) (qe_lst qa_nil))
      (qs_cons (qs_for hp rfl rfl (qi_it rfl (qv 4)) (qg_name (i := 7) sc.nd rfl (by first | exact Or.inl rfl | exact Or.inr rfl)) (qs_cons (qs_setF (i := 10) sc.nd rfl (by first | exact Or.inl rfl | exact Or.inr rfl) (qe_callTy call_tuple_of cd_tuple (by rfl) T.b_tuple (by decide +kernel) (qa_cons (qe_comp (own := [("_law_k", 11)]) rfl sc.nd rfl rfl (qi_range (by rfl) T.b_range (qe_callB call_len cd_len (by rfl) T.b_len (by decide +kernel) (qa_cons (qv 3) qa_nil))) (blkOk_by (own := [("_law_k", 11)]) (N := N__law_road) (sc := defScope s__law_road) (by decide +kernel)) (fun _ _ _ _ _ => (qg_name (i := 11) sc.nd rfl (by first | exact Or.inl rfl | exact Or.inr rfl))) (fun _ _ _ _ _ => (qts_one (qt_cmp (op_eqD (hu64 hr)) opd_eq (qe_ix ix_seq opd_ix (qv 7) (qv 11) (fun _ _ => rfl)) qe_int (nomark _)))) (fun _ _ _ _ _ => (qe_ix ix_seq opd_ix (qv 3) (qv 11) (fun _ _ => rfl)))) qa_nil)))
      (qs_one (qs_if (qt_cmp (op_notInA (hu65 hr)) opd_notIn (qv 10) (qv 6) (by rfl)) (qs_one (qs_expr (qe_app rfl (pv 6) (qv 10)))) qs_nil))))
      (qs_one (qs_ret (qv 6))))))))
theorem ok__law_starts (T : Txt K mg a fd) (G__law_mix : FnOk P w K mg base (L2.CX P w) 1 (a 6) (fd 6) ["_law_number", "_law_place"] (spF K cl 2 F__law_mix)) (G__law_at : FnOk P w K mg base (L2.CX P w) 1 (a 5) (fd 5) ["_law_script", "_law_k"] (spF K cl 2 F__law_at)) : FnOk P w K mg base (L2.CX P w) 2 (a 9) (fd 9) ["_law_script", "_law_hands"] (spF K cl 2 F__law_starts) := by
  have sc := sc__law_starts
  refine ok_def (N := N__law_starts) (k := 1) (np := 2) (nn := 8) (fb := f__law_starts) rfl rfl T.f__law_starts sc fun cdv A outer s H E B hr tk hp => ?_
  exact (qs_cons (qs_set (i := 2) sc.nd rfl (by first | exact Or.inl rfl | exact Or.inr rfl) (qe_lst qa_nil))
      (qs_cons (qs_for hp rfl rfl (qi_range (by rfl) T.b_range (qe_bin op_addA opd_add qe_int (qe_bin op_mod opd_mod (qe_call defF_len rfl tk G__law_mix (hr.mono (by decide)) (by rfl) T.g__law_mix T.k__law_mix T.b__law_mix (qa_cons (qe_call defF_len rfl tk G__law_at (hr.mono (by decide)) (by rfl) T.g__law_at T.k__law_at T.b__law_at (qa_cons (qv 0) (qa_cons qe_int qa_nil))) (qa_cons qe_int qa_nil))) qe_int))) (qg_name (i := 3) sc.nd rfl (by first | exact Or.inl rfl | exact Or.inr rfl)) (qs_cons (qs_setF (i := 4) sc.nd rfl (by first | exact Or.inl rfl | exact Or.inr rfl) (qe_call defF_len rfl tk G__law_mix (hr.mono (by decide)) (by rfl) T.g__law_mix T.k__law_mix T.b__law_mix (qa_cons (qe_call defF_len rfl tk G__law_at (hr.mono (by decide)) (by rfl) T.g__law_at T.k__law_at T.b__law_at (qa_cons (qv 0) (qa_cons (qe_bin op_addA opd_add qe_int (qe_bin op_mod opd_mod (qv 3) qe_int)) qa_nil))) (qa_cons (qe_bin op_addA opd_add qe_int (qv 3)) qa_nil))))
      (qs_cons (qs_setF (i := 5) sc.nd rfl (by first | exact Or.inl rfl | exact Or.inr rfl) (qe_bin op_addA opd_add (qe_bin op_sub opd_sub (qe_bin op_mod opd_mod (qe_call defF_len rfl tk G__law_at (hr.mono (by decide)) (by rfl) T.g__law_at T.k__law_at T.b__law_at (qa_cons (qv 0) (qa_cons (qe_bin op_addA opd_add qe_int (qe_bin op_mod opd_mod (qv 3) qe_int)) qa_nil))) (qe_bin op_sub opd_sub (qe_bin op_mulA opd_mulA qe_int (qe_bin op_pow opd_pow qe_int qe_int)) qe_int)) (qe_bin op_pow opd_pow qe_int qe_int)) qe_int))
      (qs_cons (qs_setF (i := 6) sc.nd rfl (by first | exact Or.inl rfl | exact Or.inr rfl) (qe_bin op_addA opd_add (qe_tup (qa_cons (qv 5) qa_nil)) (qe_callTy call_tuple_of cd_tuple (by rfl) T.b_tuple (by decide +kernel) (qa_cons (qe_comp (own := [("_law_j", 7)]) rfl sc.nd rfl rfl (qi_range (by rfl) T.b_range (qe_bin op_sub opd_sub (qv 1) qe_int)) (blkOk_by (own := [("_law_j", 7)]) (N := N__law_starts) (sc := defScope s__law_starts) (by decide +kernel)) (fun _ _ _ _ _ => (qg_name (i := 7) sc.nd rfl (by first | exact Or.inl rfl | exact Or.inr rfl))) (fun _ _ _ _ _ => qts_nil) (fun _ _ _ _ _ => (qe_bin op_sub opd_sub (qe_bin op_mod opd_mod (qe_bin op_fdivW opd_div (qv 4) (qe_ix ix_seq opd_ix (qe_lst (qa_cons qe_int (qa_cons qe_int (qa_cons qe_int qa_nil)))) (qv 7) (fun _ _ => rfl))) qe_int) qe_int))) qa_nil))))
      (qs_cons (qs_if (qt_cmp (op_eqD (hu64 hr)) opd_eq (qe_bin op_mod opd_mod (qv 4) qe_int) qe_int (nomark _)) (qs_one (qs_setF (i := 6) sc.nd rfl (by first | exact Or.inl rfl | exact Or.inr rfl) (qe_bin op_addA opd_add (qe_slice rfl (qv 6) (qo_some qe_int) qo_none) (qe_slice rfl (qv 6) qo_none (qo_some qe_int))))) qs_nil)
      (qs_one (qs_if (qt_cmp (op_notInA (hu65 hr)) opd_notIn (qv 6) (qv 2) (by rfl)) (qs_one (qs_expr (qe_app rfl (pv 2) (qv 6)))) qs_nil)))))))
      (qs_one (qs_ret (qv 2)))))
theorem ok__law_run (T : Txt K mg a fd) : FnOk P w K mg base (L2.CX P w) 1 (a 10) (fd 10) ["_law_found", "_law_hands", "_law_rounds"] (spF K cl 3 F__law_run) := by
  have sc := sc__law_run
  refine ok_def (N := N__law_run) (k := 0) (np := 3) (nn := 3) (fb := f__law_run) rfl rfl T.f__law_run sc fun cdv A outer s H E B hr tk hp => ?_
  exact (qs_cons (qs_if ((qw_or (qt_not (qt_val (qe_callB call_isi cd_isi (by rfl) T.b_isinstance (by decide +kernel) (qa_cons (qv 0) (qa_cons (qe_ty (pe_bltn (v := .ty "tuple") (by rfl) T.b_tuple (by decide +kernel) rfl)) qa_nil))))) (qw_or1 (qt_cmp (op_neD (hu64 hr)) opd_ne (qe_callB call_len cd_len (by rfl) T.b_len (by decide +kernel) (qa_cons (qv 0) qa_nil)) qe_int (nomark _))))).pt (qs_one (qs_ret qe_bl)) qs_nil)
      (qs_cons (qs_if ((qw_or (qt_not (qt_val (qe_callB call_isi cd_isi (by rfl) T.b_isinstance (by decide +kernel) (qa_cons (qe_ix ix_seq opd_ix (qv 0) qe_int (fun _ _ => rfl)) (qa_cons (qe_ty (pe_bltn (v := .ty "tuple") (by rfl) T.b_tuple (by decide +kernel) rfl)) qa_nil))))) (qw_or1 (qt_cmp (op_neD (hu64 hr)) opd_ne (qe_callB call_len cd_len (by rfl) T.b_len (by decide +kernel) (qa_cons (qe_ix ix_seq opd_ix (qv 0) qe_int (fun _ _ => rfl)) qa_nil)) (qv 1) (nomark _))))).pt (qs_one (qs_ret qe_bl)) qs_nil)
      (qs_one (qs_ret (qe_and (qe_callB call_isi cd_isi (by rfl) T.b_isinstance (by decide +kernel) (qa_cons (qe_ix ix_seq opd_ix (qv 0) qe_int (fun _ _ => rfl)) (qa_cons (qe_ty (pe_bltn (v := .ty "tuple") (by rfl) T.b_tuple (by decide +kernel) rfl)) qa_nil))) (qe_one (qe_cmp (op_eqD (hu64 hr)) opd_eq (qe_callB call_len cd_len (by rfl) T.b_len (by decide +kernel) (qa_cons (qe_ix ix_seq opd_ix (qv 0) qe_int (fun _ _ => rfl)) qa_nil)) (qv 2) (nomark _))))))))
theorem ok__law_counted (T : Txt K mg a fd) : FnOk P w K mg base (L2.CX P w) 1 (a 11) (fd 11) ["_law_road_here", "_law_rounds", "_law_starts_here", "_law_run_here"] (spF K cl 4 F__law_counted) := by
  have sc := sc__law_counted
  refine ok_def (N := N__law_counted) (k := 0) (np := 4) (nn := 6) (fb := f__law_counted) rfl rfl T.f__law_counted sc fun cdv A outer s H E B hr tk hp => ?_
  exact (qs_cons (qs_set (i := 4) sc.nd rfl (by first | exact Or.inl rfl | exact Or.inr rfl) (qe_index (hu65 hr) rfl (qv 2) (qa_cons (qe_ix ix_seq opd_ix (qv 3) qe_int (fun _ _ => rfl)) qa_nil)))
      (qs_cons (qs_for hp rfl rfl (qi_it rfl (qe_ix ix_seq opd_ix (qv 3) qe_int (fun _ _ => rfl))) (qg_name (i := 5) sc.nd rfl (by first | exact Or.inl rfl | exact Or.inr rfl)) (qs_one (qs_set (i := 4) sc.nd rfl (by first | exact Or.inl rfl | exact Or.inr rfl) (qe_bin op_addA opd_add (qe_bin op_mulA opd_mulA (qv 4) (qe_callB call_len cd_len (by rfl) T.b_len (by decide +kernel) (qa_cons (qv 0) qa_nil))) (qe_index (hu65 hr) rfl (qv 0) (qa_cons (qv 5) qa_nil))))))
      (qs_one (qs_ret (qv 4)))))
theorem ok_law (T : Txt K mg a fd) (G__law_mix : FnOk P w K mg base (L2.CX P w) 1 (a 6) (fd 6) ["_law_number", "_law_place"] (spF K cl 2 F__law_mix)) (G__law_at : FnOk P w K mg base (L2.CX P w) 1 (a 5) (fd 5) ["_law_script", "_law_k"] (spF K cl 2 F__law_at)) (G__law_road : FnOk P w K mg base (L2.CX P w) 2 (a 8) (fd 8) ["_law_script", "_law_hands", "_law_most"] (spF K cl 3 F__law_road)) (G__law_starts : FnOk P w K mg base (L2.CX P w) 2 (a 9) (fd 9) ["_law_script", "_law_hands"] (spF K cl 2 F__law_starts)) (G_many_runs : FnOk P w K mg base (L2.CX P w) 2 (a 1) (fd 1) ["road", "rounds", "starts"] (spF K cl 3 F_many_runs)) (G_run_at : FnOk P w K mg base (L2.CX P w) 2 (a 3) (fd 3) ["road", "rounds", "starts", "number"] (spF K cl 4 F_run_at)) (G__law_run : FnOk P w K mg base (L2.CX P w) 1 (a 10) (fd 10) ["_law_found", "_law_hands", "_law_rounds"] (spF K cl 3 F__law_run)) (G__law_counted : FnOk P w K mg base (L2.CX P w) 1 (a 11) (fd 11) ["_law_road_here", "_law_rounds", "_law_starts_here", "_law_run_here"] (spF K cl 4 F__law_counted)) (G_number_of : FnOk P w K mg base (L2.CX P w) 1 (a 4) (fd 4) ["road", "rounds", "starts", "run"] (spF K cl 4 F_number_of)) : FnOk P w K mg base (L2.CX P w) 3 (a 12) (fd 12) ["_law_script"] (spF K cl 1 F_law) := by
  have sc := sc_law
  refine ok_def (N := N_law) (k := 2) (np := 1) (nn := 12) (fb := f_law) rfl rfl T.f_law sc fun cdv A outer s H E B hr tk hp => ?_
  exact (qs_cons (qs_setF (i := 1) sc.nd rfl (by first | exact Or.inl rfl | exact Or.inr rfl) (qe_bin op_addA opd_add qe_int (qe_bin op_mod opd_mod (qe_call defF_len rfl tk G__law_mix (hr.mono (by decide)) (by rfl) T.g__law_mix T.k__law_mix T.b__law_mix (qa_cons (qe_call defF_len rfl tk G__law_at (hr.mono (by decide)) (by rfl) T.g__law_at T.k__law_at T.b__law_at (qa_cons (qv 0) (qa_cons qe_int qa_nil))) (qa_cons qe_int qa_nil))) qe_int)))
      (qs_cons (qs_setF (i := 2) sc.nd rfl (by first | exact Or.inl rfl | exact Or.inr rfl) (qe_call defF_len rfl tk G__law_road (hr.mono (by decide)) (by rfl) T.g__law_road T.k__law_road T.b__law_road (qa_cons (qv 0) (qa_cons (qv 1) (qa_cons qe_int qa_nil)))))
      (qs_cons (qs_setF (i := 3) sc.nd rfl (by first | exact Or.inl rfl | exact Or.inr rfl) (qe_bin op_mod opd_mod (qe_call defF_len rfl tk G__law_mix (hr.mono (by decide)) (by rfl) T.g__law_mix T.k__law_mix T.b__law_mix (qa_cons (qe_call defF_len rfl tk G__law_at (hr.mono (by decide)) (by rfl) T.g__law_at T.k__law_at T.b__law_at (qa_cons (qv 0) (qa_cons qe_int qa_nil))) (qa_cons qe_int qa_nil))) qe_int))
      (qs_cons (qs_setF (i := 4) sc.nd rfl (by first | exact Or.inl rfl | exact Or.inr rfl) (qe_call defF_len rfl tk G__law_starts (hr.mono (by decide)) (by rfl) T.g__law_starts T.k__law_starts T.b__law_starts (qa_cons (qv 0) (qa_cons (qv 1) qa_nil))))
      (qs_cons (qs_setF (i := 5) sc.nd rfl (by first | exact Or.inl rfl | exact Or.inr rfl) (qe_lst (qa_cons (qe_callTy call_list_of cd_list (by rfl) T.b_list (by decide +kernel) (qa_cons (qv 2) qa_nil)) (qa_cons (qe_callTy call_list_of cd_list (by rfl) T.b_list (by decide +kernel) (qa_cons (qv 4) qa_nil)) qa_nil))))
      (qs_cons (qs_setF (i := 6) sc.nd rfl (by first | exact Or.inl rfl | exact Or.inr rfl) (qe_callB call_len cd_len (by rfl) T.b_len (by decide +kernel) (qa_cons (qv 4) qa_nil)))
      (qs_cons (qs_for hp rfl rfl (qi_range (by rfl) T.b_range (qv 3)) (qg_name (i := 7) sc.nd rfl (by first | exact Or.inl rfl | exact Or.inr rfl)) (qs_one (qs_setF (i := 6) sc.nd rfl (by first | exact Or.inl rfl | exact Or.inr rfl) (qe_bin op_mulA opd_mulA (qv 6) (qe_callB call_len cd_len (by rfl) T.b_len (by decide +kernel) (qa_cons (qv 2) qa_nil))))))
      (qs_cons (qs_setF (i := 8) sc.nd rfl (by first | exact Or.inl rfl | exact Or.inr rfl) (qe_call defF_len rfl tk G_many_runs (hr.mono (by decide)) (by rfl) T.g_many_runs T.k_many_runs T.b_many_runs (qa_cons (qe_ix ix_seq opd_ix (qv 5) qe_int (fun _ _ => rfl)) (qa_cons (qv 3) (qa_cons (qe_ix ix_seq opd_ix (qv 5) qe_int (fun _ _ => rfl)) qa_nil)))))
      (qs_cons (qs_if ((qw_or (qt_not (qt_val (qe_callB call_isi cd_isi (by rfl) T.b_isinstance (by decide +kernel) (qa_cons (qv 8) (qa_cons (qe_ty (pe_bltn (v := .ty "int") (by rfl) T.b_int (by decide +kernel) rfl)) qa_nil))))) (qw_or (qt_val (qe_callB call_isi cd_isi (by rfl) T.b_isinstance (by decide +kernel) (qa_cons (qv 8) (qa_cons (qe_ty (pe_bltn (v := .ty "bool") (by rfl) T.b_bool (by decide +kernel) rfl)) qa_nil)))) (qw_or1 (qt_cmp (op_neD (hu64 hr)) opd_ne (qv 8) (qv 6) (nomark _)))))).pt (qs_one (qs_ret qe_bl)) qs_nil)
      (qs_cons (qs_for hp rfl rfl (qi_range (by rfl) T.b_range qe_int) (qg_name (i := 7) sc.nd rfl (by first | exact Or.inl rfl | exact Or.inr rfl)) (qs_cons (qs_setF (i := 9) sc.nd rfl (by first | exact Or.inl rfl | exact Or.inr rfl) (qe_ix ix_seq opd_ix (qe_lst (qa_cons qe_int (qa_cons (qe_bin op_sub opd_sub (qv 6) qe_int) (qa_cons (qe_bin op_mod opd_mod (qe_call defF_len rfl tk G__law_mix (hr.mono (by decide)) (by rfl) T.g__law_mix T.k__law_mix T.b__law_mix (qa_cons (qe_call defF_len rfl tk G__law_at (hr.mono (by decide)) (by rfl) T.g__law_at T.k__law_at T.b__law_at (qa_cons (qv 0) (qa_cons (qv 7) qa_nil))) (qa_cons qe_int qa_nil))) (qv 6)) qa_nil)))) (qe_callB (call_min2 rfl) cd_min2 (by rfl) T.b_min (by decide +kernel) (qa_cons (qv 7) (qa_cons qe_int qa_nil))) (fun _ _ => rfl)))
      (qs_cons (qs_setF (i := 10) sc.nd rfl (by first | exact Or.inl rfl | exact Or.inr rfl) (qe_call defF_len rfl tk G_run_at (hr.mono (by decide)) (by rfl) T.g_run_at T.k_run_at T.b_run_at (qa_cons (qe_ix ix_seq opd_ix (qv 5) qe_int (fun _ _ => rfl)) (qa_cons (qv 3) (qa_cons (qe_ix ix_seq opd_ix (qv 5) qe_int (fun _ _ => rfl)) (qa_cons (qv 9) qa_nil))))))
      (qs_cons (qs_if ((qw_or (qt_not (qt_val (qe_call defF_len rfl tk G__law_run (hr.mono (by decide)) (by rfl) T.g__law_run T.k__law_run T.b__law_run (qa_cons (qv 10) (qa_cons (qv 1) (qa_cons (qv 3) qa_nil)))))) (qw_or1 (qt_cmp (op_notInA (hu65 hr)) opd_notIn (qe_ix ix_seq opd_ix (qv 10) qe_int (fun _ _ => rfl)) (qv 4) (by rfl))))).pt (qs_one (qs_ret qe_bl)) qs_nil)
      (qs_cons (qs_if (qt_cmp op_gt opd_gt (qe_callB call_len cd_len (by rfl) T.b_len (by decide +kernel) (qa_cons (qe_comp (own := [("_law_weather", 11)]) rfl sc.nd rfl rfl (qi_it rfl (qe_ix ix_seq opd_ix (qv 10) qe_int (fun _ _ => rfl))) (blkOk_by (own := [("_law_weather", 11)]) (N := N_law) (sc := defScope s_law) (by decide +kernel)) (fun _ _ _ _ _ => (qg_name (i := 11) sc.nd rfl (by first | exact Or.inl rfl | exact Or.inr rfl))) (fun _ _ _ _ _ => (qts_one (qt_cmp (op_notInA (hu65 hr)) opd_notIn (qv 11) (qv 2) (by rfl)))) (fun _ _ _ _ _ => (qv 11))) qa_nil)) qe_int (nomark _)) (qs_one (qs_ret qe_bl)) qs_nil)
      (qs_cons (qs_if (qt_cmp (op_neD (hu64 hr)) opd_ne (qe_call defF_len rfl tk G__law_counted (hr.mono (by decide)) (by rfl) T.g__law_counted T.k__law_counted T.b__law_counted (qa_cons (qv 2) (qa_cons (qv 3) (qa_cons (qv 4) (qa_cons (qv 10) qa_nil))))) (qv 9) (nomark _)) (qs_one (qs_ret qe_bl)) qs_nil)
      (qs_cons (qs_setF (i := 8) sc.nd rfl (by first | exact Or.inl rfl | exact Or.inr rfl) (qe_call defF_len rfl tk G_number_of (hr.mono (by decide)) (by rfl) T.g_number_of T.k_number_of T.b_number_of (qa_cons (qe_ix ix_seq opd_ix (qv 5) qe_int (fun _ _ => rfl)) (qa_cons (qv 3) (qa_cons (qe_ix ix_seq opd_ix (qv 5) qe_int (fun _ _ => rfl)) (qa_cons (qv 10) qa_nil))))))
      (qs_one (qs_if ((qw_or (qt_not (qt_val (qe_callB call_isi cd_isi (by rfl) T.b_isinstance (by decide +kernel) (qa_cons (qv 8) (qa_cons (qe_ty (pe_bltn (v := .ty "int") (by rfl) T.b_int (by decide +kernel) rfl)) qa_nil))))) (qw_or (qt_val (qe_callB call_isi cd_isi (by rfl) T.b_isinstance (by decide +kernel) (qa_cons (qv 8) (qa_cons (qe_ty (pe_bltn (v := .ty "bool") (by rfl) T.b_bool (by decide +kernel) rfl)) qa_nil)))) (qw_or1 (qt_cmp (op_neD (hu64 hr)) opd_ne (qv 8) (qv 9) (nomark _)))))).pt (qs_one (qs_ret qe_bl)) qs_nil)))))))))
      (qs_one (qs_ret (qe_cmp (op_eqD (hu64 hr)) opd_eq (qv 5) (qe_lst (qa_cons (qv 2) (qa_cons (qv 4) qa_nil))) (nomark _))))))))))))))
end
/-! ### the end -/
theorem all_mk {l : PySem.W.OpenLaw} {w : World} {K : PySem.W.Frag} {h : Heap} {mg : Str → Option Value} {fa : Addr} {cl : Str → Value} (X : K.In h) (G : h.Ns mainGlobals mg) (hfa : mg "law" = some (.ref fa))
    {p0 p1 p2 p3 p4 p5 p6 p7 p8 p9 p10 p11 p12 : Addr} {od0 an0 od1 an1 od2 an2 od3 an3 od4 an4 od5 an5 od6 an6 od7 an7 od8 an8 od9 an9 od10 an10 od11 an11 od12 an12 : Option Addr} {sl0 sl1 sl2 sl3 sl4 sl5 sl6 sl7 sl8 sl9 sl10 sl11 sl12 : Array (Option Value)} {oc0 kV0 dc0 pm0 cd0 ct0 oc1 kV1 dc1 pm1 cd1 ct1 oc2 kV2 dc2 pm2 cd2 ct2 oc3 kV3 dc3 pm3 cd3 ct3 oc4 kV4 dc4 pm4 cd4 ct4 oc5 kV5 dc5 pm5 cd5 ct5 oc6 kV6 dc6 pm6 cd6 ct6 oc7 kV7 dc7 pm7 cd7 ct7 oc8 kV8 dc8 pm8 cd8 ct8 oc9 kV9 dc9 pm9 cd9 ct9 oc10 kV10 dc10 pm10 cd10 ct10 oc11 kV11 dc11 pm11 cd11 ct11 oc12 kV12 dc12 pm12 cd12 ct12 : Value}
    (a0 : PySem.W.nsIn K mainGlobals "many_rows" = some (some (.ref p0))) (l0 : K.lookup p0 = some ⟨oc0, od0, .func (PySem.W.fnOf "many_rows" "many_rows" (defArgs s_many_rows) (defBody s_many_rows) (defScope s_many_rows) .none kV0 dc0 pm0 an0 cd0 ct0), sl0⟩) (c0 : PySem.W.codeIn K cd0 "many_rows" = true) (k0 : PySem.W.keepIn K (.ref p0) = true)
    (a1 : PySem.W.nsIn K mainGlobals "many_runs" = some (some (.ref p1))) (l1 : K.lookup p1 = some ⟨oc1, od1, .func (PySem.W.fnOf "many_runs" "many_runs" (defArgs s_many_runs) (defBody s_many_runs) (defScope s_many_runs) .none kV1 dc1 pm1 an1 cd1 ct1), sl1⟩) (c1 : PySem.W.codeIn K cd1 "many_runs" = true) (k1 : PySem.W.keepIn K (.ref p1) = true)
    (a2 : PySem.W.nsIn K mainGlobals "row_at" = some (some (.ref p2))) (l2 : K.lookup p2 = some ⟨oc2, od2, .func (PySem.W.fnOf "row_at" "row_at" (defArgs s_row_at) (defBody s_row_at) (defScope s_row_at) .none kV2 dc2 pm2 an2 cd2 ct2), sl2⟩) (c2 : PySem.W.codeIn K cd2 "row_at" = true) (k2 : PySem.W.keepIn K (.ref p2) = true)
    (a3 : PySem.W.nsIn K mainGlobals "run_at" = some (some (.ref p3))) (l3 : K.lookup p3 = some ⟨oc3, od3, .func (PySem.W.fnOf "run_at" "run_at" (defArgs s_run_at) (defBody s_run_at) (defScope s_run_at) .none kV3 dc3 pm3 an3 cd3 ct3), sl3⟩) (c3 : PySem.W.codeIn K cd3 "run_at" = true) (k3 : PySem.W.keepIn K (.ref p3) = true)
    (a4 : PySem.W.nsIn K mainGlobals "number_of" = some (some (.ref p4))) (l4 : K.lookup p4 = some ⟨oc4, od4, .func (PySem.W.fnOf "number_of" "number_of" (defArgs s_number_of) (defBody s_number_of) (defScope s_number_of) .none kV4 dc4 pm4 an4 cd4 ct4), sl4⟩) (c4 : PySem.W.codeIn K cd4 "number_of" = true) (k4 : PySem.W.keepIn K (.ref p4) = true)
    (a5 : PySem.W.nsIn K mainGlobals "_law_at" = some (some (.ref p5))) (l5 : K.lookup p5 = some ⟨oc5, od5, .func (PySem.W.fnOf "_law_at" "_law_at" (defArgs s__law_at) (defBody s__law_at) (defScope s__law_at) .none kV5 dc5 pm5 an5 cd5 ct5), sl5⟩) (c5 : PySem.W.codeIn K cd5 "_law_at" = true) (k5 : PySem.W.keepIn K (.ref p5) = true)
    (a6 : PySem.W.nsIn K mainGlobals "_law_mix" = some (some (.ref p6))) (l6 : K.lookup p6 = some ⟨oc6, od6, .func (PySem.W.fnOf "_law_mix" "_law_mix" (defArgs s__law_mix) (defBody s__law_mix) (defScope s__law_mix) .none kV6 dc6 pm6 an6 cd6 ct6), sl6⟩) (c6 : PySem.W.codeIn K cd6 "_law_mix" = true) (k6 : PySem.W.keepIn K (.ref p6) = true)
    (a7 : PySem.W.nsIn K mainGlobals "_law_letters" = some (some (.ref p7))) (l7 : K.lookup p7 = some ⟨oc7, od7, .func (PySem.W.fnOf "_law_letters" "_law_letters" (defArgs s__law_letters) (defBody s__law_letters) (defScope s__law_letters) .none kV7 dc7 pm7 an7 cd7 ct7), sl7⟩) (c7 : PySem.W.codeIn K cd7 "_law_letters" = true) (k7 : PySem.W.keepIn K (.ref p7) = true)
    (a8 : PySem.W.nsIn K mainGlobals "_law_road" = some (some (.ref p8))) (l8 : K.lookup p8 = some ⟨oc8, od8, .func (PySem.W.fnOf "_law_road" "_law_road" (defArgs s__law_road) (defBody s__law_road) (defScope s__law_road) .none kV8 dc8 pm8 an8 cd8 ct8), sl8⟩) (c8 : PySem.W.codeIn K cd8 "_law_road" = true) (k8 : PySem.W.keepIn K (.ref p8) = true)
    (a9 : PySem.W.nsIn K mainGlobals "_law_starts" = some (some (.ref p9))) (l9 : K.lookup p9 = some ⟨oc9, od9, .func (PySem.W.fnOf "_law_starts" "_law_starts" (defArgs s__law_starts) (defBody s__law_starts) (defScope s__law_starts) .none kV9 dc9 pm9 an9 cd9 ct9), sl9⟩) (c9 : PySem.W.codeIn K cd9 "_law_starts" = true) (k9 : PySem.W.keepIn K (.ref p9) = true)
    (a10 : PySem.W.nsIn K mainGlobals "_law_run" = some (some (.ref p10))) (l10 : K.lookup p10 = some ⟨oc10, od10, .func (PySem.W.fnOf "_law_run" "_law_run" (defArgs s__law_run) (defBody s__law_run) (defScope s__law_run) .none kV10 dc10 pm10 an10 cd10 ct10), sl10⟩) (c10 : PySem.W.codeIn K cd10 "_law_run" = true) (k10 : PySem.W.keepIn K (.ref p10) = true)
    (a11 : PySem.W.nsIn K mainGlobals "_law_counted" = some (some (.ref p11))) (l11 : K.lookup p11 = some ⟨oc11, od11, .func (PySem.W.fnOf "_law_counted" "_law_counted" (defArgs s__law_counted) (defBody s__law_counted) (defScope s__law_counted) .none kV11 dc11 pm11 an11 cd11 ct11), sl11⟩) (c11 : PySem.W.codeIn K cd11 "_law_counted" = true) (k11 : PySem.W.keepIn K (.ref p11) = true)
    (a12 : PySem.W.nsIn K mainGlobals "law" = some (some (.ref p12))) (l12 : K.lookup p12 = some ⟨oc12, od12, .func (PySem.W.fnOf "law" "law" (defArgs s_law) (defBody s_law) (defScope s_law) .none kV12 dc12 pm12 an12 cd12 ct12), sl12⟩) (c12 : PySem.W.codeIn K cd12 "law" = true) (k12 : PySem.W.keepIn K (.ref p12) = true)
    (z_bool : PySem.W.nsIn K mainGlobals "bool" = some none)
    (z_int : PySem.W.nsIn K mainGlobals "int" = some none)
    (z_isinstance : PySem.W.nsIn K mainGlobals "isinstance" = some none)
    (z_len : PySem.W.nsIn K mainGlobals "len" = some none)
    (z_list : PySem.W.nsIn K mainGlobals "list" = some none)
    (z_min : PySem.W.nsIn K mainGlobals "min" = some none)
    (z_range : PySem.W.nsIn K mainGlobals "range" = some none)
    (z_tuple : PySem.W.nsIn K mainGlobals "tuple" = some none) :
    ∃ fd : FuncData, (∀ (s : Shared) (v : Value), BindsTo s fd ⟨[v], []⟩ [("_law_script", v)]) ∧ ∀ base : Heap, K.In base → base.Ns mainGlobals mg → FnOk l.prog w K mg base (L2.CX l.prog w) 3 fa fd ["_law_script"] (spF K cl 1 F_law) := by
  have e := hfa.symm.trans (PySem.W.mg_of X G a12)
  have e2 : p12 = fa := by injection e with e3; injection e3 with e4; exact e4.symm
  subst e2
  have F0 := fun_mk (st := s_many_rows) l0 c0 k0
  have F1 := fun_mk (st := s_many_runs) l1 c1 k1
  have F2 := fun_mk (st := s_row_at) l2 c2 k2
  have F3 := fun_mk (st := s_run_at) l3 c3 k3
  have F4 := fun_mk (st := s_number_of) l4 c4 k4
  have F5 := fun_mk (st := s__law_at) l5 c5 k5
  have F6 := fun_mk (st := s__law_mix) l6 c6 k6
  have F7 := fun_mk (st := s__law_letters) l7 c7 k7
  have F8 := fun_mk (st := s__law_road) l8 c8 k8
  have F9 := fun_mk (st := s__law_starts) l9 c9 k9
  have F10 := fun_mk (st := s__law_run) l10 c10 k10
  have F11 := fun_mk (st := s__law_counted) l11 c11 k11
  have F12 := fun_mk (st := s_law) l12 c12 k12
  have T : Txt K mg (fun i => [p0, p1, p2, p3, p4, p5, p6, p7, p8, p9, p10, p11, p12].getD i 0) (fun i => [PySem.W.fnOf "many_rows" "many_rows" (defArgs s_many_rows) (defBody s_many_rows) (defScope s_many_rows) .none kV0 dc0 pm0 an0 cd0 ct0, PySem.W.fnOf "many_runs" "many_runs" (defArgs s_many_runs) (defBody s_many_runs) (defScope s_many_runs) .none kV1 dc1 pm1 an1 cd1 ct1, PySem.W.fnOf "row_at" "row_at" (defArgs s_row_at) (defBody s_row_at) (defScope s_row_at) .none kV2 dc2 pm2 an2 cd2 ct2, PySem.W.fnOf "run_at" "run_at" (defArgs s_run_at) (defBody s_run_at) (defScope s_run_at) .none kV3 dc3 pm3 an3 cd3 ct3, PySem.W.fnOf "number_of" "number_of" (defArgs s_number_of) (defBody s_number_of) (defScope s_number_of) .none kV4 dc4 pm4 an4 cd4 ct4, PySem.W.fnOf "_law_at" "_law_at" (defArgs s__law_at) (defBody s__law_at) (defScope s__law_at) .none kV5 dc5 pm5 an5 cd5 ct5, PySem.W.fnOf "_law_mix" "_law_mix" (defArgs s__law_mix) (defBody s__law_mix) (defScope s__law_mix) .none kV6 dc6 pm6 an6 cd6 ct6, PySem.W.fnOf "_law_letters" "_law_letters" (defArgs s__law_letters) (defBody s__law_letters) (defScope s__law_letters) .none kV7 dc7 pm7 an7 cd7 ct7, PySem.W.fnOf "_law_road" "_law_road" (defArgs s__law_road) (defBody s__law_road) (defScope s__law_road) .none kV8 dc8 pm8 an8 cd8 ct8, PySem.W.fnOf "_law_starts" "_law_starts" (defArgs s__law_starts) (defBody s__law_starts) (defScope s__law_starts) .none kV9 dc9 pm9 an9 cd9 ct9, PySem.W.fnOf "_law_run" "_law_run" (defArgs s__law_run) (defBody s__law_run) (defScope s__law_run) .none kV10 dc10 pm10 an10 cd10 ct10, PySem.W.fnOf "_law_counted" "_law_counted" (defArgs s__law_counted) (defBody s__law_counted) (defScope s__law_counted) .none kV11 dc11 pm11 an11 cd11 ct11, PySem.W.fnOf "law" "law" (defArgs s_law) (defBody s_law) (defScope s_law) .none kV12 dc12 pm12 an12 cd12 ct12].getD i (PySem.W.fnOf "law" "law" (defArgs s_law) (defBody s_law) (defScope s_law) .none kV0 dc0 pm0 an0 cd0 ct0)) :=
    ⟨F0, PySem.W.mg_of X G a0, k0, F0.binds (fun _ _ _ _ _ _ us hl => match us, hl with | [_, _], _ => rfl), F1, PySem.W.mg_of X G a1, k1, F1.binds (fun _ _ _ _ _ _ us hl => match us, hl with | [_, _, _], _ => rfl), F2, PySem.W.mg_of X G a2, k2, F2.binds (fun _ _ _ _ _ _ us hl => match us, hl with | [_, _, _], _ => rfl), F3, PySem.W.mg_of X G a3, k3, F3.binds (fun _ _ _ _ _ _ us hl => match us, hl with | [_, _, _, _], _ => rfl), F4, PySem.W.mg_of X G a4, k4, F4.binds (fun _ _ _ _ _ _ us hl => match us, hl with | [_, _, _, _], _ => rfl), F5, PySem.W.mg_of X G a5, k5, F5.binds (fun _ _ _ _ _ _ us hl => match us, hl with | [_, _], _ => rfl), F6, PySem.W.mg_of X G a6, k6, F6.binds (fun _ _ _ _ _ _ us hl => match us, hl with | [_, _], _ => rfl), F7, PySem.W.mg_of X G a7, k7, F7.binds (fun _ _ _ _ _ _ us hl => match us, hl with | [_], _ => rfl), F8, PySem.W.mg_of X G a8, k8, F8.binds (fun _ _ _ _ _ _ us hl => match us, hl with | [_, _, _], _ => rfl), F9, PySem.W.mg_of X G a9, k9, F9.binds (fun _ _ _ _ _ _ us hl => match us, hl with | [_, _], _ => rfl), F10, PySem.W.mg_of X G a10, k10, F10.binds (fun _ _ _ _ _ _ us hl => match us, hl with | [_, _, _], _ => rfl), F11, PySem.W.mg_of X G a11, k11, F11.binds (fun _ _ _ _ _ _ us hl => match us, hl with | [_, _, _, _], _ => rfl), F12, PySem.W.mg_of X G a12, k12, F12.binds (fun _ _ _ _ _ _ us hl => match us, hl with | [_], _ => rfl), PySem.W.mg_none_of X G z_bool, PySem.W.mg_none_of X G z_int, PySem.W.mg_none_of X G z_isinstance, PySem.W.mg_none_of X G z_len, PySem.W.mg_none_of X G z_list, PySem.W.mg_none_of X G z_min, PySem.W.mg_none_of X G z_range, PySem.W.mg_none_of X G z_tuple⟩
  refine ⟨PySem.W.fnOf "law" "law" (defArgs s_law) (defBody s_law) (defScope s_law) .none kV12 dc12 pm12 an12 cd12 ct12, fun s v => .of_eq rfl, fun base _ _ => ?_⟩
  have G_many_rows := ok_many_rows (P := l.prog) (w := w) (base := base) (cl := cl) T
  have G_many_runs := ok_many_runs (P := l.prog) (w := w) (base := base) (cl := cl) T G_many_rows
  have G_row_at := ok_row_at (P := l.prog) (w := w) (base := base) (cl := cl) T
  have G_run_at := ok_run_at (P := l.prog) (w := w) (base := base) (cl := cl) T G_many_rows G_row_at
  have G_number_of := ok_number_of (P := l.prog) (w := w) (base := base) (cl := cl) T
  have G__law_at := ok__law_at (P := l.prog) (w := w) (base := base) (cl := cl) T
  have G__law_mix := ok__law_mix (P := l.prog) (w := w) (base := base) (cl := cl) T
  have G__law_letters := ok__law_letters (P := l.prog) (w := w) (base := base) (cl := cl) T
  have G__law_road := ok__law_road (P := l.prog) (w := w) (base := base) (cl := cl) T G__law_letters G__law_mix G__law_at
  have G__law_starts := ok__law_starts (P := l.prog) (w := w) (base := base) (cl := cl) T G__law_mix G__law_at
  have G__law_run := ok__law_run (P := l.prog) (w := w) (base := base) (cl := cl) T
  have G__law_counted := ok__law_counted (P := l.prog) (w := w) (base := base) (cl := cl) T
  have G_law := ok_law (P := l.prog) (w := w) (base := base) (cl := cl) T G__law_mix G__law_at G__law_road G__law_starts G_many_runs G_run_at G__law_run G__law_counted G_number_of
  exact G_law
end Lw
end
section
namespace Lw
open PySem PySem.Spec PyProof.Rows L2 Ab
abbrev e2 : Int × Int → D := eP D.int D.int
abbrev eI : List Int → D := eT D.int
abbrev eW : List (Int × Int) → D := eT e2
abbrev Rn := List Int × List (List (Int × Int))
abbrev eR : Rn → D := eP eI (eT eW)
theorem enc2 : EncOk e2 1 := enc_pair enc_int enc_int
theorem encI : EncOk eI 1 := enc_tup enc_int
theorem encW : EncOk eW 2 := enc_tup enc2
theorem encR : EncOk eR 4 := enc_pair encI (enc_tup encW)
theorem gTuple_sq {d : D} {A : Sl} {es : List D} (h : sqOf (see A d) = some es) (hf : isFs es = true) : gTuple [d] A = some (.tup es) := by unfold gTuple; simp only [h, hf, if_true]
theorem gIxl_3 {d : D} {a b c i : Int} {A : Sl} (hs : sqOf (see A d) = some [.int a, .int b, .int c]) (h0 : 0 ≤ i) (h1 : i < 3) : gIx d (.int i) A = some (.int (if i = 0 then a else if i = 1 then b else c)) := by
  rcases (by omega : i = 0 ∨ i = 1 ∨ i = 2) with rfl | rfl | rfl
  · exact gIx_at hs rfl rfl
  · exact gIx_at hs rfl rfl
  · exact gIx_at hs rfl rfl
theorem cutG_map {α β : Type} (f : α → β) (xs : List α) (lo hi : Option Int) : cutG (xs.map f) lo hi = (cutG xs lo hi).map f := by
  unfold cutG; rw [List.length_map, List.map_take, List.map_drop]
theorem pickG_map {α β : Type} (f : α → β) (xs : List α) (lo hi st : Option Int) : pickG (xs.map f) lo hi st = (pickG xs lo hi st).map f := by
  unfold pickG pickAt
  rw [List.length_map, List.map_filterMap]
  refine filterMap_same fun j _ => ?_
  rw [List.getElem?_map]
theorem gSl_tup {α : Type} {f : α → D} {d : D} {xs : List α} {lo hi : Option Int} {A : Sl} (hd : see A d = .tup (xs.map f)) (hf : isFs (xs.map f) = true) : gSl d lo hi A = some (.tup ((cutG xs lo hi).map f)) := by
  unfold gSl; simp only [hd, hf, if_true, cutG_map]
theorem gSl_lst {α : Type} {f : α → D} {d : D} {xs : List α} {lo hi : Option Int} {A : Sl} (hd : lsOf (see A d) = some (xs.map f)) (hf : isFs (xs.map f) = true) : gSl d lo hi A = some (.mu ((cutG xs lo hi).map f)) := by
  unfold gSl
  split
  · rename_i q; rw [q] at hd; cases hd
  · rename_i q; rw [q] at hd; cases hd
  · rw [hd]; simp only [hf, if_true, cutG_map]
theorem gSlS_lst {α : Type} {f : α → D} {d : D} {xs : List α} {lo hi st : Option Int} {A : Sl} (hd : lsOf (see A d) = some (xs.map f)) (hf : isFs (xs.map f) = true) (h0 : st ≠ some 0) : gSlS d lo hi st A = some (.mu ((pickG xs lo hi st).map f)) := by
  unfold gSlS
  split
  · rename_i q; rw [q] at hd; cases hd
  · rw [hd]; simp only [hf, h0, ne_eq, not_false_eq_true, and_self, if_true, pickG_map]
theorem gSlS_rev {α : Type} {f : α → D} {d : D} {xs : List α} {A : Sl} (hd : see A d = .tup (xs.map f)) (hf : isFs (xs.map f) = true) : gSlS d none none (some (-1)) A = some (.tup (xs.reverse.map f)) := by
  unfold gSlS; simp only [hd, hf, and_self, if_true, List.map_reverse]
theorem ev_slS {fe : FE} {fl fh ft : FO} {l h t : Option Int} {A A1 A2 A3 A4 : Sl} {d r : D} (h1 : fe A = .ok d A1) (h2 : fl A1 = .ok l A2) (h3 : fh A2 = .ok h A3) (h4 : ft A3 = .ok t A4) (h5 : gSlS d l h t A4 = some r) : fSlS fe fl fh ft A = .ok r A4 := by
  unfold fSlS; rw [h1]; simp only [Ou.bind_ok, h2, h3, h4, h5]
/-! evaluation by rules: the key "ab" -/
local macro_rules | `(tactic| walk_at "ab g") => `(tactic| first
  | exact gMinus_ok | exact gAdd_ok | (refine gMul_l ?_; omega) | (refine gMul_r ?_; omega) | (refine gMod_ok ?_; omega) | (refine gDiv_ok ?_ ?_ <;> omega)
  | exact gLt_ok | exact gLe_ok | exact gGt_ok | exact gGe_ok | exact gEq_int | exact gNe_int
  | exact gPow_ok (b := 60) (by decide) (by decide) | exact gPow_ok (b := 59) (by decide) (by decide) | exact gPow_ok (b := 12) (by decide) (by decide)
  | (refine gIxl_3 rfl ?_ ?_ <;> omega)
  | exact isi_ii | exact isi_ib | exact isi_tt | exact isi_ll | exact isi_ml | exact isi_bi | exact isi_bb | exact isi_ss
  | exact gIn_enc enc_int rfl | exact gNotIn_enc enc_int rfl | exact gIn_enc enc2 rfl | exact gNotIn_enc enc2 rfl
  | (exact gTuple_sq rfl (EncOk.fs enc_int _)) | (exact gTuple_sq rfl (EncOk.fs enc2 _)) | (exact gTuple_sq rfl (EncOk.fs encW _))
  | rfl)
local macro_rules | `(tactic| walk_at "ab f") => `(tactic| first | rfl | (simp only [isF, isFs, Bool.and_self, Bool.and_true]; done) | (exact EncOk.fs enc_int _) | (exact EncOk.fs (enc_tup enc_int) _) | (exact EncOk.fs enc2 _) | (exact EncOk.fs encW _) | (exact encW.f _) | (exact encI.f _) | (exact encR.f _) | (simp [EncOk.fs enc_int, EncOk.fs enc2, EncOk.fs encW, isF, isFs]; done))
local macro_rules | `(tactic| walk_at "ab") => `(tactic| first
  | (with_reducible exact ev_C)
  | ((with_reducible apply ev_var); (· rfl); (· walk_at "ab f"))
  | ((with_reducible apply ev_al); (· rfl); (· walk_at "ab f"))
  | ((with_reducible apply ev_bin); (· walk_at "ab"); (· walk_at "ab"); (· walk_at "ab g"))
  | ((with_reducible apply ev_un); (· walk_at "ab"); (· walk_at "ab g"))
  | (with_reducible exact ev_nil)
  | ((with_reducible apply ev_cons); (· walk_at "ab"); (· walk_at "ab"))
  | ((with_reducible apply ev_tup); (· walk_at "ab"); (· walk_at "ab f"); (· walk_at "ab l"))
  | ((with_reducible apply ev_lst); (· walk_at "ab"); (· walk_at "ab f"); (· walk_at "ab l"))
  | ((with_reducible apply ev_cb); (· walk_at "ab"); (· walk_at "ab g"))
  | ((with_reducible apply ev_call); (· walk_at "ab"); (· walk_at "ab f"); (· walk_at "ab c"))
  | ((with_reducible apply ev_mtl); (· walk_at "ab"); (· rfl); (· walk_at "ab"); (· walk_at "ab g"))
  | (with_reducible exact ev_noPart)
  | ((with_reducible apply ev_part); (· walk_at "ab"))
  | ((with_reducible apply ev_sl); (· walk_at "ab"); (· walk_at "ab"); (· walk_at "ab"); (· walk_at "ab g"))
  | ((with_reducible apply ev_B); (· walk_at "ab"))
  | ((with_reducible apply ev_not); (· walk_at "ab"))
  | ((with_reducible apply ev_notV); (· walk_at "ab"))
  | ((with_reducible apply ev_asgF); (· walk_at "ab"); (· walk_at "ab f"))
  | ((with_reducible apply ev_asgF_mu); (· walk_at "ab"); (· walk_at "ab f"))
  | ((with_reducible apply ev_asg); (· walk_at "ab"); (· exact fun j q => nomatch q))
  | ((with_reducible apply ev_asgM); (· rfl))
  | ((with_reducible apply ev_drop); (· walk_at "ab"))
  | ((with_reducible apply ev_app); (· rfl); (· walk_at "ab"); (· walk_at "ab f"); (· walk_at "ab l"))
  | ((with_reducible apply ev_ext_mu); (· rfl); (· walk_at "ab"); (· rfl); (· walk_at "ab f"); (· walk_at "ab l"))
  | ((with_reducible apply ev_clr); (· rfl))
  | ((with_reducible apply ev_ret_al); (· rfl))
  | ((with_reducible apply ev_ret); (· walk_at "ab"); (· exact fun j q => nomatch q))
  | ((with_reducible apply ev_range); (· walk_at "ab"); (· walk_at "ab l"))
  | ((with_reducible apply ev_it); (· walk_at "ab"); (· walk_at "ab f"); (· first | rfl | (exact if_pos (EncOk.fs enc_int _)) | (exact if_pos (EncOk.fs enc2 _)) | (exact if_pos (EncOk.fs encW _)) | (simp [iterOf, EncOk.fs enc_int, EncOk.fs enc2, EncOk.fs encW]; done)))
  | ((with_reducible apply ev_it_al); (· rfl); (· walk_at "ab f"))
  | ((with_reducible apply ev_it_mu); (· walk_at "ab"); (· walk_at "ab f")))
local macro_rules | `(tactic| walk_at "ab l") => `(tactic| first | decide | (have := sizeLine_eq; simp; omega) | omega)
local macro_rules | `(tactic| walk_at "ab set") => `(tactic| (try simp only [List.set_cons_zero, List.set_cons_succ]))
/- a statement, then the rest -/
local macro_rules | `(tactic| walk_at "ab seq") => `(tactic| ((with_reducible apply w_seq_n); (· walk_at "ab"); walk_at "ab set"))
/- the last statement -/
local macro_rules | `(tactic| walk_at "ab last") => `(tactic| ((with_reducible apply w_of); (· walk_at "ab"); walk_at "ab set"))
local macro_rules | `(tactic| walk_at "ab ret") => `(tactic| ((with_reducible apply w_ret); (· walk_at "ab"); (· walk_at "ab f")))
/-! ### the mathematics -/
def mixPart (n p : Int) : Int := (n % 2147483629 + p + 1) * (8 * p * p + 48271) % 2147483647
def mix (n p : Int) : Int := mixPart n p * mixPart n p % 2147483587
theorem mix_nn (n p : Int) : 0 ≤ mix n p := Int.emod_nonneg _ (by decide)
theorem mix_eq (n p : Int) (h0 : 0 ≤ p) (h1 : p ≤ 100000) : F__law_mix [.int n, .int p] = .ok (.int (mix n p)) := by
  refine def_is [some (.int n), some (.int p), none] rfl rfl ?_
  unfold f__law_mix
  walk_at "ab seq"
  walk_at "ab ret"
  exact ret_of rfl rfl
def at_ (ns : List Int) (k : Int) : Int := if k < ns.length then ns.getD k.toNat 0 else 13 * k + 6
abbrev eS (ns : List Int) : D := .fro (ns.map D.int)
theorem at_eq (ns : List Int) (k : Int) (h0 : 0 ≤ k) (h1 : k ≤ 100000) : F__law_at [eS ns, .int k] = .ok (.int (at_ ns k)) := by
  refine def_is [some (eS ns), some (.int k)] rfl rfl ?_
  unfold f__law_at at_
  apply w_seq_if
  · walk_at "ab"
  · intro h
    have h : k < ns.length := by simpa using h
    rw [if_pos h]
    apply w_seq_ret
    have hk : k.toNat < ns.length := by omega
    apply w_ret
    · apply ev_bin
      · walk_at "ab"
      · walk_at "ab"
      · exact gIx_map (xs := ns) rfl h0 (getD_get (d := 0) hk) rfl
    · rfl
    · exact ⟨_, rfl, ret_of rfl rfl⟩
  · intro h
    have h : ¬ k < ns.length := by simpa using h
    rw [if_neg h]
    apply w_seq_next
    walk_at "ab ret"
    exact ret_of rfl rfl
local macro_rules | `(tactic| walk_at "ab c") => `(tactic| first | exact at_eq _ _ (by omega) (by omega) | exact mix_eq _ _ (by omega) (by omega))

/-! letters, roads, starts -/
def lrow (h a : Nat) : List (Int × Int) := ((List.range h).filter fun b : Nat => !decide ((b : Int) = (a : Int))).map fun b : Nat => ((a : Int), (b : Int))
def letters_ (h : Nat) : List (Int × Int) := (List.range h).flatMap (lrow h)
theorem letters_len (h : Nat) (h2 : 2 ≤ h ∧ h ≤ 4) : 0 < (letters_ h).length ∧ (letters_ h).length ≤ 12 := by
  rcases (by omega : h = 2 ∨ h = 3 ∨ h = 4) with rfl | rfl | rfl <;> decide
theorem lpart_len (h k : Nat) (hk : k ≤ h) (hh : h ≤ 4) : ((List.range k).flatMap (lrow h)).length ≤ 16 := by
  have : ∀ h : Fin 5, ∀ k : Fin 5, ((List.range k.1).flatMap (lrow h.1)).length ≤ 16 := by decide
  exact this ⟨h, by omega⟩ ⟨k, by omega⟩
theorem letters_eq (h : Nat) (h2 : 2 ≤ h ∧ h ≤ 4) : F__law_letters [.int h] = .ok (.mu ((letters_ h).map e2)) := by
  have hz := sizeLine_eq
  refine def_is [some (.int h), none, none, none] rfl rfl ?_
  unfold f__law_letters
  walk_at "ab seq"
  apply w_seq_for (fun j A => ∃ a b, A = [some (.int h), some (.mu (((List.range j).flatMap (lrow h)).map e2)), a, b])
  · walk_at "ab"
  · exact ⟨_, _, rfl⟩
  · rintro j d A hd ⟨a, b, rfl⟩
    obtain ⟨rfl, hj⟩ := range_get hd
    refine ⟨_, rfl, ?_⟩
    walk_at "ab set"
    rw [Int.toNat_natCast] at hj
    have hfl := lpart_len h j (by omega) h2.2
    have hr : (lrow h j).length ≤ h := by unfold lrow; rw [List.length_map]; exact Nat.le_trans (List.length_filter_le _ _) (by simp)
    apply w_of
    · apply ev_drop
      apply ev_ext_mu (es := (lrow h j).map e2)
      · rfl
      · refine fcomp_filter (e := fun i : Nat => D.int i) (e' := e2) (xs := List.range (h : Int).toNat) (fun b : Nat => ((j : Int), (b : Int))) (fun b : Nat => !decide ((b : Int) = (j : Int))) (ev_range (ev_var rfl rfl) (by omega)) (by simp; omega) fun i hi => ⟨_, rfl, ?_, fun _ => ⟨?_, fun i q => nomatch q⟩, rfl⟩
        · walk_at "ab set"
          walk_at "ab"
        · walk_at "ab set"
          walk_at "ab"
      · rfl
      · exact enc2.fs _
      · rw [List.length_map, List.length_map]; omega
    · refine ⟨by simp, some (.int j), none, ?_⟩
      rw [List.range_succ, List.flatMap_append, List.map_append]
      simp
      rfl
  · rintro A ⟨a, b, rfl⟩
    apply w_ret_al rfl
    refine ret_mu ?_
    rw [List.length_map, List.length_range, Int.toNat_natCast]
    rfl
abbrev eB : List (List Int) → List D := fun bags => bags.map fun b => D.mu (b.map D.int)
theorem fz_bags : ∀ bags : List (List Int), fz (.mu (eB bags)) = .lst (bags.map (eL D.int)) := by
  have h : ∀ bags : List (List Int), fzs (eB bags) = bags.map (eL D.int) := by
    intro bags
    induction bags with
    | nil => simp [fzs]
    | cons b bags ih =>
      show fz (.mu (b.map D.int)) :: fzs (eB bags) = _
      rw [ih, List.map_cons, fz, fzs_isFs (enc_int.fs b)]
  intro bags
  rw [fz, h]
theorem ev_bag {i b a n l : Nat} {c k m : Int} {fe : FE} {A A1 : Sl} {bags : List (List Int)} {ls : List D} {ds0 : List D} {bg : List Int} {w : Int} {j u : Nat} (h0 : slotL i A = some ds0) (h1 : fe A = .ok (.int k) A1) (h2 : slotL i A1 = some (eB bags)) (h3 : A1[n]? = some (some (.int m))) (h4 : A1[l]? = some (some (.lst ls)))
    (h5 : ixN bags.length k = some j) (h6 : bags[j]? = some bg) (h7 : cDiv m c = true) (h8 : 0 < ls.length) (h9 : b < A1.length ∧ a < A1.length) (h10 : ixN bg.length (m / c % (ls.length : Int)) = some u) (h11 : bg[u]? = some w) :
    fBag i b a n l c fe A = .ok .next (((A1.set i (some (.mu (eB (bags.set j (bg.set u (1 - w))))))).set b none).set a (some (.int (m / c % (ls.length : Int))))) := by
  unfold fBag
  rw [h0]
  simp only [h1, Ou.bind_ok, h2, h3, h4]
  rw [show (eB bags).length = bags.length by simp, h5]
  simp only
  rw [show (eB bags)[j]? = some (.mu (bg.map D.int)) by rw [List.getElem?_map, h6]; rfl]
  simp only [enc_int.fs bg, h7, h8, h9.1, h9.2, and_self, if_true, List.length_map, h10]
  rw [show (bg.map D.int)[u]? = some (.int w) by rw [List.getElem?_map, h11]; rfl]
  simp only
  unfold eB
  rw [List.map_set, List.map_set]
theorem ixN_ok {n : Nat} {i : Int} (h : 0 ≤ i ∧ i < n) : ixN n i = some i.toNat := by
  unfold ixN
  rw [if_pos h.1, if_pos h.2]
local macro_rules | `(tactic| walk_at "ab c") => `(tactic| first | exact at_eq _ _ (by omega) (by omega) | exact mix_eq _ _ (by omega) (by omega))
theorem rep_eq (m : Nat) (hm : m ≤ 1000) (A : Sl) : gMulA (.mu [.int 0]) (.int m) A = some (.mu ((List.replicate m (0 : Int)).map D.int)) := by
  have hz := sizeLine_eq
  unfold gMulA
  simp only [see, exOf, isFs, isF, Bool.and_self, true_and, Int.natAbs_natCast, Int.toNat_natCast, List.length_cons, List.length_nil]
  rw [if_pos ⟨by omega, by omega⟩]
  simp
theorem road_eq (ns : List Int) (hn : ns.length ≤ 63) (h : Nat) (h2 : 2 ≤ h ∧ h ≤ 4) : ∃ d, F__law_road [eS ns, .int h, .int 8] = .ok d ∧ ∃ road : List (List (Int × Int)), d = .mu (road.map eW) ∧ road.Nodup ∧ 0 < road.length ∧ road.length ≤ 8 := by
  have hz := sizeLine_eq
  obtain ⟨l1, l2⟩ := letters_len h h2
  refine def_w [some (eS ns), some (.int h), some (.int 8), none, none, none, none, none, none, none, none, none] rfl rfl ?_
  unfold f__law_road
  apply w_seq_n
  · apply ev_asgF_mu
    · exact ev_call (ev_cons (ev_var rfl rfl) ev_nil) rfl (letters_eq h h2)
    · exact enc2.fs _
  walk_at "ab set"
  generalize letters_ h = ls at l1 l2 ⊢
  have hm := mix_nn (at_ ns 0) 1
  apply w_seq_n
  · apply ev_asg
    · refine fcomp_map (A0 := [some (eS ns), some (.int h), some (.int 8), some (eL e2 ls), none, none, none, none, none, none, none, none]) (e := fun i : Nat => D.int i) (e' := fun b => D.mu (b.map D.int)) (xs := List.range (1 + mix (at_ ns 0) 1 % 8).toNat) (fun _ => List.replicate ls.length (0 : Int)) (ev_range ?_ (by omega)) (by simp; omega) fun i hi => ⟨_, rfl, ?_, (fun i q => nomatch q), rfl⟩
      · walk_at "ab"
      · walk_at "ab set"
        apply ev_bin
        · walk_at "ab"
        · exact ev_cb (ev_cons (ev_var rfl rfl) ev_nil) rfl
        · rw [List.length_map]; exact rep_eq ls.length (by omega) _
    · exact fun j q => nomatch q
  walk_at "ab set"
  have hc : 1 ≤ (1 + mix (at_ ns 0) 1 % 8).toNat ∧ (1 + mix (at_ ns 0) 1 % 8).toNat ≤ 8 := by omega
  generalize (1 + mix (at_ ns 0) 1 % 8).toNat = cnt at hc ⊢
  apply w_seq_for (xs := (cutG ns (some 1) (some 64)).map D.int) (fun j A => ∃ (bags : List (List Int)) (l5 l8 l9 : Option D), A = [some (eS ns), some (.int h), some (.int 8), some (eL e2 ls), some (.mu (eB bags)), l5, none, none, l8, l9, none, none] ∧ bags.length = cnt ∧ ∀ b ∈ bags, b.length = ls.length)
  · apply ev_it_mu
    · exact ev_sl (ev_var rfl rfl) (ev_part ev_C) (ev_part ev_C) (gSl_lst (xs := ns) rfl (enc_int.fs _))
    · exact enc_int.fs _
  · exact ⟨(List.range cnt).map fun _ => List.replicate ls.length (0 : Int), _, _, _, rfl, by simp, fun b hb => by
      obtain ⟨_, _, rfl⟩ := List.mem_map.mp hb
      simp⟩
  · rintro j d A hd ⟨bags, l5, l8, l9, rfl, hb, hbs⟩
    obtain ⟨q, hq, rfl⟩ := map_get hd
    refine ⟨_, rfl, ?_⟩
    walk_at "ab set"
    walk_at "ab seq"
    have hm2 := mix_nn q 2
    generalize mix q 2 = x at hm2 ⊢
    have hjj : (x % (bags.length : Int)).toNat < bags.length := by
      have := Int.emod_lt_of_pos x (show (0 : Int) < bags.length by omega)
      omega
    have hbg : bags[(x % (bags.length : Int)).toNat]? = some bags[(x % (bags.length : Int)).toNat] := List.getElem?_eq_getElem hjj
    generalize bags[(x % (bags.length : Int)).toNat] = bg at hbg
    have hbl := hbs bg (List.mem_of_getElem? hbg)
    have hml := Int.emod_lt_of_pos (x / 8) (show (0 : Int) < ((ls.map e2).length : Int) by rw [List.length_map]; omega)
    have hmn := Int.emod_nonneg (x / 8) (show ((ls.map e2).length : Int) ≠ 0 by rw [List.length_map]; omega)
    have huu : (x / 8 % ((ls.map e2).length : Int)).toNat < bg.length := by rw [List.length_map] at hml hmn ⊢; omega
    apply w_of
    · apply ev_bag (bags := bags) (bg := bg) (ls := ls.map e2) (k := x % (bags.length : Int)) (m := x) (w := bg[(x / 8 % ((ls.map e2).length : Int)).toNat])
      · rfl
      · apply ev_bin
        · walk_at "ab"
        · exact ev_cb (ev_cons (ev_al rfl (by simp [isF])) ev_nil) rfl
        · rw [List.length_map]
          exact gMod_ok (by omega)
      · rfl
      · rfl
      · rfl
      · exact ixN_ok ⟨Int.emod_nonneg _ (by omega), Int.emod_lt_of_pos x (by omega)⟩
      · exact hbg
      · unfold cDiv; decide +kernel
      · rw [List.length_map]; omega
      · simp
      · exact ixN_ok ⟨hmn, by rw [List.length_map] at hml ⊢; omega⟩
      · exact List.getElem?_eq_getElem huu
    · refine ⟨.inl rfl, bags.set (x % (bags.length : Int)).toNat (bg.set (x / 8 % ((ls.map e2).length : Int)).toNat (1 - bg[(x / 8 % ((ls.map e2).length : Int)).toNat])), _, _, _, rfl, by simp [hb], fun b hb' => ?_⟩
      rcases List.mem_or_eq_of_mem_set hb' with m | m
      · exact hbs b m
      · rw [m, List.length_set]; exact hbl
  · rintro A ⟨bags, l5, l8, l9, rfl, hb, hbs⟩
    walk_at "ab seq"
    apply w_seq_for (xs := bags.map (eL D.int)) (fun j A => ∃ (road : List (List (Int × Int))) (l7 l10 : Option D), A = [some (eS ns), some (.int h), some (.int 8), some (eL e2 ls), some (.lst (bags.map (eL D.int))), l5, some (.mu (road.map eW)), l7, l8, l9, l10, none] ∧ road.Nodup ∧ road.length ≤ j ∧ (0 < j → 0 < road.length))
    · unfold fIt
      rw [ev_al rfl (by simp [isF])]
      simp only [Ou.bind_ok, closeD, List.getElem?_cons_succ, List.getElem?_cons_zero, fz_bags]
      rfl
    · exact ⟨[], _, _, rfl, by simp, by simp, by simp⟩
    · rintro j d A hd ⟨road, l7, l10, rfl, r1, r2, r3⟩
      obtain ⟨bg, hbg, rfl⟩ := map_get hd
      have hj : j < bags.length := (List.getElem?_eq_some_iff.mp hbg).1
      have hbl := hbs bg (List.mem_of_getElem? hbg)
      refine ⟨_, rfl, ?_⟩
      walk_at "ab set"
      apply w_seq_n
      · apply ev_asgF
        · apply ev_cb
          · apply ev_cons
            · refine fcomp_filter (e := fun i : Nat => D.int i) (e' := e2) (xs := List.range ((ls.map e2).length : Int).toNat) (fun k : Nat => ls.getD k (0, 0)) (fun k : Nat => decide (bg.getD k 0 = 1)) (ev_range (ev_cb (ev_cons (ev_var rfl rfl) ev_nil) rfl) (by rw [List.length_map]; omega)) (by simp; omega) fun k hk => ⟨_, rfl, ?_, fun _ => ⟨?_, fun i q => nomatch q⟩, rfl⟩
              · have hk : k < ls.length := by simpa using hk
                walk_at "ab set"
                apply ev_B
                apply ev_bin
                · exact ev_bin (ev_var rfl rfl) (ev_var rfl rfl) (gIx_map (xs := bg) (x := bg.getD k 0) rfl (by omega) (by rw [Int.toNat_natCast]; exact getD_get (by omega)) rfl)
                · exact ev_C
                · exact gEq_int
              · have hk : k < ls.length := by simpa using hk
                walk_at "ab set"
                exact ev_bin (ev_var rfl rfl) (ev_var rfl rfl) (gIx_map (xs := ls) (x := ls.getD k (0, 0)) rfl (by omega) (by rw [Int.toNat_natCast]; exact getD_get (by omega)) rfl)
            · exact ev_nil
          · exact gTuple_sq rfl (enc2.fs _)
        · exact encW.f _
      walk_at "ab set"
      generalize List.map (fun k : Nat => ls.getD k (0, 0)) (List.filter (fun k : Nat => decide (bg.getD k 0 = 1)) (List.range ((ls.map e2).length : Int).toNat)) = wt
      apply w_if
      · apply ev_B
        apply ev_bin
        · exact ev_var rfl (encW.f wt)
        · exact ev_al rfl (by simp [isF])
        · exact gNotIn_enc (x := wt) (ys := road) encW rfl
      · intro hh
        have hw : wt ∉ road := by simpa using hh
        apply w_of
        · apply ev_drop
          apply ev_app
          · rfl
          · exact ev_var rfl (encW.f wt)
          · exact encW.f wt
          · rw [List.length_map]; omega
        · refine ⟨by simp, road ++ [wt], _, _, by rw [List.map_append]; rfl, ?_, by simp; omega, by simp⟩
          rw [List.nodup_append]
          exact ⟨r1, by simp, fun a ha b hb e => hw (by simp at hb; rw [← hb, ← e]; exact ha)⟩
      · intro hh
        have hw : wt ∈ road := by simpa using hh
        apply wf_next
        exact ⟨by simp, road, _, _, rfl, r1, by omega, fun _ => List.length_pos_of_mem hw⟩
    · rintro A ⟨road, l7, l10, rfl, r1, r2, r3⟩
      rw [List.length_map] at r2 r3
      apply w_ret_al rfl
      exact ret_mu ⟨road, rfl, r1, r3 (by omega), by omega⟩
theorem cut_tail {α : Type} (s : List α) (h : 1 ≤ s.length) : (cutG s (some 1) none).length = s.length - 1 := by
  unfold cutG HT.sIx
  simp
  omega
theorem cut_head {α : Type} (s : List α) (h : 1 ≤ s.length) : (cutG s none (some 1)).length = 1 := by
  unfold cutG HT.sIx
  simp
  omega
theorem starts_eq (ns : List Int) (h : Nat) (h2 : 2 ≤ h ∧ h ≤ 4) : ∃ d, F__law_starts [eS ns, .int h] = .ok d ∧ ∃ st : List (List Int), d = .mu (st.map eI) ∧ st.Nodup ∧ 0 < st.length ∧ st.length ≤ 81 ∧ ∀ s ∈ st, s.length = h := by
  have hz := sizeLine_eq
  have hm := mix_nn (at_ ns 0) 6
  refine def_w [some (eS ns), some (.int h), none, none, none, none, none, none] rfl rfl ?_
  unfold f__law_starts
  walk_at "ab seq"
  have hc : 1 ≤ 1 + mix (at_ ns 0) 6 % 81 ∧ 1 + mix (at_ ns 0) 6 % 81 ≤ 81 := by omega
  apply w_seq_for (xs := (List.range (1 + mix (at_ ns 0) 6 % 81).toNat).map fun i => D.int (i : Nat)) (fun j A => ∃ (st : List (List Int)) (l3 l4 l5 l6 : Option D), A = [some (eS ns), some (.int h), some (.mu (st.map eI)), l3, l4, l5, l6, none] ∧ st.Nodup ∧ st.length ≤ j ∧ (0 < j → 0 < st.length) ∧ ∀ s ∈ st, s.length = h)
  · walk_at "ab"
  · exact ⟨[], _, _, _, _, rfl, by simp, by simp, by simp, by simp⟩
  · rintro j d A hd ⟨st, l3, l4, l5, l6, rfl, s1, s2, s3, s4⟩
    obtain ⟨rfl, hj⟩ := range_get hd
    refine ⟨_, rfl, ?_⟩
    walk_at "ab set"
    walk_at "ab seq"
    generalize mix (at_ ns (1 + (j : Int) % 63)) (40 + (j : Int)) = x
    have p1 : (0 : Int) < 2 * 10 ^ 60 - 1 := by decide
    apply w_seq_n
    · apply ev_asgF
      · apply ev_bin
        · apply ev_bin
          · apply ev_bin
            · walk_at "ab"
            · apply ev_bin
              · apply ev_bin
                · exact ev_C
                · walk_at "ab"
                · exact gMul_l (by decide)
              · exact ev_C
              · exact gMinus_ok
            · exact gMod_ok p1
          · walk_at "ab"
          · exact gMinus_ok
        · exact ev_C
        · exact gAdd_ok
      · rfl
    walk_at "ab set"
    generalize at_ ns (1 + (j : Int) % 63) % (2 * 10 ^ 60 - 1) - 10 ^ 60 + 1 = fst
    apply w_seq_n
    · apply ev_asgF
      · apply ev_bin
        · exact ev_tup (ev_cons (ev_var rfl rfl) ev_nil) rfl (by walk_at "ab l")
        · apply ev_cb
          · apply ev_cons
            · refine fcomp_map (A0 := [some (eS ns), some (.int h), some (.mu (st.map eI)), some (.int j), some (.int x), some (.int fst), l6, none]) (e := fun i : Nat => D.int i) (e' := D.int) (xs := List.range ((h : Int) - 1).toNat) (fun k : Nat => x / (if (k : Int) = 0 then 1 else if (k : Int) = 1 then 7 else 49) % 7 - 3) (ev_range ?_ (by omega)) (by simp; omega) fun k hk => ⟨_, rfl, ?_, (fun i q => nomatch q), rfl⟩
              · walk_at "ab"
              · have hk : k < ((h : Int) - 1).toNat := by simpa using hk
                walk_at "ab set"
                apply ev_bin
                · apply ev_bin
                  · apply ev_bin
                    · walk_at "ab"
                    · apply ev_bin
                      · exact ev_lst (ds := [.int 1, .int 7, .int 49]) (ev_cons ev_C (ev_cons ev_C (ev_cons ev_C ev_nil))) rfl (by decide)
                      · walk_at "ab"
                      · exact gIx_3 (by omega) (by omega)
                    · refine gDiv_ok ?_ ?_
                      · split
                        · decide
                        · split <;> decide
                      · split
                        · decide
                        · split <;> decide
                  · exact ev_C
                  · exact gMod_ok (by decide)
                · exact ev_C
                · exact gMinus_ok
            · exact ev_nil
          · exact gTuple_sq rfl (enc_int.fs _)
        · refine gAdd_tup (ds := [fst].map D.int) (enc_int.fs [fst]) (enc_int.fs _) ?_
          simp; omega
      · rw [← List.map_append]; exact encI.f _
    walk_at "ab set"
    rw [← List.map_append]
    have hs0 : ([fst] ++ List.map (fun k : Nat => x / (if (k : Int) = 0 then 1 else if (k : Int) = 1 then 7 else 49) % 7 - 3) (List.range ((h : Int) - 1).toNat)).length = h := by simp; omega
    generalize [fst] ++ List.map (fun k : Nat => x / (if (k : Int) = 0 then 1 else if (k : Int) = 1 then 7 else 49) % 7 - 3) (List.range ((h : Int) - 1).toNat) = s0 at hs0
    have fin : ∀ (s : List Int), s.length = h → W (fIf (fB (fBin gNotIn (fVar 6) (fVar 2))) (fDrop (fApp 2 (fVar 6))) fNext [some (eS ns), some (.int h), some (.mu (st.map eI)), some (.int j), some (.int x), some (.int fst), some (eI s), none]) fun r A2 => (r = .next ∨ r = .cont) ∧ ∃ (st : List (List Int)) (l3 l4 l5 l6 : Option D), A2 = [some (eS ns), some (.int h), some (.mu (st.map eI)), l3, l4, l5, l6, none] ∧ st.Nodup ∧ st.length ≤ j + 1 ∧ (0 < j + 1 → 0 < st.length) ∧ ∀ s ∈ st, s.length = h := by
      intro s hs
      apply w_if
      · apply ev_B
        apply ev_bin
        · exact ev_var rfl (encI.f s)
        · exact ev_al rfl (by simp [isF])
        · exact gNotIn_enc (x := s) (ys := st) encI rfl
      · intro hh
        have hw : s ∉ st := by simpa using hh
        apply w_of
        · apply ev_drop
          apply ev_app
          · rfl
          · exact ev_var rfl (encI.f s)
          · exact encI.f s
          · rw [List.length_map]; omega
        · refine ⟨by simp, st ++ [s], _, _, _, _, by rw [List.map_append]; rfl, ?_, by simp; omega, by simp, ?_⟩
          · rw [List.nodup_append]
            exact ⟨s1, by simp, fun a ha b hb e => hw (by simp at hb; rw [← hb, ← e]; exact ha)⟩
          · intro y hy
            rcases List.mem_append.mp hy with m | m
            · exact s4 y m
            · rw [List.mem_singleton.mp m]; exact hs
      · intro hh
        have hw : s ∈ st := by simpa using hh
        apply wf_next
        exact ⟨by simp, st, _, _, _, _, rfl, s1, by omega, fun _ => List.length_pos_of_mem hw, s4⟩
    apply w_seq_if
    · walk_at "ab"
    · intro _
      apply w_seq_n
      · apply ev_asgF
        · apply ev_bin
          · exact ev_sl (ev_var rfl (encI.f s0)) (ev_part ev_C) ev_noPart (gSl_tup rfl (enc_int.fs _))
          · exact ev_sl (ev_var rfl (encI.f s0)) ev_noPart (ev_part ev_C) (gSl_tup rfl (enc_int.fs _))
          · refine gAdd_tup (enc_int.fs _) (enc_int.fs _) ?_
            rw [List.length_map, List.length_map, cut_tail _ (by omega), cut_head _ (by omega)]
            omega
        · rw [← List.map_append]; exact encI.f _
      walk_at "ab set"
      rw [← List.map_append]
      refine fin _ ?_
      rw [List.length_append, cut_tail _ (by omega), cut_head _ (by omega)]
      omega
    · intro _
      apply w_seq_next
      exact fin s0 hs0
  · rintro A ⟨st, l3, l4, l5, l6, rfl, s1, s2, s3, s4⟩
    rw [List.length_map, List.length_range] at s2 s3
    apply w_ret_al rfl
    exact ret_mu ⟨st, rfl, s1, s3 (by omega), by omega, s4⟩

/-! runs by number -/
theorem lenL {α : Type} {e : α → D} {xs : List α} {A : Sl} : gLen [.lst (xs.map e)] A = some (.int xs.length) := by
  show some (D.int ((xs.map e).length : Int)) = _
  rw [List.length_map]
abbrev eLW (road : List (List (Int × Int))) : D := eL eW road
abbrev eLI (st : List (List Int)) : D := eL eI st
theorem many_rows_eq (road : List (List (Int × Int))) (hr : road.length ≤ 8) (R : Nat) (hR : R ≤ 5) : F_many_rows [eLW road, .int R] = .ok (.int ((road.length ^ R : Nat) : Int)) := by
  refine def_is [some (eLW road), some (.int R), none, none] rfl rfl ?_
  unfold f_many_rows
  walk_at "ab seq"
  apply w_seq_for (fun j A => ∃ l3, A = [some (eLW road), some (.int R), some (.int ((road.length ^ j : Nat) : Int)), l3])
  · walk_at "ab"
  · exact ⟨_, rfl⟩
  · rintro j d A hd ⟨l3, rfl⟩
    obtain ⟨rfl, hj⟩ := range_get hd
    refine ⟨_, rfl, ?_⟩
    walk_at "ab set"
    apply w_of
    · apply ev_asg
      · apply ev_bin
        · walk_at "ab"
        · exact ev_cb (ev_cons (ev_var rfl rfl) ev_nil) lenL
        · exact gMul_r (by omega)
      · exact fun i q => nomatch q
    · refine ⟨.inl rfl, some (.int j), ?_⟩
      rw [Nat.pow_succ, Int.natCast_mul]
      rfl
  · rintro A ⟨l3, rfl⟩
    apply w_ret
    · exact ev_var rfl rfl
    · rfl
    · refine ret_of rfl ?_
      rw [List.length_map, List.length_range, Int.toNat_natCast]
theorem many_runs_eq (road : List (List (Int × Int))) (st : List (List Int)) (hr : road.length ≤ 8) (hs : st.length ≤ 81) (R : Nat) (hR : R ≤ 5) : F_many_runs [eLW road, .int R, eLI st] = .ok (.int ((st.length * road.length ^ R : Nat) : Int)) := by
  refine def_is [some (eLW road), some (.int R), some (eLI st)] rfl rfl ?_
  unfold f_many_runs
  apply w_ret
  · apply ev_bin
    · exact ev_cb (ev_cons (ev_var rfl rfl) ev_nil) lenL
    · exact ev_call (ev_cons (ev_var rfl rfl) (ev_cons (ev_var rfl rfl) ev_nil)) rfl (many_rows_eq road hr R hR)
    · exact gMul_l (by omega)
  · rfl
  · refine ret_of rfl ?_
    rw [Int.natCast_mul]
def low (road : List (List (Int × Int))) (t x : Nat) : List (List (Int × Int)) := (List.range t).map fun i => road.getD (x / road.length ^ i % road.length) []
theorem pickG_rev {α : Type} (xs : List α) : pickG xs none none (some (-1)) = xs.reverse := by
  have hj : pickJs none none (some (-1)) xs.length = (List.range xs.length).map fun k => xs.length - 1 - k := by
    unfold pickJs sliceBounds sliceRange
    simp only [Option.getD_some, show ¬ ((-1 : Int) > 0) from by decide, if_false, show (-(-1) : Int) = 1 from by decide, Int.ediv_one]
    have : (if (xs.length : Int) - 1 > -1 then (xs.length : Int) - 1 - -1 - -1 - 1 else 0).toNat = xs.length := by split <;> omega
    rw [this]
    refine List.map_congr_left fun k hk => ?_
    have := List.mem_range.mp hk
    omega
  unfold pickG pickAt
  rw [hj, List.filterMap_map]
  rw [filterMap_same (g := fun m => xs.reverse[m]?)]
  · have := pick_run xs.reverse.toArray 0 xs.length
    simp only [Nat.zero_add, List.getElem?_toArray] at this
    rw [List.map_id'] at this
    rw [this]
    simp only [List.drop_zero]
    rw [List.take_of_length_le (by simp)]
  · intro m hm
    have h1 : m < xs.length := List.mem_range.mp hm
    show xs[xs.length - 1 - m]? = _
    rw [List.getElem?_reverse h1]
theorem row_at_eq (road : List (List (Int × Int))) (hr : 0 < road.length ∧ road.length ≤ 8) (R : Nat) (hR : R ≤ 5) (x : Nat) : F_row_at [eLW road, .int R, .int x] = .ok (eT eW (low road R x).reverse) := by
  have hz := sizeLine_eq
  refine def_is [some (eLW road), some (.int R), some (.int x), none, none] rfl rfl ?_
  unfold f_row_at
  walk_at "ab seq"
  apply w_seq_for (fun j A => ∃ l4, A = [some (eLW road), some (.int R), some (.int ((x / road.length ^ j : Nat) : Int)), some (.mu ((low road j x).map eW)), l4])
  · walk_at "ab"
  · exact ⟨_, by simp [low]; rfl⟩
  · rintro j d A hd ⟨l4, rfl⟩
    obtain ⟨rfl, hj⟩ := range_get hd
    rw [Int.toNat_natCast] at hj
    refine ⟨_, rfl, ?_⟩
    walk_at "ab set"
    have hlt : x / road.length ^ j % road.length < road.length := Nat.mod_lt _ hr.1
    apply w_seq_n
    · apply ev_drop
      apply ev_app (e := eW (road.getD (x / road.length ^ j % road.length) []))
      · rfl
      · apply ev_bin
        · exact ev_var rfl rfl
        · apply ev_bin
          · exact ev_var rfl rfl
          · exact ev_cb (ev_cons (ev_var rfl rfl) ev_nil) lenL
          · exact gMod_ok (by omega)
        · rw [← Int.natCast_emod]
          exact gIx_map (xs := road) rfl (by omega) (by rw [Int.toNat_natCast]; exact getD_get hlt) (encW.f _)
      · exact encW.f _
      · rw [List.length_map]; unfold low; rw [List.length_map, List.length_range]; omega
    walk_at "ab set"
    apply w_of
    · apply ev_asgF
      · apply ev_bin
        · exact ev_var rfl rfl
        · exact ev_cb (ev_cons (ev_var rfl rfl) ev_nil) lenL
        · exact gDiv_ok (by omega) (by omega)
      · rfl
    · refine ⟨.inl rfl, some (.int j), ?_⟩
      rw [← Int.natCast_ediv, Nat.div_div_eq_div_mul, ← Nat.pow_succ]
      have : low road (j + 1) x = low road j x ++ [road.getD (x / road.length ^ j % road.length) []] := by
        unfold low
        rw [List.range_succ, List.map_append]
        rfl
      rw [this, List.map_append]
      rfl
  · rintro A ⟨l4, rfl⟩
    rw [List.length_map, List.length_range, Int.toNat_natCast]
    apply w_ret
    · apply ev_cb
      · apply ev_cons
        · apply ev_slS
          · exact ev_al rfl (by simp [isF])
          · exact ev_noPart
          · exact ev_noPart
          · walk_at "ab"
          · exact gSlS_lst (xs := low road R x) rfl (encW.fs _) (by decide)
        · exact ev_nil
      · exact gTuple_sq rfl (encW.fs _)
    · exact (enc_tup encW).f _
    · refine ret_of ((enc_tup encW).f _) ?_
      show eT eW (pickG (low road R x) none none (some (-1))) = _
      rw [pickG_rev]
theorem isFs2 {a b : D} (h1 : isF a = true) (h2 : isF b = true) : isFs [a, b] = true := by simp [isFs, h1, h2]
abbrev eRW : List Int × List (List (Int × Int)) → D := eR
theorem run_at_eq (road : List (List (Int × Int))) (st : List (List Int)) (hr : 0 < road.length ∧ road.length ≤ 8) (hs : st.length ≤ 81) (R : Nat) (hR : R ≤ 5) (x : Nat) (hx : x / road.length ^ R < st.length) :
    F_run_at [eLW road, .int R, eLI st, .int x] = .ok (eR (st.getD (x / road.length ^ R) [], (low road R (x % road.length ^ R)).reverse)) := by
  have hp : 0 < road.length ^ R := Nat.pow_pos hr.1
  have hq : road.length ^ R ≤ 8 ^ 5 := Nat.le_trans (Nat.pow_le_pow_left hr.2 R) (Nat.pow_le_pow_right (by decide) hR)
  have hq : road.length ^ R ≤ 32768 := hq
  refine def_is [some (eLW road), some (.int R), some (eLI st), some (.int x), none] rfl rfl ?_
  unfold f_run_at
  apply w_seq_n
  · apply ev_asgF
    · exact ev_call (ev_cons (ev_var rfl rfl) (ev_cons (ev_var rfl rfl) ev_nil)) rfl (many_rows_eq road hr.2 R hR)
    · rfl
  walk_at "ab set"
  generalize road.length ^ R = M at hp hq hx ⊢
  apply w_ret
  · apply ev_tup
    · apply ev_cons
      · apply ev_bin
        · exact ev_var rfl rfl
        · apply ev_bin
          · exact ev_var rfl rfl
          · exact ev_var rfl rfl
          · exact gDiv_ok (by omega) (by omega)
        · rw [← Int.natCast_ediv]
          exact gIx_map (xs := st) (x := st.getD (x / M) []) rfl (Int.natCast_nonneg _) (by rw [Int.toNat_natCast]; exact getD_get hx) (encI.f _)
      · apply ev_cons
        · apply ev_call (r := eT eW (low road R (x % M)).reverse)
          · apply ev_cons
            · exact ev_var rfl rfl
            · apply ev_cons
              · exact ev_var rfl rfl
              · apply ev_cons
                · exact ev_bin (ev_var rfl rfl) (ev_var rfl rfl) (gMod_ok (by omega))
                · exact ev_nil
          · rfl
          · rw [← Int.natCast_emod]
            exact row_at_eq road hr R hR _
        · exact ev_nil
    · exact isFs2 (encI.f _) ((enc_tup encW).f _)
    · walk_at "ab l"
  · exact encR.f (st.getD (x / M) [], (low road R (x % M)).reverse)
  · exact ret_of (encR.f (st.getD (x / M) [], (low road R (x % M)).reverse)) rfl
def idx {α : Type} [DecidableEq α] (ys : List α) (x : α) : Nat := ys.idxOf x
theorem gIndex_idx {α : Type} [DecidableEq α] {f : α → D} {n : Nat} {x : α} {ys : List α} {d : D} {A : Sl} (h : EncOk f n) (hs : lsOf (see A d) = some (ys.map f)) (m : x ∈ ys) (hn : n ≤ 63 := by decide) : gIndex d [f x] A = some (.int ((idx ys x : Nat) : Int)) := gIndex_enc h hs m hn
def step (road : List (List (Int × Int))) (acc : Nat) (w : List (Int × Int)) : Nat := acc * road.length + idx road w
theorem idxOf_getA {α : Type} [DecidableEq α] {vs : List α} (hn : vs.Nodup) {j : Nat} {v : α} (h : vs[j]? = some v) : idx vs v = j := by
  unfold idx
  obtain ⟨hj, e⟩ := List.getElem?_eq_some_iff.mp h
  subst e
  exact hn.idxOf_getElem j hj
theorem low_fold (road : List (List (Int × Int))) (hr : 0 < road.length) (hn : road.Nodup) (x : Nat) : ∀ (R acc : Nat), (low road R x).reverse.foldl (step road) acc = acc * road.length ^ R + x % road.length ^ R
  | 0, acc => by simp [low, Nat.mod_one]
  | R + 1, acc => by
    have e : low road (R + 1) x = low road R x ++ [road.getD (x / road.length ^ R % road.length) []] := by
      unfold low
      rw [List.range_succ, List.map_append]
      rfl
    have hlt : x / road.length ^ R % road.length < road.length := Nat.mod_lt _ hr
    rw [e, List.reverse_append, List.foldl_append, low_fold road hr hn x R]
    simp only [List.reverse_cons, List.reverse_nil, List.nil_append, List.foldl_cons, List.foldl_nil]
    unfold step
    rw [idxOf_getA hn (getD_get (d := []) hlt), Nat.pow_succ, Nat.mod_mul, Nat.add_mul, Nat.mul_assoc, Nat.mul_comm road.length, Nat.mul_comm (x / road.length ^ R % road.length)]
    omega
theorem low_mem (road : List (List (Int × Int))) (hr : 0 < road.length) (R x : Nat) : ∀ w ∈ (low road R x).reverse, w ∈ road := by
  intro w hw
  rw [List.mem_reverse] at hw
  unfold low at hw
  obtain ⟨i, _, rfl⟩ := List.mem_map.mp hw
  exact List.mem_of_getElem? (getD_get (Nat.mod_lt _ hr))
theorem gIx_fst {d : D} {r : Rn} {A : Sl} (hs : see A d = eR r) : gIx d (.int 0) A = some (eI r.1) := gIx_at (ds := [eI r.1, eT eW r.2]) (by rw [hs]; rfl) rfl (encI.f _)
theorem gIx_snd {d : D} {r : Rn} {A : Sl} (hs : see A d = eR r) : gIx d (.int 1) A = some (eT eW r.2) := gIx_at (ds := [eI r.1, eT eW r.2]) (by rw [hs]; rfl) rfl ((enc_tup encW).f _)
theorem num_eq (road : List (List (Int × Int))) (st : List (List Int)) (hr : road.length ≤ 8) (R : Nat) (r : Rn) (h1 : r.1 ∈ st) (h2 : ∀ w ∈ r.2, w ∈ road) :
    F_number_of [eLW road, .int R, eLI st, eR r] = .ok (.int ((r.2.foldl (step road) (idx st r.1) : Nat) : Int)) := by
  refine def_is [some (eLW road), some (.int R), some (eLI st), some (eR r), none, none] rfl rfl ?_
  unfold f_number_of
  apply w_seq_n
  · apply ev_asg
    · apply ev_mtl
      · exact ev_var rfl rfl
      · rfl
      · exact ev_cons (ev_bin (ev_var rfl (encR.f r)) ev_C (gIx_fst rfl)) ev_nil
      · exact gIndex_idx encI rfl h1
    · exact fun i q => nomatch q
  walk_at "ab set"
  apply w_seq_for (xs := r.2.map eW) (fun j A => ∃ l5, A = [some (eLW road), some (.int R), some (eLI st), some (eR r), some (.int (((r.2.take j).foldl (step road) (idx st r.1) : Nat) : Int)), l5])
  · apply ev_it
    · exact ev_bin (ev_var rfl (encR.f r)) ev_C (gIx_snd rfl)
    · exact (enc_tup encW).f _
    · exact if_pos (encW.fs _)
  · exact ⟨none, by rw [List.take_zero]; rfl⟩
  · rintro j d A hd ⟨l5, rfl⟩
    obtain ⟨w, hw, rfl⟩ := map_get hd
    refine ⟨_, rfl, ?_⟩
    walk_at "ab set"
    apply w_of
    · apply ev_asg
      · apply ev_bin
        · apply ev_bin
          · exact ev_var rfl rfl
          · exact ev_cb (ev_cons (ev_var rfl rfl) ev_nil) lenL
          · exact gMul_r (by omega)
        · apply ev_mtl
          · exact ev_var rfl rfl
          · rfl
          · exact ev_cons (ev_var rfl (encW.f w)) ev_nil
          · exact gIndex_idx encW rfl (h2 w (List.mem_of_getElem? hw))
        · exact gAdd_ok
      · exact fun i q => nomatch q
    · refine ⟨.inl rfl, some (eW w), ?_⟩
      rw [List.take_add_one, hw, List.foldl_append]
      simp only [Option.toList_some, List.foldl_cons, List.foldl_nil]
      have e : ∀ a : Nat, ((step road a w : Nat) : Int) = (a : Int) * (road.length : Int) + ((idx road w : Nat) : Int) := fun a => by unfold step; rw [Int.natCast_add, Int.natCast_mul]
      rw [e]
      rfl
  · rintro A ⟨l5, rfl⟩
    apply w_ret
    · exact ev_var rfl rfl
    · rfl
    · refine ret_of rfl ?_
      rw [List.length_map, List.take_length]
theorem counted_eq (road : List (List (Int × Int))) (st : List (List Int)) (hr : road.length ≤ 8) (R : Nat) (r : Rn) (h1 : r.1 ∈ st) (h2 : ∀ w ∈ r.2, w ∈ road) :
    F__law_counted [eLW road, .int R, eLI st, eR r] = .ok (.int ((r.2.foldl (step road) (idx st r.1) : Nat) : Int)) := num_eq road st hr R r h1 h2
theorem gLen_tup {α : Type} {e : α → D} {xs : List α} {A : Sl} : gLen [.tup (xs.map e)] A = some (.int xs.length) := by
  show some (D.int ((xs.map e).length : Int)) = _
  rw [List.length_map]
theorem run_ok (r : Rn) (h R : Nat) (h1 : r.1.length = h) (h2 : r.2.length = R) : F__law_run [eR r, .int h, .int R] = .ok (.bl true) := by
  refine def_is [some (eR r), some (.int h), some (.int R)] rfl rfl ?_
  unfold f__law_run
  have vr : ∀ A : Sl, A[0]? = some (some (eR r)) → fVar 0 A = .ok (eR r) A := fun A h => ev_var h (encR.f r)
  apply w_seq_if
  · apply ev_or2
    · apply ev_not
      apply ev_B
      exact ev_cb (ev_cons (vr _ rfl) (ev_cons ev_C ev_nil)) isi_tt
    · intro _
      apply ev_B
      apply ev_bin
      · exact ev_cb (ev_cons (vr _ rfl) ev_nil) rfl
      · exact ev_C
      · exact gNe_int
  · intro q
    simp at q
  intro _
  apply w_seq_next
  apply w_seq_if
  · apply ev_or2
    · apply ev_not
      apply ev_B
      exact ev_cb (ev_cons (ev_bin (vr _ rfl) ev_C (gIx_fst rfl)) (ev_cons ev_C ev_nil)) isi_tt
    · intro _
      apply ev_B
      apply ev_bin
      · exact ev_cb (ev_cons (ev_bin (vr _ rfl) ev_C (gIx_fst rfl)) ev_nil) gLen_tup
      · exact ev_var rfl rfl
      · exact gNe_int
  · intro q
    simp at q
    omega
  intro _
  apply w_seq_next
  apply w_ret
  · apply ev_andV
    · exact ev_cb (ev_cons (ev_bin (vr _ rfl) ev_C (gIx_snd rfl)) (ev_cons ev_C ev_nil)) isi_tt
    · intro _
      apply ev_bin
      · exact ev_cb (ev_cons (ev_bin (vr _ rfl) ev_C (gIx_snd rfl)) ev_nil) gLen_tup
      · exact ev_var rfl rfl
      · exact gEq_int
  · rfl
  · refine ret_of rfl ?_
    simp [h2]
theorem handed_get0 {road : List (List (Int × Int))} {st : List (List Int)} {A : Sl} : gIx (.lst [eLW road, eLI st]) (.int 0) A = some (eLW road) := gIx_at (ds := [eLW road, eLI st]) rfl rfl rfl
theorem handed_get1 {road : List (List (Int × Int))} {st : List (List Int)} {A : Sl} : gIx (.lst [eLW road, eLI st]) (.int 1) A = some (eLI st) := gIx_at (ds := [eLW road, eLI st]) rfl rfl rfl
theorem handed_same {road : List (List (Int × Int))} {st : List (List Int)} {A : Sl} : gEq (.lst [eLW road, eLI st]) (.mu [eLW road, eLI st]) A = some (.bl true) := by
  have a1 := (enc_lst encW).lay road
  have a2 := (enc_lst encI).lay st
  have b1 := (enc_lst encW).dep road
  have b2 := (enc_lst encI).dep st
  have c1 := (enc_lst encW).eqv road road
  have c2 := (enc_lst encI).eqv st st
  have ok : okD (.lst [eLW road, eLI st]) = true := by
    simp only [okD, dat, dats, SeqAt.shaped, PyData.canLay0, PyData.canLayAll0, PyData.depth, PyData.depthAll] at *
    simp only [a1, a2, Bool.and_self, Bool.and_true, Bool.true_and, decide_eq_true_eq]
    omega
  show (if (okD (.lst [eLW road, eLI st]) && okD (.lst [eLW road, eLI st])) = true then some (D.bl (PyData.eqv (dat (.lst [eLW road, eLI st])) (dat (.lst [eLW road, eLI st])))) else none) = _
  rw [ok, Bool.and_self, if_pos rfl]
  congr 2
  rw [dat, PyData.eqv, dats, dats, dats, PyData.eqvAll, PyData.eqvAll, PyData.eqvAll, c1, c2]
  simp
theorem ev_orF {A A1 A2 : Sl} {ft fu : FT} {b : Bool} (h : ft A = .ok false A1) (k : fu A1 = .ok b A2) : fOr ft fu A = .ok b A2 := by
  unfold fOr; rw [h]
  exact k
theorem ev_notT {A A1 : Sl} {ft : FT} (h : ft A = .ok true A1) : fNot ft A = .ok false A1 := ev_not h
theorem ev_asgF_fz {i : Nat} {fe : FE} {A A1 : Sl} {d : D} (h : fe A = .ok d A1) (hd : ∀ j, d ≠ .al j) : fAsgF i fe A = .ok .next (A1.set i (some (fz d))) := by
  unfold fAsgF; rw [h]
  simp only [Ou.bind_ok]
  have ec : closeD d A1 = some (d, A1) := by
    unfold closeD
    cases d <;> first | rfl | exact absurd rfl (hd _)
  rw [ec]
theorem gList_sq {d : D} {A : Sl} {es : List D} (h : sqOf (see A d) = some es) (hf : isFs es = true) : gList [d] A = some (.mu es) := by unfold gList; simp only [h, hf, if_true]
theorem ev_lst2 {fa : FA} {A A1 : Sl} {a b : List D} (h : fa A = .ok [.mu a, .mu b] A1) : fLst fa A = .ok (.mu [.mu a, .mu b]) A1 := by
  have hz := sizeLine_eq
  unfold fLst
  rw [h]
  simp only [Ou.bind_ok, closeL, closeD]
  rw [if_pos (by simp; omega)]
theorem law_true (ns : List Int) (hl : ns.length ≤ 63) : F_law [.fro (ns.map D.int)] = .ok (.bl true) := by
  have hz := sizeLine_eq
  have hm3 := mix_nn (at_ ns 0) 3
  have hm5 := mix_nn (at_ ns 0) 5
  refine def_is [some (eS ns), none, none, none, none, none, none, none, none, none, none, none] rfl rfl ?_
  unfold f_law
  walk_at "ab seq"
  obtain ⟨h, eh⟩ : ∃ h : Nat, 2 + mix (at_ ns 0) 3 % 3 = (h : Int) := ⟨(2 + mix (at_ ns 0) 3 % 3).toNat, by omega⟩
  rw [eh]
  have h2 : 2 ≤ h ∧ h ≤ 4 := by omega
  obtain ⟨_, er, road, rfl, r1, r2, r3⟩ := road_eq ns hl h h2
  obtain ⟨_, es, st, rfl, s1, s2, s3, s4⟩ := starts_eq ns h h2
  apply w_seq_n
  · apply ev_asgF_mu
    · exact ev_call (ev_cons (ev_var rfl rfl) (ev_cons (ev_var rfl rfl) (ev_cons ev_C ev_nil))) rfl er
    · exact encW.fs _
  walk_at "ab set"
  walk_at "ab seq"
  obtain ⟨R, eR_⟩ : ∃ R : Nat, mix (at_ ns 0) 5 % 6 = (R : Int) := ⟨(mix (at_ ns 0) 5 % 6).toNat, by omega⟩
  rw [eR_]
  have hR : R ≤ 5 := by omega
  apply w_seq_n
  · apply ev_asgF_mu
    · exact ev_call (ev_cons (ev_var rfl rfl) (ev_cons (ev_var rfl rfl) ev_nil)) rfl es
    · exact encI.fs _
  walk_at "ab set"
  apply w_seq_n
  · apply ev_asgF_fz
    · apply ev_lst2
      apply ev_cons
      · exact ev_cb (ev_cons (ev_var rfl rfl) ev_nil) (gList_sq rfl (encW.fs road))
      · apply ev_cons
        · exact ev_cb (ev_cons (ev_var rfl rfl) ev_nil) (gList_sq rfl (encI.fs st))
        · exact ev_nil
    · exact fun j q => nomatch q
  have efz : fz (.mu [.mu (road.map eW), .mu (st.map eI)]) = .lst [eLW road, eLI st] := by
    rw [fz, fzs, fzs, fzs, fz, fz, fzs_isFs (encW.fs road), fzs_isFs (encI.fs st)]
  rw [efz]
  walk_at "ab set"
  apply w_seq_n
  · apply ev_asgF
    · exact ev_cb (ev_cons (ev_var rfl rfl) ev_nil) lenL
    · rfl
  walk_at "ab set"
  apply w_seq_for (fun j A => ∃ l7, A = [some (eS ns), some (.int h), some (eLW road), some (.int R), some (eLI st), some (.lst [eLW road, eLI st]), some (.int ((st.length * road.length ^ j : Nat) : Int)), l7, none, none, none, none])
  · walk_at "ab"
  · exact ⟨none, by simp⟩
  · rintro j d A hd ⟨l7, rfl⟩
    obtain ⟨rfl, hj⟩ := range_get hd
    refine ⟨_, rfl, ?_⟩
    walk_at "ab set"
    apply w_of
    · apply ev_asgF
      · apply ev_bin
        · exact ev_var rfl rfl
        · exact ev_cb (ev_cons (ev_var rfl rfl) ev_nil) lenL
        · exact gMul_r (by omega)
      · rfl
    · refine ⟨.inl rfl, some (.int j), ?_⟩
      rw [Nat.pow_succ, ← Nat.mul_assoc, Int.natCast_mul (st.length * road.length ^ j)]
      rfl
  rintro A ⟨l7, rfl⟩
  rw [List.length_map, List.length_range, Int.toNat_natCast]
  have hp : 0 < road.length ^ R := Nat.pow_pos r2
  apply w_seq_n
  · apply ev_asgF
    · apply ev_call
      · apply ev_cons
        · exact ev_bin (ev_var rfl rfl) ev_C handed_get0
        · apply ev_cons
          · exact ev_var rfl rfl
          · exact ev_cons (ev_bin (ev_var rfl rfl) ev_C handed_get1) ev_nil
      · rfl
      · exact many_runs_eq road st r3 s3 R hR
    · rfl
  walk_at "ab set"
  have hmany : 0 < st.length * road.length ^ R := Nat.mul_pos s2 hp
  generalize hN : st.length * road.length ^ R = N at hmany ⊢
  apply w_seq_if (b := false)
  · apply ev_orF
    · exact (ev_notT (ev_B (ev_cb (ev_cons (ev_var rfl rfl) (ev_cons ev_C ev_nil)) isi_ii)))
    · apply ev_orF
      · exact ev_B (ev_cb (ev_cons (ev_var rfl rfl) (ev_cons ev_C ev_nil)) isi_ib)
      · exact ev_B (ev_bin (ev_var rfl rfl) (ev_var rfl rfl) (gNe_int.trans (by simp)))
  · intro q; cases q
  intro _
  apply w_seq_next
  apply w_seq_for (fun j A => ∃ l7 l8 l9 l10, A = [some (eS ns), some (.int h), some (eLW road), some (.int R), some (eLI st), some (.lst [eLW road, eLI st]), some (.int (N : Int)), l7, l8, l9, l10, none])
  · walk_at "ab"
  · exact ⟨_, _, _, _, rfl⟩
  · rintro j d A hd ⟨l7, l8, l9, l10, rfl⟩
    obtain ⟨rfl, hj⟩ := range_get hd
    have hj : j < 8 := by simpa using hj
    refine ⟨_, rfl, ?_⟩
    walk_at "ab set"
    have hx : ∀ t : Int, ∃ x : Nat, x < N ∧ (if t = 0 then (0 : Int) else if t = 1 then (N : Int) - 1 else mix (at_ ns j) 7 % (N : Int)) = (x : Int) := by
      intro t
      by_cases t0 : t = 0
      · exact ⟨0, hmany, by rw [if_pos t0]; rfl⟩
      · by_cases t1 : t = 1
        · exact ⟨N - 1, by omega, by rw [if_neg t0, if_pos t1]; omega⟩
        · have a1 := Int.emod_nonneg (mix (at_ ns j) 7) (show (N : Int) ≠ 0 by omega)
          have a2 := Int.emod_lt_of_pos (mix (at_ ns j) 7) (show (0 : Int) < N by omega)
          exact ⟨(mix (at_ ns j) 7 % (N : Int)).toNat, by omega, by rw [if_neg t0, if_neg t1]; omega⟩
    obtain ⟨x, hxN, ex⟩ := hx (if (2 : Int) < (j : Int) then (2 : Int) else (j : Int))
    apply w_seq_n (A1 := [some (eS ns), some (.int h), some (eLW road), some (.int R), some (eLI st), some (.lst [eLW road, eLI st]), some (.int (N : Int)), some (.int j), l8, some (.int x), l10, none])
    · refine (ev_asgF (d := .int x) (A1 := [some (eS ns), some (.int h), some (eLW road), some (.int R), some (eLI st), some (.lst [eLW road, eLI st]), some (.int (N : Int)), some (.int j), l8, l9, l10, none]) ?_ rfl)
      apply ev_bin
      · apply ev_lst (ds := [.int 0, .int ((N : Int) - 1), .int (mix (at_ ns j) 7 % (N : Int))])
        · apply ev_cons
          · exact ev_C
          · apply ev_cons
            · exact ev_bin (ev_var rfl rfl) ev_C gMinus_ok
            · apply ev_cons
              · apply ev_bin
                · walk_at "ab"
                · exact ev_var rfl rfl
                · exact gMod_ok (by omega)
              · exact ev_nil
        · rfl
        · walk_at "ab l"
      · exact ev_cb (ev_cons (ev_var rfl rfl) (ev_cons ev_C ev_nil)) rfl
      · refine (gIx_3 ?_ ?_).trans ?_
        · split <;> omega
        · split <;> omega
        · rw [ex]
    have hx1 : x / road.length ^ R < st.length := Nat.div_lt_of_lt_mul (by rw [Nat.mul_comm, hN]; exact hxN)
    have hmod : x % road.length ^ R % road.length ^ R = x % road.length ^ R := Nat.mod_mod _ _
    have g1 : (st.getD (x / road.length ^ R) []) ∈ st := List.mem_of_getElem? (getD_get hx1)
    have g2 : ∀ w ∈ (low road R (x % road.length ^ R)).reverse, w ∈ road := low_mem road r2 R _
    have g3 : (low road R (x % road.length ^ R)).reverse.foldl (step road) (idx st (st.getD (x / road.length ^ R) [])) = x := by
      rw [low_fold road r2 r1, hmod, idxOf_getA s1 (getD_get hx1), Nat.mul_comm]
      exact Nat.div_add_mod _ _
    have g4 : (low road R (x % road.length ^ R)).reverse.length = R := by simp [low]
    have run := run_at_eq road st ⟨r2, r3⟩ s3 R hR x hx1
    obtain ⟨r, hr⟩ : ∃ r : Rn, r = (st.getD (x / road.length ^ R) [], (low road R (x % road.length ^ R)).reverse) := ⟨_, rfl⟩
    rw [← hr] at run
    replace g1 : r.1 ∈ st := by rw [hr]; exact g1
    replace g2 : ∀ w ∈ r.2, w ∈ road := by rw [hr]; exact g2
    replace g3 : r.2.foldl (step road) (idx st r.1) = x := by rw [hr]; exact g3
    replace g4 : r.2.length = R := by rw [hr]; exact g4
    clear hr
    apply w_seq_n
    · apply ev_asgF
      · apply ev_call
        · apply ev_cons
          · exact ev_bin (ev_var rfl rfl) ev_C handed_get0
          · apply ev_cons
            · exact ev_var rfl rfl
            · apply ev_cons
              · exact ev_bin (ev_var rfl rfl) ev_C handed_get1
              · exact ev_cons (ev_var rfl rfl) ev_nil
        · rfl
        · exact run
      · exact encR.f r
    walk_at "ab set"
    have vr : ∀ A : Sl, A[10]? = some (some (eR r)) → fVar 10 A = .ok (eR r) A := fun A h => ev_var h (encR.f r)
    apply w_seq_if (b := false)
    · apply ev_orF
      · apply ev_notT
        apply ev_B
        apply ev_call
        · exact ev_cons (vr _ rfl) (ev_cons (ev_var rfl rfl) (ev_cons (ev_var rfl rfl) ev_nil))
        · simp [isFs, encR.f r, isF, enc_int.fs, encW.fs]
        · exact run_ok r h R (s4 _ g1) g4
      · apply ev_B
        apply ev_bin
        · exact ev_bin (vr _ rfl) ev_C (gIx_fst rfl)
        · exact ev_var rfl rfl
        · exact (gNotIn_enc (x := r.1) (ys := st) (d := eLI st) encI rfl).trans (by simp [g1])
    · intro q; cases q
    intro _
    apply w_seq_next
    apply w_seq_if (b := false)
    · apply ev_B
      apply ev_bin
      · apply ev_cb
        · apply ev_cons
          · refine fcomp_filter (A0 := [some (eS ns), some (.int h), some (eLW road), some (.int R), some (eLI st), some (.lst [eLW road, eLI st]), some (.int (N : Int)), some (.int j), l8, some (.int x), some (eR r), none]) (e := eW) (e' := eW) (xs := r.2) (fun w => w) (fun w => !decide (w ∈ road)) ?_ (by omega) fun w hw => ⟨_, rfl, ?_, fun _ => ⟨?_, fun i q => nomatch q⟩, rfl⟩
            · apply ev_it
              · exact ev_bin (vr _ rfl) ev_C (gIx_snd rfl)
              · exact (enc_tup encW).f _
              · exact if_pos (encW.fs _)
            · walk_at "ab set"
              apply ev_B
              apply ev_bin
              · exact ev_var rfl (encW.f w)
              · exact ev_var rfl rfl
              · exact (gNotIn_enc (x := w) (ys := road) (d := eLW road) encW rfl).trans (by congr)
            · walk_at "ab set"
              exact ev_var rfl (encW.f w)
          · exact ev_nil
        · rfl
      · exact ev_C
      · refine gGt_ok.trans ?_
        have : r.2.filter (fun w => !decide (w ∈ road)) = [] := by
          rw [List.filter_eq_nil_iff]
          intro w hw
          simp [g2 w hw]
        simp [this]
    · intro q; cases q
    intro _
    apply w_seq_next
    have fR : isF (eR r) = true := encR.f r
    have fs4 : isFs [eLW road, .int R, eLI st, eR r] = true := by simp [isFs, isF, enc_int.fs, encW.fs]
    apply w_seq_if (b := false)
    · apply ev_B
      apply ev_bin
      · apply ev_call
        · exact ev_cons (ev_var rfl rfl) (ev_cons (ev_var rfl rfl) (ev_cons (ev_var rfl rfl) (ev_cons (vr _ rfl) ev_nil)))
        · exact fs4
        · exact counted_eq road st r3 R r g1 g2
      · exact ev_var rfl rfl
      · refine gNe_int.trans ?_
        rw [g3]
        simp
    · intro q; cases q
    intro _
    apply w_seq_next
    apply w_seq_n
    · apply ev_asgF
      · apply ev_call
        · apply ev_cons
          · exact ev_bin (ev_var rfl rfl) ev_C handed_get0
          · apply ev_cons
            · exact ev_var rfl rfl
            · apply ev_cons
              · exact ev_bin (ev_var rfl rfl) ev_C handed_get1
              · exact ev_cons (vr _ rfl) ev_nil
        · exact fs4
        · exact num_eq road st r3 R r g1 g2
      · rfl
    walk_at "ab set"
    rw [g3]
    apply w_if (b := false)
    · apply ev_orF
      · exact (ev_notT (ev_B (ev_cb (ev_cons (ev_var rfl rfl) (ev_cons ev_C ev_nil)) isi_ii)))
      · apply ev_orF
        · exact ev_B (ev_cb (ev_cons (ev_var rfl rfl) (ev_cons ev_C ev_nil)) isi_ib)
        · exact ev_B (ev_bin (ev_var rfl rfl) (ev_var rfl rfl) (gNe_int.trans (by simp)))
    · intro q; cases q
    · intro _
      apply wf_next
      exact ⟨.inl rfl, _, _, _, _, rfl⟩
  · rintro A ⟨l7, l8, l9, l10, rfl⟩
    apply w_ret
    · apply ev_bin
      · exact ev_var rfl rfl
      · exact ev_lst (ev_cons (ev_var rfl rfl) (ev_cons (ev_var rfl rfl) ev_nil)) rfl (by walk_at "ab l")
      · exact handed_same
    · rfl
    · exact ret_of rfl rfl
end Lw
end
section
open PySem PySem.W PyProof.Rows
set_option maxHeartbeats 0 in
theorem PySem.Challenge.cw_losspact_k22_runs_by_number_holds : PySem.Challenge.rw_losspact_k22_runs_by_number.Holds := by
  w_on; o_law; k_head; (case hw => w_witness2)
  k_fill
  refine L2.walk_of (l := PySem.Challenge.rw_losspact_k22_runs_by_number) (n := 63) (k := 3) (x := "_law_script") (CX := fun w => L2.CX PySem.Challenge.rw_losspact_k22_runs_by_number.prog w) (sp := fun w => Ab.spF _ (fun _ => .none) 1 Lw.F_law) rfl (by decide) rfl ⟨rfl, by decide, by decide⟩ (fun w h Y => PySem.W.kIn_of Y) ?F (fun _ _ a ns hl _ hS => Ab.law_sp (Lw.law_true ns hl) hS) (fun _ _ _ _ _ h => Ab.law_cx h)
  case F =>
    intro w mg fa h KX G hmg
    refine' Lw.all_mk KX G hmg ?a0 ?l0 ?c0 ?k0 ?a1 ?l1 ?c1 ?k1 ?a2 ?l2 ?c2 ?k2 ?a3 ?l3 ?c3 ?k3 ?a4 ?l4 ?c4 ?k4 ?a5 ?l5 ?c5 ?k5 ?a6 ?l6 ?c6 ?k6 ?a7 ?l7 ?c7 ?k7 ?a8 ?l8 ?c8 ?k8 ?a9 ?l9 ?c9 ?k9 ?a10 ?l10 ?c10 ?k10 ?a11 ?l11 ?c11 ?k11 ?a12 ?l12 ?c12 ?k12 ?z_bool ?z_int ?z_isinstance ?z_len ?z_list ?z_min ?z_range ?z_tuple
    (case a0 => k_is); (case l0 => k_is); (case c0 => k_is); (case k0 => k_is); (case a1 => k_is); (case l1 => k_is); (case c1 => k_is); (case k1 => k_is); (case a2 => k_is); (case l2 => k_is); (case c2 => k_is); (case k2 => k_is); (case a3 => k_is); (case l3 => k_is); (case c3 => k_is); (case k3 => k_is); (case a4 => k_is); (case l4 => k_is); (case c4 => k_is); (case k4 => k_is); (case a5 => k_is); (case l5 => k_is); (case c5 => k_is); (case k5 => k_is); (case a6 => k_is); (case l6 => k_is); (case c6 => k_is); (case k6 => k_is); (case a7 => k_is); (case l7 => k_is); (case c7 => k_is); (case k7 => k_is); (case a8 => k_is); (case l8 => k_is); (case c8 => k_is); (case k8 => k_is); (case a9 => k_is); (case l9 => k_is); (case c9 => k_is); (case k9 => k_is); (case a10 => k_is); (case l10 => k_is); (case c10 => k_is); (case k10 => k_is); (case a11 => k_is); (case l11 => k_is); (case c11 => k_is); (case k11 => k_is); (case a12 => k_is); (case l12 => k_is); (case c12 => k_is); (case k12 => k_is); (case z_bool => k_is); (case z_int => k_is); (case z_isinstance => k_is); (case z_len => k_is); (case z_list => k_is); (case z_min => k_is); (case z_range => k_is); (case z_tuple => k_is)
end

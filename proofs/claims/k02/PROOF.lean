import PyProof.Rows.All
import Wide.All
import OpenK.AllK
import Wide.FinOn
import HandS.ForMost
import HandS.ForExc
import HandS.Deep
import HandS.TupAny
import HandS.IsInst
import HandS.Wide
import HandS.Zip
import HandS.Dict
import HandS.Iter
import HandS.Conv
import KE.KDictKeyed
import KE.KDictLaw
import KE.KDictWalk
import KE.KDictList
import KE.KDictCopyH
import KE.KDictPairs
import KE.KDictZip
import KE.KDictDisplayH
import KE.GoesEnum
import HandS.SortRule
import HandS.ExcIs
import HandS.SortInts
import HandS.TupMul
import HandS.TupLe
import HandS.Text
import HandS.Replace
import HandS.ExcValue
import PySem.Challenge.RW_losspact_k02_shown_and_read
set_option Elab.async false
set_option linter.all false
set_option maxRecDepth 100000
set_option maxHeartbeats 4000000
set_option synthInstance.maxSize 4000
section
namespace L2
open PySem PySem.Spec PyProof.Rows
/-- an exception that was caught: its class, its fields -/
def KeptO (cls : Value) (a : Addr) : HO := .ext fun h => ∃ (u : Obj) (fs : Array Value), h.get? a = some u ∧ Zc cls none u ∧ u.data = .fields fs
end L2
/-! Ab: plain data under the hand layer. D is a value told without addresses; R says that a value of the layer bears it; Abs that the slots, the temporaries and the heap bear what is told. -/
namespace Ab
open PySem PySem.Spec PyProof.Rows L2

/-- a value, told without addresses: lst, fdi are never changed again (fro: a list that may be the law's own script); mut, mdi stand at an address of their own; al i is what slot i owns -/
inductive D where
  | non | bl (b : Bool) | int (i : Int) | str (x : Str)
  | tup (ds : List D) | lst (ds : List D) | mu (ds : List D) | fro (ds : List D)
  | fdi (n : Bool) (ks vs : List D) | mdi (n : Bool) (ks vs : List D)
  | al (i : Nat) | exc (u : HO) | obj (c : Str) (fs : List Str) (vs : List D) | ty (n : String)
  deriving Inhabited

abbrev Sl := List (Option D)
/-- what comes of an expression or a statement -/
inductive Ou (α : Type) where
  | ok (a : α) (A : Sl) | exc (c : Str) (A : Sl) | stuck
def Ou.bind {α β : Type} (x : Ou α) (f : α → Sl → Ou β) : Ou β :=
  match x with | .ok a A => f a A | .exc c A => .exc c A | .stuck => .stuck
@[simp] theorem Ou.bind_ok {α β : Type} (a : α) (A : Sl) (f : α → Sl → Ou β) : (Ou.ok a A).bind f = f a A := rfl
@[simp] theorem Ou.bind_exc {α β : Type} (c : Str) (A : Sl) (f : α → Sl → Ou β) : (Ou.exc c A : Ou α).bind f = .exc c A := rfl
@[simp] theorem Ou.bind_stuck {α β : Type} (f : α → Sl → Ou β) : (Ou.stuck : Ou α).bind f = .stuck := rfl
abbrev FE := Sl → Ou D
abbrev FA := Sl → Ou (List D)
abbrev FT := Sl → Ou Bool
inductive Fl where
  | next | brk | cont | ret (d : D)
abbrev FS := Sl → Ou Fl

/-- the fragment and the world -/
structure Fw where
  f : PySem.W.Frag
  w : World
  cl : Str → Value
instance : CoeOut Fw PySem.W.Frag := ⟨Fw.f⟩
/- a told key -/
mutual
def nkD : D → Option NestedKey
  | .non => some .none | .bl b => some (.num (if b = true then 1 else 0)) | .int i => some (.num i) | .str x => some (.text x)
  | .tup ds => (nkDs ds).map .tup
  | .lst _ => none | .mu _ => none | .fro _ => none | .fdi .. => none | .mdi .. => none | .al _ => none | .exc _ => none | .obj .. => none | .ty _ => none
def nkDs : List D → Option (List NestedKey)
  | [] => some []
  | d :: ds => match nkD d, nkDs ds with
    | some k, some ks => some (k :: ks)
    | _, _ => none
end
/-- a dict with tuple keys, by its entries -/
def ndHO (w : World) (p : Addr) (ep : Nat) (xs : List (NestedKey × Addr × Value)) : HO := .ext fun h => ∃ o es, h.get? p = some o ∧ o.ExactDict ∧ o.data = .dict es ep ∧ es.toList = xs.map fun x => ⟨NestedKey.hash w x.1, .ref x.2.1, x.2.2⟩
/-- what stands where a dict is told: its keys and values -/
inductive DicO (w : World) (p : Addr) : Bool → HO → List D → List V → List V → Prop
  | nd {ep : Nat} {xs : List (NestedKey × Addr × Value)} {ks : List D} {vs : List V} : (p == sysModules) = false → xs.length ≤ sizeLine → (xs.map (·.1)).Nodup → (∀ x ∈ xs, x.1.depth ≤ 8) → Vals vs (xs.map (·.2.2)) → ks.map nkD = xs.map (fun x => some x.1) → DicO w p true (ndHO w p ep xs) ks (xs.map fun x => V.ref x.2.1) vs
  | ik {is : List Int} {vs : List V} : is.Nodup → is.length = vs.length → DicO w p false (.dK ((is.map Sum.inl).zip vs)) (is.map D.int) (is.map V.int) vs
mutual
inductive R (K : Fw) (G H : Hp) : V → D → List Addr → Prop
  | non : R K G H .non .non []
  | bl (b : Bool) : R K G H (.bl b) (.bl b) []
  | int (i : Int) : R K G H (.int i) (.int i) []
  | str (x : Str) : R K G H (.str x) (.str x) []
  | ty (n : String) : R K G H (.ty n) (.ty n) []
  | pin {a : Addr} {u : HO} : G a = some u → R K G H (.ref a) (.exc u) []
  | kx {a : Addr} {c : Str} : G a = some (KeptO (K.cl c) a) → R K G H (.ref a) (.obj c [] []) []
  | kc {C : Addr} {c : Str} : K.cl c = .ref C → R K G H (.ref C) (.obj c ["C"] []) []
  | tup {a : Addr} {xs : List V} {ds : List D} {L : List Addr} : G a = some (.tup xs) → Rs K G H xs ds L → R K G H (.ref a) (.tup ds) L
  | lst {a : Addr} {xs : List V} {ds : List D} : G a = some (.lst xs) → Rs K G H xs ds [] → R K G H (.ref a) (.lst ds) []
  | fro {a : Addr} {xs : List V} {ds : List D} : SqL K G a xs → Rs K G H xs ds [] → R K G H (.ref a) (.fro ds) []
  | mu {p : Addr} {xs : List V} {ds : List D} {L : List Addr} : H p = some (.lst xs) → G p = none → Rs K G H xs ds L → R K G H (.ref p) (.mu ds) (p :: L)
  | fdi {p : Addr} {n : Bool} {o : HO} {ks ds : List D} {kv vs : List V} : G p = some o → DicO K.w p n o ks kv vs → Rs K G H kv ks [] → Rs K G H vs ds [] → R K G H (.ref p) (.fdi n ks ds) []
  | mdi {p : Addr} {n : Bool} {o : HO} {ks ds : List D} {kv vs : List V} {L : List Addr} : H p = some o → G p = none → DicO K.w p n o ks kv vs → Rs K G H kv ks [] → Rs K G H vs ds L → R K G H (.ref p) (.mdi n ks ds) (p :: L)
inductive Rs (K : Fw) (G H : Hp) : List V → List D → List Addr → Prop
  | nil : Rs K G H [] [] []
  | cons {v : V} {d : D} {L : List Addr} {vs : List V} {ds : List D} {L' : List Addr} : R K G H v d L → Rs K G H vs ds L' → Rs K G H (v :: vs) (d :: ds) (L ++ L')
end

theorem sq_l {K : PySem.W.Frag} {H H' : Hp} {a : Addr} {xs : List V} (e : Same H H') (h : SqL K H a xs) : SqL K H' a xs := e.seq h
theorem sq_t {K : PySem.W.Frag} {H H' : Hp} {a : Addr} {xs : List V} (e : Same H H') (h : SqT K H a xs) : SqT K H' a xs := by
  rcases h with (h | ⟨o, h⟩) | h
  · exact .inl (.inl (e _ _ h))
  · exact .inl (.inr ⟨o, e _ _ h⟩)
  · exact .inr h

section
variable {K : Fw} {G G' H H' : Hp}
mutual
/-- what is borne is borne further: the known part grows, what is owned stays -/
theorem R.mono (eg : Same G G') : ∀ {v : V} {d : D} {L : List Addr}, R K G H v d L → (∀ a ∈ L, H' a = H a ∧ G' a = none) → R K G' H' v d L
  | _, _, _, .non, _ => .non
  | _, _, _, .bl b, _ => .bl b
  | _, _, _, .int i, _ => .int i
  | _, _, _, .str x, _ => .str x
  | _, _, _, .ty x, _ => .ty x
  | _, _, _, .pin q, _ => .pin (eg _ _ q)
  | _, _, _, .kx q, _ => .kx (eg _ _ q)
  | _, _, _, .kc q, _ => .kc q
  | _, _, _, .tup q r, h => .tup (eg _ _ q) (Rs.mono eg r h)
  | _, _, _, .lst q r, h => .lst (eg _ _ q) (Rs.mono eg r h)
  | _, _, _, .fro q r, h => .fro (sq_l eg q) (Rs.mono eg r h)
  | _, _, _, .mu e n r, h => .mu ((h _ List.mem_cons_self).1.trans e) (h _ List.mem_cons_self).2 (Rs.mono eg r fun a ha => h a (List.mem_cons_of_mem _ ha))
  | _, _, _, .fdi q o k r, h => .fdi (eg _ _ q) o (Rs.mono eg k fun _ z => nomatch z) (Rs.mono eg r h)
  | _, _, _, .mdi e n o k r, h => .mdi ((h _ List.mem_cons_self).1.trans e) (h _ List.mem_cons_self).2 o (Rs.mono eg k fun _ z => nomatch z) (Rs.mono eg r fun a ha => h a (List.mem_cons_of_mem _ ha))
theorem Rs.mono (eg : Same G G') : ∀ {vs : List V} {ds : List D} {L : List Addr}, Rs K G H vs ds L → (∀ a ∈ L, H' a = H a ∧ G' a = none) → Rs K G' H' vs ds L
  | _, _, _, .nil, _ => .nil
  | _, _, _, .cons r t, h => .cons (R.mono eg r fun a ha => h a (List.mem_append_left _ ha)) (Rs.mono eg t fun a ha => h a (List.mem_append_right _ ha))
end
mutual
theorem R.own : ∀ {v : V} {d : D} {L : List Addr}, R K G H v d L → ∀ a ∈ L, G a = none ∧ H a ≠ none
  | _, _, _, .non, _, h => nomatch h
  | _, _, _, .bl b, _, h => nomatch h
  | _, _, _, .int i, _, h => nomatch h
  | _, _, _, .str x, _, h => nomatch h
  | _, _, _, .ty x, _, h => nomatch h
  | _, _, _, .pin _, _, h => nomatch h
  | _, _, _, .kx _, _, h => nomatch h
  | _, _, _, .kc _, _, h => nomatch h
  | _, _, _, .tup q r, a, h => Rs.own r a h
  | _, _, _, .lst q r, a, h => nomatch h
  | _, _, _, .fro q r, a, h => nomatch h
  | _, _, _, .mu e n r, a, h => by
    rcases List.mem_cons.mp h with h | h
    · rw [h]; exact ⟨n, by rw [e]; exact fun z => nomatch z⟩
    · exact Rs.own r a h
  | _, _, _, .fdi q o k r, a, h => nomatch h
  | _, _, _, .mdi e n o k r, a, h => by
    rcases List.mem_cons.mp h with h | h
    · rw [h]; exact ⟨n, by rw [e]; exact fun z => nomatch z⟩
    · exact Rs.own r a h
theorem Rs.own : ∀ {vs : List V} {ds : List D} {L : List Addr}, Rs K G H vs ds L → ∀ a ∈ L, G a = none ∧ H a ≠ none
  | _, _, _, .nil, _, h => nomatch h
  | _, _, _, .cons r t, a, h => by
    rcases List.mem_append.mp h with h | h
    · exact R.own r a h
    · exact Rs.own t a h
end
theorem Rs.length {vs : List V} {ds : List D} {L : List Addr} (r : Rs K G H vs ds L) : vs.length = ds.length := by
  induction vs generalizing ds L with
  | nil => cases r; rfl
  | cons v vs ih => cases r with | cons r t => simp [ih t]
theorem Rs.get : ∀ {vs : List V} {ds : List D} {L : List Addr} {i : Nat} {v : V}, Rs K G H vs ds L → vs[i]? = some v → ∃ d Li, ds[i]? = some d ∧ R K G H v d Li ∧ Li.Sublist L
  | _, _, _, i, v, .nil, e => by simp at e
  | _, _, _, 0, v, .cons (L := L) (L' := L') r t, e => by
    simp at e; subst e
    exact ⟨_, L, rfl, r, List.sublist_append_left _ _⟩
  | _, _, _, i + 1, v, .cons (L := L) (L' := L') r t, e => by
    obtain ⟨d, Li, h1, h2, h3⟩ := Rs.get (i := i) (v := v) t (by simpa using e)
    exact ⟨d, Li, by simpa using h1, h2, h3.trans (List.sublist_append_right _ _)⟩
theorem Rs.getD : ∀ {vs : List V} {ds : List D} {L : List Addr} {i : Nat} {d : D}, Rs K G H vs ds L → ds[i]? = some d → ∃ v Li, vs[i]? = some v ∧ R K G H v d Li ∧ Li.Sublist L
  | _, _, _, i, v, .nil, e => by simp at e
  | _, _, _, 0, v, .cons (L := L) (L' := L') r t, e => by
    simp at e; subst e
    exact ⟨_, L, rfl, r, List.sublist_append_left _ _⟩
  | _, _, _, i + 1, v, .cons (L := L) (L' := L') r t, e => by
    obtain ⟨d, Li, h1, h2, h3⟩ := Rs.getD (i := i) (d := v) t (by simpa using e)
    exact ⟨d, Li, by simpa using h1, h2, h3.trans (List.sublist_append_right _ _)⟩
theorem Rs.app : ∀ {vs ws : List V} {ds es : List D} {L M : List Addr}, Rs K G H vs ds L → Rs K G H ws es M → Rs K G H (vs ++ ws) (ds ++ es) (L ++ M)
  | _, _, _, _, _, _, .nil, s => s
  | _, _, _, _, _, _, .cons r t, s => by
    rw [List.append_assoc]
    exact .cons r (Rs.app t s)
theorem Rs.one {v : V} {d : D} {L : List Addr} (r : R K G H v d L) : Rs K G H [v] [d] L := by
  have := Rs.cons r (Rs.nil (K := K) (G := G) (H := H))
  simpa using this
/-- nothing owned: each item, by places -/
theorem Rs.nil_get {vs : List V} {ds : List D} {i : Nat} {v : V} {d : D} (r : Rs K G H vs ds []) (e1 : vs[i]? = some v) (e2 : ds[i]? = some d) : R K G H v d [] := by
  obtain ⟨d', Li, h1, h2, h3⟩ := r.get e1
  rw [e2] at h1; cases h1
  rw [List.sublist_nil.mp h3] at h2
  exact h2
end

/-! ### freezing -/
mutual
def fz : D → D
  | .mu ds => .lst (fzs ds)
  | .tup ds => .tup (fzs ds)
  | .non => .non | .bl b => .bl b | .int i => .int i | .str x => .str x | .lst ds => .lst ds | .fro ds => .fro ds | .fdi n ks vs => .fdi n ks vs | .mdi n ks vs => .fdi n ks (fzs vs) | .al i => .al i | .exc c => .exc c | .obj c fs vs => .obj c fs vs | .ty n => .ty n
def fzs : List D → List D
  | [] => []
  | d :: ds => fz d :: fzs ds
end
theorem fzs_map : ∀ ds : List D, fzs ds = ds.map fz
  | [] => by simp [fzs]
  | d :: ds => by simp [fzs, fzs_map ds]
/-- G with what is owned -/
def grab (G H : Hp) (L : List Addr) : Hp := fun a => if a ∈ L then H a else G a
theorem grab_same {G H : Hp} {L : List Addr} (h : ∀ a ∈ L, G a = none) : Same G (grab G H L) := fun a o e => by
  unfold grab
  by_cases m : a ∈ L
  · rw [h a m] at e; cases e
  · rw [if_neg m]; exact e
theorem grab_in {G H : Hp} {L : List Addr} {a : Addr} (h : a ∈ L) : grab G H L a = H a := if_pos h
theorem grab_out {G H : Hp} {L : List Addr} {a : Addr} (h : a ∉ L) : grab G H L a = G a := if_neg h
section
variable {K : Fw} {G G' H H' : Hp}
mutual
theorem R.fz (eg : Same G G') : ∀ {v : V} {d : D} {L : List Addr}, R K G H v d L → (∀ a ∈ L, G' a = H a) → R K G' H v (fz d) []
  | _, _, _, .non, _ => by rw [Ab.fz]; exact .non
  | _, _, _, .bl b, _ => by rw [Ab.fz]; exact .bl b
  | _, _, _, .int i, _ => by rw [Ab.fz]; exact .int i
  | _, _, _, .str x, _ => by rw [Ab.fz]; exact .str x
  | _, _, _, .ty x, _ => by rw [Ab.fz]; exact .ty x
  | _, _, _, .pin q, _ => by rw [Ab.fz]; exact .pin (eg _ _ q)
  | _, _, _, .kx q, _ => by rw [Ab.fz]; exact .kx (eg _ _ q)
  | _, _, _, .kc q, _ => by rw [Ab.fz]; exact .kc q
  | _, _, _, .tup q r, h => by rw [Ab.fz]; exact .tup (eg _ _ q) (Rs.fzs eg r h)
  | _, _, _, .lst q r, h => by rw [Ab.fz]; exact .lst (eg _ _ q) (Rs.mono eg r fun _ z => nomatch z)
  | _, _, _, .fro q r, h => by rw [Ab.fz]; exact .fro (sq_l eg q) (Rs.mono eg r fun _ z => nomatch z)
  | _, _, _, .mu e n r, h => by
    rw [Ab.fz]
    exact .lst ((h _ List.mem_cons_self).trans e) (Rs.fzs eg r fun a ha => h a (List.mem_cons_of_mem _ ha))
  | _, _, _, .fdi q o k r, h => by rw [Ab.fz]; exact .fdi (eg _ _ q) o (Rs.mono eg k fun _ z => nomatch z) (Rs.mono eg r fun _ z => nomatch z)
  | _, _, _, .mdi e n o k r, h => by
    rw [Ab.fz]
    exact .fdi ((h _ List.mem_cons_self).trans e) o (Rs.mono eg k fun _ z => nomatch z) (Rs.fzs eg r fun a ha => h a (List.mem_cons_of_mem _ ha))
theorem Rs.fzs (eg : Same G G') : ∀ {vs : List V} {ds : List D} {L : List Addr}, Rs K G H vs ds L → (∀ a ∈ L, G' a = H a) → Rs K G' H vs (fzs ds) []
  | _, _, _, .nil, _ => by rw [Ab.fzs]; exact .nil
  | _, _, _, .cons r t, h => by
    rw [Ab.fzs]
    exact Rs.cons (R.fz eg r fun a ha => h a (List.mem_append_left _ ha)) (Rs.fzs eg t fun a ha => h a (List.mem_append_right _ ha))
end
end

/-! ### slots, temporaries -/
structure Bs where
  G : Hp
  H : Hp
  ex : List Addr
section
variable (K : Fw)
inductive Sls (G H : Hp) : L2.St → Sl → List Addr → Prop
  | nil : Sls G H [] [] []
  | skip {o : Option V} {σ : L2.St} {A : Sl} {L : List Addr} : Sls G H σ A L → Sls G H (o :: σ) (none :: A) L
  | cons {v : V} {d : D} {L L' : List Addr} {σ : L2.St} {A : Sl} : R K G H v d L → Sls G H σ A L' → Sls G H (some v :: σ) (some d :: A) (L ++ L')
abbrev Ts := List (V × D)
inductive Tms (σ : L2.St) (G H : Hp) : Ts → List Addr → Prop
  | nil : Tms σ G H [] []
  | cons {v : V} {d : D} {L L' : List Addr} {ts : Ts} : R K G H v d L → Tms σ G H ts L' → Tms σ G H ((v, d) :: ts) (L ++ L')
  | al {v : V} {i : Nat} {L : List Addr} {ts : Ts} : σ[i]? = some (some v) → Tms σ G H ts L → Tms σ G H ((v, .al i) :: ts) L
/-- the ground: what is known, what stood at the entry -/
structure Gd (B : Bs) (G H : Hp) : Prop where
  gh : Same G H
  bg : Same B.G G
  bh : ∀ a o, a ∉ B.ex → B.H a = some o → H a = some o
  sep : ∀ a, a ∉ B.ex → B.H a ≠ none → B.G a = none → G a = none
  alive : ∀ a ∈ B.ex, H a ≠ none
def Own (B : Bs) (a : Addr) : Prop := B.H a = none ∨ a ∈ B.ex
/-- the state bears what is told -/
def Abs (B : Bs) (σ : L2.St) (A : Sl) (ts : Ts) (H : Hp) : Prop :=
  ∃ G L1 L2, Gd B G H ∧ Tms K σ G H ts L1 ∧ Sls K G H σ A L2 ∧ (L1 ++ L2).Nodup ∧ ∀ a ∈ L1 ++ L2, Own B a
end
section
variable {K : Fw} {B : Bs} {G G' H H' : Hp} {σ : L2.St} {A : Sl} {ts : Ts} {L : List Addr}
theorem Sls.mono (eg : Same G G') (s : Sls K G H σ A L) (h : ∀ a ∈ L, H' a = H a ∧ G' a = none) : Sls K G' H' σ A L := by
  induction s with
  | nil => exact .nil
  | skip _ ih => exact .skip (ih h)
  | cons r _ ih => exact .cons (r.mono eg fun a ha => h a (List.mem_append_left _ ha)) (ih fun a ha => h a (List.mem_append_right _ ha))
theorem Tms.mono (eg : Same G G') (s : Tms K σ G H ts L) (h : ∀ a ∈ L, H' a = H a ∧ G' a = none) : Tms K σ G' H' ts L := by
  induction s with
  | nil => exact .nil
  | al e _ ih => exact .al e (ih h)
  | cons r _ ih => exact .cons (r.mono eg fun a ha => h a (List.mem_append_left _ ha)) (ih fun a ha => h a (List.mem_append_right _ ha))
theorem Sls.own (s : Sls K G H σ A L) : ∀ a ∈ L, G a = none ∧ H a ≠ none := by
  induction s with
  | nil => exact fun _ h => nomatch h
  | skip _ ih => exact ih
  | cons r _ ih => exact fun a ha => (List.mem_append.mp ha).elim (r.own a) (ih a)
theorem Tms.own (s : Tms K σ G H ts L) : ∀ a ∈ L, G a = none ∧ H a ≠ none := by
  induction s with
  | nil => exact fun _ h => nomatch h
  | al _ _ ih => exact ih
  | cons r _ ih => exact fun a ha => (List.mem_append.mp ha).elim (r.own a) (ih a)
theorem Sls.len (s : Sls K G H σ A L) : σ.length = A.length := by
  induction s with
  | nil => rfl
  | skip _ ih => simp [ih]
  | cons _ _ ih => simp [ih]
/-- one slot taken out -/
theorem Sls.take {i : Nat} {d : D} (s : Sls K G H σ A L) (e : A[i]? = some (some d)) : ∃ v Li L', σ[i]? = some (some v) ∧ R K G H v d Li ∧ Sls K G H σ (A.set i none) L' ∧ L.Perm (Li ++ L') := by
  induction s generalizing i with
  | nil => simp at e
  | skip s ih =>
    cases i with
    | zero => simp at e
    | succ i =>
      obtain ⟨v, Li, L', h1, h2, h3, h4⟩ := ih (by simpa using e)
      exact ⟨v, Li, L', by simpa using h1, h2, by simpa using Sls.skip h3, h4⟩
  | cons r s ih =>
    rename_i v0 d0 L0 L1 σ0 A0
    cases i with
    | zero =>
      simp at e; subst e
      exact ⟨v0, L0, L1, rfl, r, by simpa using Sls.skip s, .refl _⟩
    | succ i =>
      obtain ⟨v, Li, L', h1, h2, h3, h4⟩ := ih (by simpa using e)
      refine ⟨v, Li, L0 ++ L', by simpa using h1, h2, by simpa using Sls.cons r h3, ?_⟩
      refine (List.Perm.append_left _ h4).trans ?_
      rw [← List.append_assoc, ← List.append_assoc]
      exact List.Perm.append_right _ List.perm_append_comm
/-- a slot's telling forgotten -/
theorem Sls.drop {i : Nat} (s : Sls K G H σ A L) : ∃ L', Sls K G H σ (A.set i none) L' ∧ L'.Sublist L := by
  induction s generalizing i with
  | nil => exact ⟨[], by simpa using Sls.nil, .refl _⟩
  | skip s ih =>
    cases i with
    | zero => exact ⟨_, by simpa using Sls.skip s, .refl _⟩
    | succ i =>
      obtain ⟨L', h1, h2⟩ := ih (i := i)
      exact ⟨L', by simpa using Sls.skip h1, h2⟩
  | cons r s ih =>
    rename_i v0 d0 L0 L1 σ0 A0
    cases i with
    | zero => exact ⟨L1, by simpa using Sls.skip s, List.sublist_append_right _ _⟩
    | succ i =>
      obtain ⟨L', h1, h2⟩ := ih (i := i)
      exact ⟨L0 ++ L', by simpa using Sls.cons r h1, List.Sublist.append_left h2 _⟩
/-- a slot that is told nothing of may hold anything -/
theorem Sls.any {i : Nat} {o : Option V} (s : Sls K G H σ A L) (e : A[i]? = some none ∨ A[i]? = none) : Sls K G H (σ.set i o) A L := by
  induction s generalizing i with
  | nil => simpa using Sls.nil
  | skip s ih =>
    cases i with
    | zero => simpa using Sls.skip s
    | succ i => simpa using Sls.skip (ih (i := i) (by simpa using e))
  | cons r s ih =>
    cases i with
    | zero => simp at e
    | succ i => simpa using Sls.cons r (ih (i := i) (by simpa using e))
/-- an untold slot is told -/
theorem Sls.put {i : Nat} {v : V} {d : D} {Li : List Addr} (s : Sls K G H σ A L) (e : A[i]? = some none) (ev : σ[i]? = some (some v)) (r : R K G H v d Li) : ∃ L', Sls K G H σ (A.set i (some d)) L' ∧ L'.Perm (Li ++ L) := by
  induction s generalizing i with
  | nil => simp at e
  | skip s ih =>
    cases i with
    | zero =>
      simp at ev; subst ev
      exact ⟨_, by simpa using Sls.cons r s, .refl _⟩
    | succ i =>
      obtain ⟨L', h1, h2⟩ := ih (i := i) (by simpa using e) (by simpa using ev)
      exact ⟨L', by simpa using Sls.skip h1, h2⟩
  | cons r0 s ih =>
    rename_i v0 d0 L0 L1 σ0 A0
    cases i with
    | zero => simp at e
    | succ i =>
      obtain ⟨L', h1, h2⟩ := ih (i := i) (by simpa using e) (by simpa using ev)
      refine ⟨L0 ++ L', by simpa using Sls.cons r0 h1, ?_⟩
      refine (List.Perm.append_left _ h2).trans ?_
      rw [← List.append_assoc, ← List.append_assoc]
      exact List.Perm.append_right _ List.perm_append_comm
/-! ### what a telling lets one do -/
/- no parts that are owned -/
mutual
def isF : D → Bool
  | .tup ds => isFs ds
  | .non => true | .bl _ => true | .int _ => true | .str _ => true | .ty _ => true | .lst _ => true | .fro _ => true
  | .fdi .. => true | .mu _ => false | .mdi .. => false | .al _ => false | .exc _ => false | .obj _ _ vs => vs.isEmpty
def isFs : List D → Bool
  | [] => true
  | d :: ds => isF d && isFs ds
end
theorem isFs_all : ∀ ds : List D, isFs ds = ds.all isF
  | [] => by simp [isFs]
  | d :: ds => by simp [isFs, isFs_all ds]
mutual
theorem R.isF : ∀ {v : V} {d : D} {L : List Addr}, R K G H v d L → isF d = true → L = []
  | _, _, _, .non, _ => rfl
  | _, _, _, .bl b, _ => rfl
  | _, _, _, .int i, _ => rfl
  | _, _, _, .str x, _ => rfl
  | _, _, _, .ty x, _ => rfl
  | _, _, _, .tup q r, h => Rs.isFs r (by rw [Ab.isF] at h; exact h)
  | _, _, _, .kx _, _ => rfl
  | _, _, _, .kc _, _ => rfl
  | _, _, _, .lst q r, h => rfl
  | _, _, _, .fro q r, h => rfl
  | _, _, _, .mu e n r, h => by rw [Ab.isF] at h; cases h
  | _, _, _, .fdi q o k r, h => rfl
  | _, _, _, .mdi e n o k r, h => by rw [Ab.isF] at h; cases h
theorem Rs.isFs : ∀ {vs : List V} {ds : List D} {L : List Addr}, Rs K G H vs ds L → isFs ds = true → L = []
  | _, _, _, .nil, _ => rfl
  | _, _, _, .cons r t, h => by
    rw [Ab.isFs, Bool.and_eq_true] at h
    rw [R.isF r h.1, Rs.isFs t h.2]; rfl
end
/-- not changed by the state: it is told of what is known alone -/
theorem R.free (eg : Same G G') {v : V} {d : D} (r : R K G H v d []) : R K G' H' v d [] := r.mono eg fun _ h => nomatch h
theorem Rs.free (eg : Same G G') {v : List V} {d : List D} (r : Rs K G H v d []) : Rs K G' H' v d [] := r.mono eg fun _ h => nomatch h
theorem Abs.drop {p : V × D} (h : Abs K B σ A (p :: ts) H) : Abs K B σ A ts H := by
  obtain ⟨G, L1, L2, gd, tm, sl, nd, ow⟩ := h
  cases tm with
  | cons r t =>
    rename_i La Lb
    refine ⟨G, Lb, L2, gd, t, sl, ?_, fun a ha => ow a ?_⟩
    · rw [List.append_assoc] at nd; exact (List.nodup_append.mp nd).2.1
    · rw [List.append_assoc]; exact List.mem_append_right _ ha
  | al e t => exact ⟨G, L1, L2, gd, t, sl, nd, ow⟩
theorem Abs.dropn {ps : Ts} (h : Abs K B σ A (ps ++ ts) H) : Abs K B σ A ts H := by
  induction ps with
  | nil => exact h
  | cons p ps ih => exact ih h.drop
/-- a value that is borne at every ground -/
theorem Abs.scal {v : V} {d : D} (h : Abs K B σ A ts H) (r : ∀ G, R K G H v d []) : Abs K B σ A ((v, d) :: ts) H := by
  obtain ⟨G, L1, L2, gd, tm, sl, nd, ow⟩ := h
  exact ⟨G, L1, L2, gd, by simpa using Tms.cons (r G) tm, sl, nd, ow⟩
/-- in another order -/
theorem Tms.perm {ts' : Ts} (p : ts.Perm ts') : ∀ {L : List Addr}, Tms K σ G H ts L → ∃ L', Tms K σ G H ts' L' ∧ L.Perm L' := by
  induction p with
  | nil => exact fun {L} t => ⟨L, t, .refl _⟩
  | cons x _ ih =>
    intro L t
    cases t with
    | cons r t =>
      obtain ⟨L', h1, h2⟩ := ih t
      exact ⟨_, .cons r h1, List.Perm.append_left _ h2⟩
    | al e t =>
      obtain ⟨L', h1, h2⟩ := ih t
      exact ⟨_, .al e h1, h2⟩
  | swap x y l =>
    intro L t
    cases t with
    | cons r t =>
      cases t with
      | cons r' t =>
        rename_i La _ Lb Lc
        refine ⟨_, .cons r' (.cons r t), ?_⟩
        rw [← List.append_assoc, ← List.append_assoc]
        exact List.Perm.append_right _ List.perm_append_comm
      | al e t => exact ⟨_, .al e (.cons r t), .refl _⟩
    | al e t =>
      cases t with
      | cons r' t => exact ⟨_, .cons r' (.al e t), .refl _⟩
      | al e' t => exact ⟨_, .al e' (.al e t), .refl _⟩
  | trans _ _ ih1 ih2 =>
    intro L t
    obtain ⟨L1, h1, p1⟩ := ih1 t
    obtain ⟨L2, h2, p2⟩ := ih2 h1
    exact ⟨L2, h2, p1.trans p2⟩
theorem nodup_perm {L L' : List Addr} (p : L.Perm L') (h : L.Nodup) : L'.Nodup := p.nodup_iff.mp h
theorem Abs.perm {ts' : Ts} (p : ts.Perm ts') (h : Abs K B σ A ts H) : Abs K B σ A ts' H := by
  obtain ⟨G, L1, L2, gd, tm, sl, nd, ow⟩ := h
  obtain ⟨L', tm', q⟩ := tm.perm p
  have qq : (L1 ++ L2).Perm (L' ++ L2) := List.Perm.append_right _ q
  exact ⟨G, L', L2, gd, tm', sl, nodup_perm qq nd, fun a ha => ow a (qq.mem_iff.mpr ha)⟩
/-- a value laid behind a step that changes nothing that stood -/
theorem step_core {v : V} {d : D} {H' : Hp} {L1 L2 : List Addr} (gd : Gd B G H) (tm : Tms K σ G H ts L1) (sl : Sls K G H σ A L2) (nd : (L1 ++ L2).Nodup) (ow : ∀ a ∈ L1 ++ L2, Own B a) (he : Same H H')
    (g1 : Same G G') (g2 : Same G' H') (g3 : ∀ a, H a ≠ none → G a = none → G' a = none) (r : R K G' H' v d L) (rn : L.Nodup) (rf : ∀ a ∈ L, H a = none) : Abs K B σ A ((v, d) :: ts) H' := by
  have old : ∀ a ∈ L1 ++ L2, G a = none ∧ H a ≠ none := fun a ha => (List.mem_append.mp ha).elim (tm.own a) (sl.own a)
  have keep : ∀ a ∈ L1 ++ L2, H' a = H a ∧ G' a = none := fun a ha => by
    obtain ⟨n1, n2⟩ := old a ha
    refine ⟨?_, g3 a n2 n1⟩
    cases q : H a with
    | none => exact absurd q n2
    | some o => exact he a o q
  have hn : ∀ a, H a = none → a ∉ B.ex → B.H a = none := fun a e hx => by
    cases q : B.H a with
    | none => rfl
    | some o => rw [gd.bh a o hx q] at e; cases e
  have dj : ∀ a ∈ L, a ∉ L1 ++ L2 := fun a ha hb => (old a hb).2 (rf a ha)
  refine ⟨G', L ++ L1, L2, ⟨g2, gd.bg.trans g1, fun a o hx e => he a o (gd.bh a o hx e), fun a hx e1 e2 => ?_, fun a ha => ?_⟩, .cons r (tm.mono g1 fun a ha => keep a (List.mem_append_left _ ha)), sl.mono g1 fun a ha => keep a (List.mem_append_right _ ha), ?_, fun a ha => ?_⟩
  · refine g3 a ?_ (gd.sep a hx e1 e2)
    cases q : B.H a with
    | none => exact absurd q e1
    | some o => rw [gd.bh a o hx q]; exact fun z => nomatch z
  · have := gd.alive a ha
    cases q : H a with
    | none => exact absurd q this
    | some o => rw [he a o q]; exact fun z => nomatch z
  · rw [List.append_assoc]
    exact List.nodup_append.mpr ⟨rn, nd, fun a ha b hb e => dj a ha (e ▸ hb)⟩
  · rw [List.append_assoc] at ha
    rcases List.mem_append.mp ha with m | m
    · by_cases hx : a ∈ B.ex
      · exact .inr hx
      · exact .inl (hn a (rf a m) hx)
    · exact ow a m
theorem Abs.step {v : V} {d : D} {H' : Hp} (h : Abs K B σ A ts H) (he : Same H H')
    (new : ∀ G, Same G H → ∃ G' L, Same G G' ∧ Same G' H' ∧ (∀ a, H a ≠ none → G a = none → G' a = none) ∧ R K G' H' v d L ∧ L.Nodup ∧ ∀ a ∈ L, H a = none) : Abs K B σ A ((v, d) :: ts) H' := by
  obtain ⟨G, L1, L2, gd, tm, sl, nd, ow⟩ := h
  obtain ⟨G', L, g1, g2, g3, r, rn, rf⟩ := new G gd.gh
  exact step_core gd tm sl nd ow he g1 g2 g3 r rn rf
/-- .. the value wants temporaries that it takes up -/
theorem Abs.same {H' : Hp} (h : Abs K B σ A ts H) (he : Same H H') : Abs K B σ A ts H' := by
  refine (h.step (v := .non) (d := .non) he fun G g => ⟨G, [], fun _ _ e => e, fun a o e => he a o (g a o e), fun _ _ e => e, .non, List.nodup_nil, fun _ z => nomatch z⟩).drop
theorem same_new {H : Hp} {p : Addr} {o : HO} (h : H p = none) : Same H (upd H p o) := fun b x e => by
  rw [upd_ne (ne_of_none e h)]; exact e
/-! ### freezing, packing, moving -/
/-- what is owned by L (of the ground's own) is known from now on -/
theorem Gd.grab {L1 : List Addr} (gd : Gd B G H) (h1 : ∀ a ∈ L1, G a = none ∧ H a ≠ none) (ow : ∀ a ∈ L1, Own B a) : Gd B (grab G H L1) H := by
  refine ⟨fun a o e => ?_, gd.bg.trans (grab_same fun a ha => (h1 a ha).1), gd.bh, fun a hx e1 e2 => ?_, gd.alive⟩
  · by_cases m : a ∈ L1
    · rw [grab_in m] at e; exact e
    · rw [grab_out m] at e; exact gd.gh a o e
  · have m : a ∉ L1 := fun m => (ow a m).elim e1 hx
    rw [grab_out m]; exact gd.sep a hx e1 e2
theorem grab_keep {L1 : List Addr} {a : Addr} (h : a ∉ L1) (n : G a = none) : grab G H L1 a = none := by rw [grab_out h]; exact n
/-- a temporary frozen -/
theorem Abs.fz {v : V} {d : D} (h : Abs K B σ A ((v, d) :: ts) H) (hd : ∀ i, d ≠ .al i) : Abs K B σ A ((v, Ab.fz d) :: ts) H := by
  obtain ⟨G, L1, L2, gd, tm, sl, nd, ow⟩ := h
  cases tm with
  | al e t => exact absurd rfl (hd _)
  | cons r t =>
    rename_i La Lb
    have oa : ∀ a ∈ La, G a = none ∧ H a ≠ none := r.own
    have g1 : Same G (grab G H La) := grab_same fun a ha => (oa a ha).1
    have ap : ∀ a ∈ Lb ++ L2, a ∉ La := fun a ha hb => by
      rw [List.append_assoc] at nd
      exact (List.nodup_append.mp nd).2.2 a hb a ha rfl
    have gd' := gd.grab oa fun a ha => ow a (List.mem_append_left _ (List.mem_append_left _ ha))
    refine ⟨grab G H La, Lb, L2, gd', ?_, sl.mono g1 fun a ha => ⟨rfl, grab_keep (ap a (List.mem_append_right _ ha)) (sl.own a ha).1⟩, ?_, fun a ha => ow a ?_⟩
    · have t' : Tms K σ (grab G H La) H ts Lb := t.mono g1 fun a ha => ⟨rfl, grab_keep (ap a (List.mem_append_left _ ha)) (t.own a ha).1⟩
      simpa using Tms.cons (r.fz g1 fun a ha => grab_in ha) t'
    · rw [List.append_assoc] at nd; exact (List.nodup_append.mp nd).2.1
    · rw [List.append_assoc]; exact List.mem_append_right _ ha
/-- what a slot owns is frozen -/
theorem Abs.frz {v : V} {d : D} {i : Nat} (h : Abs K B σ A ((v, .al i) :: ts) H) (e : A[i]? = some (some d)) : Abs K B σ (A.set i (some (Ab.fz d))) ((v, Ab.fz d) :: ts) H := by
  obtain ⟨G, L1, L2, gd, tm, sl, nd, ow⟩ := h
  cases tm with
  | cons r t => exact nomatch r
  | al e1 t =>
    obtain ⟨v', Li, L', e2, r, s2, p⟩ := sl.take e
    rw [e1] at e2; cases e2
    have oa : ∀ a ∈ Li, G a = none ∧ H a ≠ none := r.own
    have g1 : Same G (grab G H Li) := grab_same fun a ha => (oa a ha).1
    have pp : (L1 ++ L2).Perm (Li ++ (L1 ++ L')) := by
      refine (List.Perm.append_left _ p).trans ?_
      rw [← List.append_assoc, ← List.append_assoc]
      exact List.Perm.append_right _ List.perm_append_comm
    have nd' := nodup_perm pp nd
    have ap : ∀ a ∈ L1 ++ L', a ∉ Li := fun a ha hb => (List.nodup_append.mp nd').2.2 a hb a ha rfl
    have gd' := gd.grab oa fun a ha => ow a (pp.mem_iff.mpr (List.mem_append_left _ ha))
    have rf : R K (grab G H Li) H v (Ab.fz d) [] := r.fz g1 fun a ha => grab_in ha
    have s3 : Sls K (grab G H Li) H σ (A.set i none) L' := s2.mono g1 fun a ha => ⟨rfl, grab_keep (ap a (List.mem_append_right _ ha)) (s2.own a ha).1⟩
    have hi : i < A.length := (List.getElem?_eq_some_iff.mp e).1
    obtain ⟨L3, s4, p4⟩ := s3.put (i := i) (d := Ab.fz d) (by simp [hi]) e1 rf
    rw [List.set_set] at s4
    have t' : Tms K σ (grab G H Li) H ts L1 := t.mono g1 fun a ha => ⟨rfl, grab_keep (ap a (List.mem_append_left _ ha)) (t.own a ha).1⟩
    have p5 : (L1 ++ L3).Perm (L1 ++ L') := List.Perm.append_left _ (by simpa using p4)
    refine ⟨grab G H Li, L1, L3, gd', by simpa using Tms.cons rf t', s4, nodup_perm p5.symm (List.nodup_append.mp nd').2.1, fun a ha => ow a (pp.mem_iff.mpr (List.mem_append_right _ (p5.mem_iff.mp ha)))⟩
/-- what a slot owns is handed out -/
theorem Abs.move {v : V} {d : D} {i : Nat} (h : Abs K B σ A ((v, .al i) :: ts) H) (e : A[i]? = some (some d)) : Abs K B σ (A.set i none) ((v, d) :: ts) H := by
  obtain ⟨G, L1, L2, gd, tm, sl, nd, ow⟩ := h
  cases tm with
  | cons r t => exact nomatch r
  | al e1 t =>
    obtain ⟨v', Li, L', e2, r, s2, p⟩ := sl.take e
    rw [e1] at e2; cases e2
    have pp : (L1 ++ L2).Perm ((Li ++ L1) ++ L') := by
      refine (List.Perm.append_left _ p).trans ?_
      rw [← List.append_assoc]
      exact List.Perm.append_right _ List.perm_append_comm
    exact ⟨G, Li ++ L1, L', gd, .cons r t, s2, nodup_perm pp nd, fun a ha => ow a (pp.mem_iff.mpr ha)⟩
def noAl (ds : List D) : Bool := ds.all fun d => match d with | .al _ => false | _ => true
/-- the temporaries of an argument list -/
theorem Tms.split : ∀ {vs : List V} {ds : List D} {L : List Addr}, vs.length = ds.length → noAl ds = true → Tms K σ G H (vs.zip ds ++ ts) L → ∃ La Lb, Rs K G H vs ds La ∧ Tms K σ G H ts Lb ∧ L = La ++ Lb
  | [], [], L, _, _, t => ⟨[], L, .nil, t, rfl⟩
  | v :: vs, d :: ds, L, hl, hn, t => by
    have hn' : noAl ds = true := by
      unfold noAl at hn ⊢
      rw [List.all_cons, Bool.and_eq_true] at hn
      exact hn.2
    cases t with
    | cons r t =>
      obtain ⟨La, Lb, h1, h2, h3⟩ := Tms.split (by simpa using hl) hn' t
      exact ⟨_, Lb, .cons r h1, h2, by rw [h3, List.append_assoc]⟩
    | al e t =>
      unfold noAl at hn
      rw [List.all_cons, Bool.and_eq_true] at hn
      exact absurd hn.1 (fun z => nomatch z)
  | [], _ :: _, _, hl, _, _ => by simp at hl
  | _ :: _, [], _, hl, _, _ => by simp at hl
/-- a tuple is laid -/
theorem Abs.tup {vs : List V} {ds : List D} {p : Addr} (hl : vs.length = ds.length) (hn : noAl ds = true) (h : Abs K B σ A (vs.zip ds ++ ts) H) (hp : H p = none) : Abs K B σ A ((.ref p, .tup ds) :: ts) (upd H p (.tup vs)) := by
  obtain ⟨G, L1, L2, gd, tm, sl, nd, ow⟩ := h
  obtain ⟨La, Lb, rs, t, rfl⟩ := tm.split hl hn
  have gp : G p = none := by
    cases q : G p with
    | none => rfl
    | some o => rw [gd.gh p o q] at hp; cases hp
  have g1 : Same G (upd G p (.tup vs)) := same_new gp
  have neP : ∀ a, H a ≠ none → a ≠ p := fun a ha z => ha (z ▸ hp)
  have old : ∀ a ∈ (La ++ Lb) ++ L2, G a = none ∧ H a ≠ none := fun a ha => by
    rcases List.mem_append.mp ha with m | m
    · exact (List.mem_append.mp m).elim (rs.own a) (t.own a)
    · exact sl.own a m
  have keep : ∀ a ∈ (La ++ Lb) ++ L2, upd H p (.tup vs) a = H a ∧ upd G p (.tup vs) a = none := fun a ha => ⟨upd_ne (neP a (old a ha).2), by rw [upd_ne (neP a (old a ha).2)]; exact (old a ha).1⟩
  refine ⟨upd G p (.tup vs), La ++ Lb, L2, ⟨fun a o e => ?_, gd.bg.trans g1, fun a o hx e => same_new hp _ _ (gd.bh a o hx e), fun a hx e1 e2 => ?_, fun a ha => ?_⟩, .cons (.tup upd_same (rs.mono g1 fun a ha => keep a (by simp [ha]))) (t.mono g1 fun a ha => keep a (by simp [ha])), sl.mono g1 fun a ha => keep a (by simp [ha]), nd, ow⟩
  · by_cases m : a = p
    · subst m; rw [upd_same] at e ⊢; exact e
    · rw [upd_ne m] at e ⊢; exact gd.gh a o e
  · have : a ≠ p := neP a (by
      cases q : B.H a with
      | none => exact absurd q e1
      | some o => rw [gd.bh a o hx q]; exact fun z => nomatch z)
    rw [upd_ne this]; exact gd.sep a hx e1 e2
  · rw [upd_ne (neP a (gd.alive a ha))]; exact gd.alive a ha
/-- a list is laid -/
theorem Abs.lst {vs : List V} {ds : List D} {p : Addr} (hl : vs.length = ds.length) (hn : noAl ds = true) (h : Abs K B σ A (vs.zip ds ++ ts) H) (hp : H p = none) : Abs K B σ A ((.ref p, .mu ds) :: ts) (upd H p (.lst vs)) := by
  obtain ⟨G, L1, L2, gd, tm, sl, nd, ow⟩ := h
  obtain ⟨La, Lb, rs, t, rfl⟩ := tm.split hl hn
  have gp : G p = none := by
    cases q : G p with
    | none => rfl
    | some o => rw [gd.gh p o q] at hp; cases hp
  have neP : ∀ a, H a ≠ none → a ≠ p := fun a ha z => ha (z ▸ hp)
  have old : ∀ a ∈ (La ++ Lb) ++ L2, G a = none ∧ H a ≠ none := fun a ha => by
    rcases List.mem_append.mp ha with m | m
    · exact (List.mem_append.mp m).elim (rs.own a) (t.own a)
    · exact sl.own a m
  have keep : ∀ a ∈ (La ++ Lb) ++ L2, upd H p (.lst vs) a = H a ∧ G a = none := fun a ha => ⟨upd_ne (neP a (old a ha).2), (old a ha).1⟩
  have np : p ∉ (La ++ Lb) ++ L2 := fun m => (old p m).2 hp
  refine ⟨G, (p :: La) ++ Lb, L2, ⟨fun a o e => same_new hp _ _ (gd.gh a o e), gd.bg, fun a o hx e => same_new hp _ _ (gd.bh a o hx e), gd.sep, fun a ha => ?_⟩, .cons (.mu upd_same gp (rs.mono (fun _ _ e => e) fun a ha => keep a (by simp [ha]))) (t.mono (fun _ _ e => e) fun a ha => keep a (by simp [ha])), sl.mono (fun _ _ e => e) fun a ha => keep a (by simp [ha]), ?_, fun a ha => ?_⟩
  · rw [upd_ne (neP a (gd.alive a ha))]; exact gd.alive a ha
  · exact List.nodup_cons.mpr ⟨np, nd⟩
  · rcases List.mem_cons.mp ha with m | m
    · subst m
      by_cases hx : a ∈ B.ex
      · exact .inr hx
      · refine .inl ?_
        cases q : B.H a with
        | none => rfl
        | some o => rw [gd.bh a o hx q] at hp; cases hp
    · exact ow a m
/-- no temporary is an alias -/
def Cl (ts : Ts) : Prop := ∀ p ∈ ts, ∀ i, p.2 ≠ .al i
theorem Tms.any {σ' : L2.St} (c : Cl ts) (t : Tms K σ G H ts L) : Tms K σ' G H ts L := by
  induction t with
  | nil => exact .nil
  | cons r _ ih => exact .cons r (ih fun p hp => c p (List.mem_cons_of_mem _ hp))
  | al e _ ih => exact absurd rfl (c _ List.mem_cons_self _)
theorem Sls.set {i : Nat} {v : V} {d : D} {Li : List Addr} (s : Sls K G H σ A L) (hi : i < A.length) (r : R K G H v d Li) : ∃ L', Sls K G H (σ.set i (some v)) (A.set i (some d)) L' ∧ ∃ L0, L0.Sublist L ∧ L'.Perm (Li ++ L0) := by
  obtain ⟨L0, s1, h1⟩ := s.drop (i := i)
  have s2 := s1.any (i := i) (o := some v) (.inl (by simp [hi]))
  obtain ⟨L', s3, h3⟩ := s2.put (i := i) (d := d) (by simp [hi]) (by rw [List.getElem?_set_self (by rw [s.len]; exact hi)]) r
  rw [List.set_set] at s3
  exact ⟨L', s3, L0, h1, h3⟩
/-- a temporary goes to a slot -/
theorem Abs.set {i : Nat} {v : V} {d : D} (h : Abs K B σ A ((v, d) :: ts) H) (hd : ∀ j, d ≠ .al j) (c : Cl ts) : Abs K B (σ.set i (some v)) (A.set i (some d)) ts H := by
  obtain ⟨G, L1, L2, gd, tm, sl, nd, ow⟩ := h
  cases tm with
  | al e t => exact absurd rfl (hd _)
  | cons r t =>
    rename_i La Lb
    by_cases hi : i < A.length
    · obtain ⟨L', s', L0, sub, p⟩ := sl.set hi r
      have pp : (Lb ++ L').Perm (La ++ (Lb ++ L0)) := by
        refine (List.Perm.append_left _ p).trans ?_
        rw [← List.append_assoc, ← List.append_assoc]
        exact List.Perm.append_right _ List.perm_append_comm
      have sb : (La ++ (Lb ++ L0)).Sublist ((La ++ Lb) ++ L2) := by
        rw [List.append_assoc]
        exact List.Sublist.append_left (List.Sublist.append_left sub _) _
      exact ⟨G, Lb, L', gd, t.any c, s', nodup_perm pp.symm (sb.nodup nd), fun a ha => ow a (sb.subset (pp.mem_iff.mp ha))⟩
    · have hs : σ.set i (some v) = σ := List.set_eq_of_length_le (by rw [sl.len]; omega)
      have hA : A.set i (some d) = A := List.set_eq_of_length_le (by omega)
      rw [hs, hA]
      refine ⟨G, Lb, L2, gd, t, sl, ?_, fun a ha => ow a ?_⟩
      · rw [List.append_assoc] at nd; exact (List.nodup_append.mp nd).2.1
      · rw [List.append_assoc]; exact List.mem_append_right _ ha
/-- a slot's telling forgotten -/
theorem Abs.forget {i : Nat} (h : Abs K B σ A ts H) : Abs K B σ (A.set i none) ts H := by
  obtain ⟨G, L1, L2, gd, tm, sl, nd, ow⟩ := h
  obtain ⟨L', s, sub⟩ := sl.drop (i := i)
  have sb : (L1 ++ L').Sublist (L1 ++ L2) := List.Sublist.append_left sub _
  exact ⟨G, L1, L', gd, tm, s, sb.nodup nd, fun a ha => ow a (sb.subset ha)⟩
end
end Ab
end
section
namespace Ab
open PySem PySem.Spec PyProof.Rows L2

/-! ### the judgements over what is told -/
structure Z where
  K : Fw
  B : Bs
  cl : Str → Value
  W : WX
abbrev Z.A (z : Z) := Abs z.K z.B
section
variable (z : Z)
def pE (o : Ou D) (σ : L2.St) (ts : Ts) (Q : VK) : Prop := match o with
  | .ok d A' => ∀ v H', z.A σ A' ((v, d) :: ts) H' → Q v H'
  | .exc c A' => ∀ H', z.A σ A' ts H' → z.W (z.cl c) none σ H'
  | .stuck => False
def tE (f : FE) : TE := fun σ H Q => ∃ A ts, z.A σ A ts H ∧ pE z (f A) σ ts Q
def pT (o : Ou Bool) (σ : L2.St) (ts : Ts) (Q : Bool → Hp → Prop) : Prop := match o with
  | .ok b A' => ∀ H', z.A σ A' ts H' → Q b H'
  | .exc c A' => ∀ H', z.A σ A' ts H' → z.W (z.cl c) none σ H'
  | .stuck => False
def tT (f : FT) : TT := fun σ H Q => ∃ A ts, z.A σ A ts H ∧ pT z (f A) σ ts Q
def pA (o : Ou (List D)) (σ : L2.St) (ts : Ts) (Q : List V → Hp → Prop) : Prop := match o with
  | .ok ds A' => ∀ vs H', vs.length = ds.length → z.A σ A' (vs.zip ds ++ ts) H' → Q vs H'
  | .exc c A' => ∀ H', z.A σ A' ts H' → z.W (z.cl c) none σ H'
  | .stuck => False
def tA (f : FA) : L2.TA := fun σ H Q => ∃ A ts, z.A σ A ts H ∧ pA z (f A) σ ts Q
end

section
variable {X : Cx} {e : Expr} {es : List Expr}
theorem PE.imp {t t' : TE} (h : PE X e t) (hi : ∀ σ H Q, t' σ H Q → t σ H Q) : PE X e t' := ⟨fun pins s σ H Q I w => h.run pins s σ H Q I (hi σ H Q w)⟩
theorem PT.imp {t t' : TT} (h : PT X e t) (hi : ∀ σ H Q, t' σ H Q → t σ H Q) : PT X e t' := ⟨fun pins s σ H Q I w => h.run pins s σ H Q I (hi σ H Q w)⟩
theorem PA.imp {t t' : L2.TA} (h : PA X es t) (hi : ∀ σ H Q, t' σ H Q → t σ H Q) : PA X es t' := ⟨fun pos pins s σ H Q I w => h.run pos pins s σ H Q I (hi σ H Q w)⟩
theorem PS.imp {st : Stmt} {t t' : TS} (h : PS X st t) (hi : ∀ D σ H, t' D σ H → t D σ H) : PS X st t' := ⟨fun pins s σ H D I w => h.run pins s σ H D I (hi D σ H w)⟩
theorem PSs.imp {st : List Stmt} {t t' : TS} (h : PSs X st t) (hi : ∀ D σ H, t' D σ H → t D σ H) : PSs X st t' := ⟨fun pins s σ H D I w => h.run pins s σ H D I (hi D σ H w)⟩
end

/-! ### looking at what is told -/
def see (A : Sl) : D → D
  | .al i => match A[i]? with
    | some (some (.al _)) => .al 0
    | some (some d) => d
    | _ => .al 0
  | d => d
@[simp] theorem see_al {A : Sl} {i : Nat} {ds : List D} (h : A[i]? = some (some (.mu ds))) : see A (.al i) = .mu ds := by simp [see, h]
section
variable {K : Fw} {B : Bs} {G G' H H' : Hp} {σ : L2.St} {A : Sl} {ts : Ts} {L : List Addr} {v u : V} {d e : D}
theorem R.not_al {i : Nat} (r : R K G H v (.al i) L) : False := nomatch r
theorem R.see (r : R K G H v d L) : see A d = d := by cases r <;> rfl
theorem Tms.look (t : Tms K σ G H ((v, d) :: ts) L) {L2 : List Addr} (s : Sls K G H σ A L2) (hn : ∀ j, see A d ≠ .al j) : ∃ L', R K G H v (see A d) L' := by
  cases t with
  | cons r t => exact ⟨_, by rw [r.see]; exact r⟩
  | al e t =>
    rename_i i
    have key : ∃ d', A[i]? = some (some d') ∧ Ab.see A (.al i) = d' := by
      have e0 : Ab.see A (.al i) = (match A[i]? with | some (some (.al _)) => D.al 0 | some (some d) => d | _ => .al 0) := rfl
      cases q : A[i]? with
      | none => rw [e0, q] at hn; exact absurd rfl (hn 0)
      | some o =>
        cases o with
        | none => rw [e0, q] at hn; exact absurd rfl (hn 0)
        | some d' =>
          refine ⟨d', rfl, ?_⟩
          rw [e0, q] at hn ⊢
          cases d' <;> first | rfl | exact absurd rfl (hn 0)
    obtain ⟨d', h1, h2⟩ := key
    obtain ⟨v', Li, L', e1, r, _, _⟩ := s.take h1
    rw [e] at e1
    cases e1
    exact ⟨Li, by rw [h2]; exact r⟩
/-- one value looked at; what is known of it may be told on -/
theorem Abs.look (h : Abs K B σ A ((v, d) :: ts) H) (hn : ∀ j, see A d ≠ .al j) : ∃ G L, Same G H ∧ R K G H v (see A d) L ∧ ∀ w e, R K G H w e [] → Abs K B σ A ((w, e) :: ts) H := by
  obtain ⟨G, L1, L2, gd, tm, sl, nd, ow⟩ := id h
  obtain ⟨L', r⟩ := tm.look sl hn
  refine ⟨G, L', gd.gh, r, fun w e re => ?_⟩
  cases tm with
  | cons r t =>
    rename_i La Lb
    refine ⟨G, Lb, L2, gd, by simpa using Tms.cons re t, sl, ?_, fun a ha => ow a ?_⟩
    · rw [List.append_assoc] at nd; exact (List.nodup_append.mp nd).2.1
    · rw [List.append_assoc]; exact List.mem_append_right _ ha
  | al e' t => exact ⟨G, L1, L2, gd, by simpa using Tms.cons re t, sl, nd, ow⟩
/-- two values -/
theorem Abs.look2 (h : Abs K B σ A ((u, e) :: (v, d) :: ts) H) (h1 : ∀ j, see A e ≠ .al j) (h2 : ∀ j, see A d ≠ .al j) :
    ∃ G L L', Same G H ∧ R K G H u (see A e) L ∧ R K G H v (see A d) L' ∧ ∀ w e, R K G H w e [] → Abs K B σ A ((w, e) :: ts) H := by
  obtain ⟨G, L1, L2, gd, tm, sl, nd, ow⟩ := id h
  obtain ⟨L, r⟩ := tm.look sl h1
  have tm2 : ∃ M, Tms K σ G H ((v, d) :: ts) M ∧ M.Sublist L1 := by
    cases tm with
    | cons r t => exact ⟨_, t, List.sublist_append_right _ _⟩
    | al e t => exact ⟨_, t, .refl _⟩
  obtain ⟨M, tm2, sM⟩ := tm2
  obtain ⟨L', r'⟩ := tm2.look sl h2
  refine ⟨G, L, L', gd.gh, r, r', fun w e re => ?_⟩
  have tm3 : ∃ M', Tms K σ G H ts M' ∧ M'.Sublist M := by
    cases tm2 with
    | cons r t => exact ⟨_, t, List.sublist_append_right _ _⟩
    | al e t => exact ⟨_, t, .refl _⟩
  obtain ⟨M', tm3, sM'⟩ := tm3
  have sub : (M' ++ L2).Sublist (L1 ++ L2) := List.Sublist.append_right (sM'.trans sM) _
  exact ⟨G, M', L2, gd, by simpa using Tms.cons re tm3, sl, sub.nodup nd, fun a ha => ow a (sub.subset ha)⟩
theorem Abs.int {i : Int} (h : Abs K B σ A ((v, .int i) :: ts) H) : v = .int i := by
  obtain ⟨G, L, _, r, _⟩ := h.look (by intro j z; cases z)
  cases r; rfl
theorem Abs.bl {i : Bool} (h : Abs K B σ A ((v, .bl i) :: ts) H) : v = .bl i := by
  obtain ⟨G, L, _, r, _⟩ := h.look (by intro j z; cases z)
  cases r; rfl
theorem Abs.str {i : Str} (h : Abs K B σ A ((v, .str i) :: ts) H) : v = .str i := by
  obtain ⟨G, L, _, r, _⟩ := h.look (by intro j z; cases z)
  cases r; rfl
theorem Abs.non (h : Abs K B σ A ((v, .non) :: ts) H) : v = .non := by
  obtain ⟨G, L, _, r, _⟩ := h.look (by intro j z; cases z)
  cases r; rfl
/-- scalars -/
theorem Abs.pint (h : Abs K B σ A ts H) (i : Int) : Abs K B σ A ((.int i, .int i) :: ts) H := h.scal fun _ => .int i
theorem Abs.pbl (h : Abs K B σ A ts H) (i : Bool) : Abs K B σ A ((.bl i, .bl i) :: ts) H := h.scal fun _ => .bl i
theorem Abs.pstr (h : Abs K B σ A ts H) (i : Str) : Abs K B σ A ((.str i, .str i) :: ts) H := h.scal fun _ => .str i
theorem Abs.pnon (h : Abs K B σ A ts H) : Abs K B σ A ((.non, .non) :: ts) H := h.scal fun _ => .non

/-! ### names and constants -/
def fVar (i : Nat) : FE := fun A => match A[i]? with
  | some (some d) => if isF d = true then .ok d A else .ok (.al i) A
  | _ => .stuck
theorem Abs.var {i : Nat} (h : Abs K B σ A ts H) (e : A[i]? = some (some d)) : ∃ v, σ[i]? = some (some v) ∧ Abs K B σ A ((v, if isF d = true then d else .al i) :: ts) H := by
  obtain ⟨G, L1, L2, gd, tm, sl, nd, ow⟩ := h
  obtain ⟨v, Li, L', e1, r, s2, p⟩ := sl.take e
  refine ⟨v, e1, ?_⟩
  by_cases hf : isF d = true
  · rw [if_pos hf]
    rw [r.isF hf] at r
    exact ⟨G, L1, L2, gd, by simpa using Tms.cons r tm, sl, nd, ow⟩
  · rw [if_neg hf]
    exact ⟨G, L1, L2, gd, .al e1 tm, sl, nd, ow⟩
end

section
variable {z : Z} {X : Cx}
theorem qe_var {i : Nat} {x : Str} {pos : Pos} (h : PE X (.Name x pos) (tVar i)) : PE X (.Name x pos) (tE z (fVar i)) := by
  refine PE.imp h fun σ H Q ⟨A, ts, ha, hp⟩ => ?_
  unfold fVar at hp
  split at hp
  · rename_i d e
    obtain ⟨v, e1, h1⟩ := ha.var e
    refine ⟨v, e1, ?_⟩
    split at hp <;> rename_i hf
    · rw [if_pos hf] at h1; exact hp v H h1
    · rw [if_neg hf] at h1; exact hp v H h1
  · exact hp.elim
def fC (d : D) : FE := fun A => .ok d A
theorem qe_int {i j pos} : PE X (.Constant (.int i) j pos) (tE z (fC (.int i))) := PE.imp pe_int fun σ H Q ⟨A, ts, ha, hp⟩ => hp _ _ (ha.pint i)
theorem qe_str {i j pos} : PE X (.Constant (.str i) j pos) (tE z (fC (.str i))) := PE.imp pe_str fun σ H Q ⟨A, ts, ha, hp⟩ => hp _ _ (ha.pstr i)
theorem qe_bl {i j pos} : PE X (.Constant (.bool i) j pos) (tE z (fC (.bl i))) := PE.imp pe_bl fun σ H Q ⟨A, ts, ha, hp⟩ => hp _ _ (ha.pbl i)
theorem qe_non {j pos} : PE X (.Constant .none j pos) (tE z (fC .non)) := PE.imp pe_non fun σ H Q ⟨A, ts, ha, hp⟩ => hp _ _ ha.pnon
/-- a built-in class by its name -/
theorem qe_ty {x : Str} {n : String} {pos : Pos} (h : PE X (.Name x pos) (tC (.ty n))) : PE X (.Name x pos) (tE z (fC (.ty n))) := PE.imp h fun σ H Q ⟨A, ts, ha, hp⟩ => hp _ _ (ha.scal fun _ => .ty n)
/-- a module's constant -/
theorem qe_gint {x : Str} {i : Int} {pos : Pos} (h : PE X (.Name x pos) (tC (.int i))) : PE X (.Name x pos) (tE z (fC (.int i))) := PE.imp h fun σ H Q ⟨A, ts, ha, hp⟩ => hp _ _ (ha.pint i)
theorem qe_gstr {x : Str} {i : Str} {pos : Pos} (h : PE X (.Name x pos) (tC (.str i))) : PE X (.Name x pos) (tE z (fC (.str i))) := PE.imp h fun σ H Q ⟨A, ts, ha, hp⟩ => hp _ _ (ha.pstr i)

/-! ### operators -/
def fBin (g : D → D → Sl → Option D) (fa fb : FE) : FE := fun A => (fa A).bind fun d A1 => (fb A1).bind fun e A2 => match g d e A2 with
  | some r => .ok r A2
  | none => .stuck
/-- the operation r on values does what g tells -/
def OpD (z : Z) (r : R2) (g : D → D → Sl → Option D) : Prop :=
  ∀ (σ : L2.St) (A : Sl) (ts : Ts) (H : Hp) (v u : V) (d e d' : D), z.A σ A ((u, e) :: (v, d) :: ts) H → g d e A = some d' → ∀ Q : VK, (∀ w H', z.A σ A ((w, d') :: ts) H' → Q w H') → r v u H Q
theorem bin_go {r : R2} {g : D → D → Sl → Option D} {fa fb : FE} (hd : OpD z r g) {σ : L2.St} {H : Hp} {Q : VK} (h : tE z (fBin g fa fb) σ H Q) : tOp r (tE z fa) (tE z fb) σ H Q := by
  obtain ⟨A, ts, ha, hp⟩ := h
  refine ⟨A, ts, ha, ?_⟩
  unfold fBin at hp
  cases ea : fa A with
  | stuck => rw [ea] at hp; exact hp.elim
  | exc c A1 => rw [ea] at hp; exact hp
  | ok d A1 =>
    rw [ea] at hp
    simp only [Ou.bind_ok] at hp
    intro v H1 h1
    refine ⟨A1, (v, d) :: ts, h1, ?_⟩
    cases eb : fb A1 with
    | stuck => rw [eb] at hp; exact hp.elim
    | exc c A2 =>
      rw [eb] at hp
      exact fun H' h' => hp H' h'.drop
    | ok e A2 =>
      rw [eb] at hp
      simp only [Ou.bind_ok] at hp
      intro u H2 h2
      cases eg : g d e A2 with
      | none => rw [eg] at hp; exact hp.elim
      | some d' =>
        rw [eg] at hp
        exact hd σ A2 ts H2 v u d e d' h2 eg Q hp
theorem qe_bin {op : Operator} {a b : Expr} {pos : Pos} {r : R2} {g : D → D → Sl → Option D} {fa fb : FE} (ho : OpR X (binaryOp op) r) (hd : OpD z r g) (ha : PE X a (tE z fa)) (hb : PE X b (tE z fb)) : PE X (.BinOp a op b pos) (tE z (fBin g fa fb)) :=
  PE.imp (pe_op ho ha hb) fun _ _ _ h => bin_go hd h
theorem qe_cmp {op : CmpOp} {a b : Expr} {pos : Pos} {r : R2} {g : D → D → Sl → Option D} {fa fb : FE} (ho : OpR X (compareOp op) r) (hd : OpD z r g) (ha : PE X a (tE z fa)) (hb : PE X b (tE z fb)) (hm : behindInMarks op b = false) : PE X (.Compare a [op] [b] pos) (tE z (fBin g fa fb)) :=
  PE.imp (pe_cmpR ho ha hb hm) fun _ _ _ h => bin_go hd h
theorem qe_ix {a b : Expr} {pos : Pos} {r : R2} {g : D → D → Sl → Option D} {fa fb : FE} (ho : IxR X r) (hd : OpD z r g) (ha : PE X a (tE z fa)) (hb : PE X b (tE z fb)) (hs : PlainIx b) : PE X (.Subscript a b pos) (tE z (fBin g fa fb)) :=
  PE.imp (pe_ix ho ha hb hs) fun _ _ _ h => bin_go hd h
def fUn (g : D → Sl → Option D) (fa : FE) : FE := fun A => (fa A).bind fun d A1 => match g d A1 with
  | some r => .ok r A1
  | none => .stuck
def gNeg : D → Sl → Option D
  | .int i, _ => some (.int (-i))
  | _, _ => none
theorem qe_neg {a : Expr} {pos : Pos} {fa : FE} (ha : PE X a (tE z fa)) : PE X (.UnaryOp .USub a pos) (tE z (fUn gNeg fa)) := by
  refine PE.imp (pe_un un_neg ha) fun σ H Q ⟨A, ts, hA, hp⟩ => ⟨A, ts, hA, ?_⟩
  unfold fUn at hp
  cases ea : fa A with
  | stuck => rw [ea] at hp; exact hp.elim
  | exc c A1 => rw [ea] at hp; exact hp
  | ok d A1 =>
    rw [ea] at hp
    simp only [Ou.bind_ok] at hp
    intro v H1 h1
    cases d <;> simp only [gNeg] at hp <;> try exact hp.elim
    rename_i i
    exact ⟨i, h1.int, hp _ _ (h1.drop.pint _)⟩

/-! ### ints -/
def g2I (C : Int → Int → Bool) (g : Int → Int → D) : D → D → Sl → Option D
  | .int i, .int j, _ => if C i j = true then some (g i j) else none
  | _, _, _ => none
theorem g2I_some {C : Int → Int → Bool} {g : Int → Int → D} {d e : D} {A : Sl} {d' : D} (h : g2I C g d e A = some d') : ∃ i j, d = .int i ∧ e = .int j ∧ C i j = true ∧ d' = g i j := by
  unfold g2I at h
  split at h
  · rename_i i j
    by_cases hc : C i j = true
    · rw [if_pos hc] at h; cases h; exact ⟨i, j, rfl, rfl, hc, rfl⟩
    · rw [if_neg hc] at h; cases h
  · cases h
theorem opd_I {P : Int → Int → Prop} {C : Int → Int → Bool} {g : Int → Int → Int} (hC : ∀ i j, C i j = true → P i j) : OpD z (rI P fun i j => .int (g i j)) (g2I C fun i j => .int (g i j)) := by
  intro σ A ts H v u d e d' h hg Q q
  obtain ⟨i, j, rfl, rfl, hc, rfl⟩ := g2I_some hg
  exact ⟨i, j, h.drop.int, h.int, hC i j hc, q _ _ (h.drop.drop.pint _)⟩
theorem opd_I0 {C : Int → Int → Bool} {g : Int → Int → Int} : OpD z (rI0 fun i j => .int (g i j)) (g2I C fun i j => .int (g i j)) := by
  intro σ A ts H v u d e d' h hg Q q
  obtain ⟨i, j, rfl, rfl, hc, rfl⟩ := g2I_some hg
  exact ⟨i, j, h.drop.int, h.int, q _ _ (h.drop.drop.pint _)⟩
theorem opd_B0 {C : Int → Int → Bool} {g : Int → Int → Bool} : OpD z (rI0 fun i j => .bl (g i j)) (g2I C fun i j => .bl (g i j)) := by
  intro σ A ts H v u d e d' h hg Q q
  obtain ⟨i, j, rfl, rfl, hc, rfl⟩ := g2I_some hg
  exact ⟨i, j, h.drop.int, h.int, q _ _ (h.drop.drop.pbl _)⟩
def yes2 : Int → Int → Bool := fun _ _ => true
def cMul : Int → Int → Bool := fun i j => decide (i.natAbs < 2 ^ 64) || decide (j.natAbs < 2 ^ 64)
def cDiv : Int → Int → Bool := fun i j => decide (0 < j) && decide (j.natAbs < 2 ^ 400)
def cMod : Int → Int → Bool := fun i j => decide (0 < j)
def cPow : Int → Int → Bool := fun i j => decide (0 ≤ j) && decide (j ≤ 1000000) && decide (i.natAbs < 2 ^ 64)
def gMinus := g2I yes2 fun i j => .int (i - j)
def gMul := g2I cMul fun i j => .int (i * j)
def gDiv := g2I cDiv fun i j => .int (i / j)
def gMod := g2I cMod fun i j => .int (i % j)
def gPow := g2I cPow fun i j => .int (i ^ j.toNat)
def gLt := g2I yes2 fun i j => .bl (decide (i < j))
def gLe := g2I yes2 fun i j => .bl (decide (i ≤ j))
def gGt := g2I yes2 fun i j => .bl (decide (j < i))
def gGe := g2I yes2 fun i j => .bl (decide (j ≤ i))
theorem opd_sub : OpD z (rI0 fun i j => .int (i - j)) gMinus := opd_I0
theorem opd_mul : OpD z (rI CMul fun i j => .int (i * j)) gMul := opd_I fun i j h => by
  unfold cMul at h
  rw [Bool.or_eq_true, decide_eq_true_iff, decide_eq_true_iff] at h
  rcases h with h | h
  · exact .inl (by omega)
  · exact .inr (by omega)
theorem opd_div : OpD z (rI CDivW fun i j => .int (i / j)) gDiv := opd_I fun i j h => by
  unfold cDiv at h
  rw [Bool.and_eq_true, decide_eq_true_iff, decide_eq_true_iff] at h
  exact wide_div h.1 h.2 (by decide) (by decide)
theorem opd_mod : OpD z (rI (fun _ j => 0 < j) fun i j => .int (i % j)) gMod := opd_I fun i j h => of_decide_eq_true h
theorem opd_pow : OpD z (rI CPow fun i j => .int (i ^ j.toNat)) gPow := opd_I fun i j h => by
  unfold cPow at h
  simp only [Bool.and_eq_true, decide_eq_true_iff] at h
  exact ⟨h.1.1, h.1.2, h.2⟩
theorem opd_lt : OpD z (rI0 fun i j => .bl (decide (i < j))) gLt := opd_B0
theorem opd_le : OpD z (rI0 fun i j => .bl (decide (i ≤ j))) gLe := opd_B0
theorem opd_gt : OpD z (rI0 fun i j => .bl (decide (j < i))) gGt := opd_B0
theorem opd_ge : OpD z (rI0 fun i j => .bl (decide (j ≤ i))) gGe := opd_B0

/-! ### == of data -/
mutual
def dat : D → PyData
  | .non => .none | .bl b => .bool b | .int i => .int i | .str x => .str x
  | .tup ds => .tuple (dats ds) | .lst ds => .list (dats ds) | .mu ds => .list (dats ds) | .fro ds => .list (dats ds)
  | .fdi .. => .dict [] | .mdi .. => .dict [] | .al _ => .dict [] | .exc _ => .dict [] | .obj .. => .dict [] | .ty _ => .dict []
def dats : List D → List PyData
  | [] => []
  | d :: ds => dat d :: dats ds
end
theorem dats_map : ∀ ds : List D, dats ds = ds.map dat
  | [] => by simp [dats]
  | d :: ds => by simp [dats, dats_map ds]
def okD (d : D) : Bool := SeqAt.shaped (dat d)
section
variable {K : Fw} {G H : Hp}
mutual
theorem R.dp (g : Same G H) : ∀ {v : V} {d : D} {L : List Addr}, R K G H v d L → (dat d).canLay0 = true → Dp K H v (dat d)
  | _, _, _, .non, _ => by rw [dat]; exact .non
  | _, _, _, .bl b, _ => by rw [dat]; exact .bl b
  | _, _, _, .int i, _ => by rw [dat]; exact .int i
  | _, _, _, .str x, _ => by rw [dat]; exact .str x
  | _, _, _, .ty x, h => by rw [dat] at h; simp [PyData.canLay0] at h
  | _, _, _, .tup q r, h => by rw [dat]; exact .tup (.inl (.inl (g _ _ q))) (Rs.dp g r (by rw [dat] at h; simpa [PyData.canLay0] using h))
  | _, _, _, .lst q r, h => by rw [dat]; exact .lst (.inl (.inl (g _ _ q))) (Rs.dp g r (by rw [dat] at h; simpa [PyData.canLay0] using h))
  | _, _, _, .fro q r, h => by rw [dat]; exact .lst (sq_l g q) (Rs.dp g r (by rw [dat] at h; simpa [PyData.canLay0] using h))
  | _, _, _, .mu e n r, h => by rw [dat]; exact .lst (.inl (.inl e)) (Rs.dp g r (by rw [dat] at h; simpa [PyData.canLay0] using h))
  | _, _, _, .fdi q o k r, h => by rw [dat] at h; simp [PyData.canLay0] at h
  | _, _, _, .mdi e n o k r, h => by rw [dat] at h; simp [PyData.canLay0] at h
theorem Rs.dp (g : Same G H) : ∀ {v : List V} {d : List D} {L : List Addr}, Rs K G H v d L → PyData.canLayAll0 (dats d) = true → DpAll K H v (dats d)
  | _, _, _, .nil, _ => by rw [dats]; exact .nil
  | _, _, _, .cons r t, h => by
    rw [dats, PyData.canLayAll0, Bool.and_eq_true] at h
    rw [dats]
    exact .cons (R.dp g r h.1) (Rs.dp g t h.2)
end
theorem okD_lay {d : D} (h : okD d = true) : (dat d).canLay0 = true := SeqAt.canLay_of_shaped h
theorem okD_al {A : Sl} {d : D} (h : okD (see A d) = true) : ∀ j, see A d ≠ .al j := fun j e => by
  rw [e] at h
  have := okD_lay h
  rw [dat] at this
  simp [PyData.canLay0] at this
end
def gEq (d e : D) (A : Sl) : Option D := if (okD (see A d) && okD (see A e)) = true then some (.bl (PyData.eqv (dat (see A d)) (dat (see A e)))) else none
def gNe (d e : D) (A : Sl) : Option D := if (okD (see A d) && okD (see A e)) = true then some (.bl (!PyData.eqv (dat (see A d)) (dat (see A e)))) else none
theorem opd_eq : OpD z (rEqD z.K) gEq := by
  intro σ A ts H v u d e d' h hg Q q
  unfold gEq at hg
  by_cases hk : (okD (see A d) && okD (see A e)) = true
  · rw [if_pos hk] at hg
    cases hg
    rw [Bool.and_eq_true] at hk
    obtain ⟨G, L, L', gh, r1, r2, _⟩ := h.look2 (okD_al hk.2) (okD_al hk.1)
    exact ⟨_, _, r2.dp gh (okD_lay hk.1), r1.dp gh (okD_lay hk.2), hk.1, hk.2, q _ _ (h.drop.drop.pbl _)⟩
  · rw [if_neg hk] at hg; cases hg
theorem opd_ne : OpD z (rNeD z.K) gNe := by
  intro σ A ts H v u d e d' h hg Q q
  unfold gNe at hg
  by_cases hk : (okD (see A d) && okD (see A e)) = true
  · rw [if_pos hk] at hg
    cases hg
    rw [Bool.and_eq_true] at hk
    obtain ⟨G, L, L', gh, r1, r2, _⟩ := h.look2 (okD_al hk.2) (okD_al hk.1)
    exact ⟨_, _, r2.dp gh (okD_lay hk.1), r1.dp gh (okD_lay hk.2), hk.1, hk.2, q _ _ (h.drop.drop.pbl _)⟩
  · rw [if_neg hk] at hg; cases hg
/-- x is None, of data that is no own object -/
def gIsN (d e : D) (A : Sl) : Option D := match e with
  | .non => match see A d with
    | .non => some (.bl true)
    | .al _ => none
    | _ => some (.bl false)
  | _ => none
def gNotN (d e : D) (A : Sl) : Option D := match e with
  | .non => match see A d with
    | .non => some (.bl false)
    | .al _ => none
    | _ => some (.bl true)
  | _ => none
theorem opd_isN : OpD z (fun x y H Q => y = .non ∧ Q (.bl (decide (x = .non))) H) gIsN := by
  intro σ A ts H v u d e d' h hg Q q
  unfold gIsN at hg
  split at hg
  · refine ⟨h.non, ?_⟩
    have hn : ∀ j, see A d ≠ .al j := fun j z => by rw [z] at hg; cases hg
    obtain ⟨G, L, gh, r, _⟩ := h.drop.look hn
    have key : d' = .bl (decide (v = .non)) := by
      revert hg
      generalize see A d = dd at r hn
      cases r <;> intro hg <;> simp_all
    rw [key] at q
    exact q _ _ (h.drop.drop.pbl _)
  · cases hg
theorem opd_notN : OpD z (fun x y H Q => y = .non ∧ Q (.bl (!decide (x = .non))) H) gNotN := by
  intro σ A ts H v u d e d' h hg Q q
  unfold gNotN at hg
  split at hg
  · refine ⟨h.non, ?_⟩
    have hn : ∀ j, see A d ≠ .al j := fun j z => by rw [z] at hg; cases hg
    obtain ⟨G, L, gh, r, _⟩ := h.drop.look hn
    have key : d' = .bl (!decide (v = .non)) := by
      revert hg
      generalize see A d = dd at r hn
      cases r <;> intro hg <;> simp_all
    rw [key] at q
    exact q _ _ (h.drop.drop.pbl _)
  · cases hg

/-! ### lists and tuples that are read -/
def lsOf : D → Option (List D)
  | .lst ds => some ds | .mu ds => some ds | .fro ds => some ds
  | _ => none
def sqOf : D → Option (List D)
  | .lst ds => some ds | .mu ds => some ds | .fro ds => some ds | .tup ds => some ds
  | _ => none
section
variable {K : Fw} {G H : Hp} {v : V} {d : D} {L : List Addr} {ds : List D} {A : Sl}
theorem R.list (g : Same G H) (r : R K G H v d L) (h : lsOf d = some ds) : ∃ a xs L', v = .ref a ∧ SqL K H a xs ∧ Rs K G H xs ds L' := by
  cases r <;> simp only [lsOf] at h <;> try cases h
  · rename_i q r; exact ⟨_, _, _, rfl, .inl (.inl (g _ _ q)), r⟩
  · rename_i q r; exact ⟨_, _, _, rfl, sq_l g q, r⟩
  · rename_i e n r; exact ⟨_, _, _, rfl, .inl (.inl e), r⟩
theorem R.seq (g : Same G H) (r : R K G H v d L) (h : sqOf d = some ds) : ∃ a xs L', v = .ref a ∧ (SqL K H a xs ∨ SqT K H a xs) ∧ Rs K G H xs ds L' := by
  cases r <;> simp only [sqOf] at h <;> try cases h
  · rename_i q r; exact ⟨_, _, _, rfl, .inr (.inl (.inl (g _ _ q))), r⟩
  · rename_i q r; exact ⟨_, _, _, rfl, .inl (.inl (.inl (g _ _ q))), r⟩
  · rename_i q r; exact ⟨_, _, _, rfl, .inl (sq_l g q), r⟩
  · rename_i e n r; exact ⟨_, _, _, rfl, .inl (.inl (.inl e)), r⟩
theorem lsOf_al (h : lsOf (see A d) = some ds) : ∀ j, see A d ≠ .al j := fun j e => by rw [e] at h; cases h
theorem sqOf_al (h : sqOf (see A d) = some ds) : ∀ j, see A d ≠ .al j := fun j e => by rw [e] at h; cases h
theorem sublist_nil {L : List Addr} (h : L.Sublist []) : L = [] := List.sublist_nil.mp h
theorem Rs.atI {xs : List V} {i : Int} {e : D} (r : Rs K G H xs ds L) (h : atI ds i = some e) : ∃ w Li, atI xs i = some w ∧ R K G H w e Li := by
  unfold L2.atI at h ⊢
  rw [r.length]
  cases hi : ixN ds.length i with
  | none => rw [hi] at h; cases h
  | some j =>
    rw [hi] at h
    obtain ⟨w, Li, h1, h2, _⟩ := r.getD (i := j) (d := e) h
    exact ⟨w, Li, h1, h2⟩
end
def gIx (d e : D) (A : Sl) : Option D := match e with
  | .int i => match see A d with
    | .str x => if x.length ≤ sizeLine then (atI x.cps.toList i).map fun c => .str ⟨#[c]⟩ else none
    | s => match sqOf s with
      | some ds => match atI ds i with
        | some e => if isF e = true then some e else none
        | none => none
      | none => none
  | _ => none
theorem opd_ix : OpD z (rIx z.K) gIx := by
  intro σ A ts H v u d e d' h hg Q q
  unfold gIx at hg
  split at hg
  · rename_i i
    have eu := h.int
    split at hg
    · rename_i x hx
      have hn : ∀ j, see A d ≠ .al j := fun j z => by rw [z] at hx; cases hx
      obtain ⟨G, L, gh, r, _⟩ := h.drop.look hn
      rw [hx] at r
      cases r
      split at hg
      · rename_i hl
        cases hc : atI x.cps.toList i with
        | none => rw [hc] at hg; cases hg
        | some c =>
          rw [hc] at hg
          cases hg
          exact .inr (.inr ⟨x, i, c, rfl, eu, hl, hc, q _ _ (h.drop.drop.pstr _)⟩)
      · cases hg
    · split at hg
      · rename_i ds hs
        split at hg
        · rename_i e he
          split at hg
          · rename_i hf
            cases hg
            obtain ⟨G, L, gh, r, back⟩ := h.drop.look (sqOf_al hs)
            obtain ⟨a, xs, L', ev, sq, rs⟩ := r.seq gh hs
            obtain ⟨w, Li, h1, h2⟩ := rs.atI he
            rw [h2.isF hf] at h2
            have fin := q _ _ (back w _ h2)
            rcases sq with sq | sq
            · exact .inl ⟨a, xs, i, w, ev, eu, sq, h1, fin⟩
            · exact .inr (.inl ⟨a, xs, i, w, ev, eu, sq, h1, fin⟩)
          · cases hg
        · cases hg
      · cases hg
  · cases hg
end
end Ab
end
section
namespace Ab
open PySem PySem.Spec PyProof.Rows L2

/-! ### in, not in -/
section
variable {X : Cx}
def rInT (K : PySem.W.Frag) : R2 := fun x y H Q => ∃ d ds, Dp K H x d ∧ Dp K H y (.tuple ds) ∧ SeqAt.shaped d = true ∧ SeqAt.shaped (.tuple ds) = true ∧ Q (.bl (ds.any fun z => PyData.eqv z d)) H
def rNotInT (K : PySem.W.Frag) : R2 := fun x y H Q => ∃ d ds, Dp K H x d ∧ Dp K H y (.tuple ds) ∧ SeqAt.shaped d = true ∧ SeqAt.shaped (.tuple ds) = true ∧ Q (.bl (!ds.any fun z => PyData.eqv z d)) H
theorem op_inT (hu : X.A.units + 65 < cLine) : OpR X (compareOp .In) (rInT X.K) := by
  intro pins s σ H x y v u Q I rx ry h
  obtain ⟨d, ds, hd, he, sd, se, q⟩ := h
  obtain ⟨as, r1⟩ := Dp.reads I d x v hd rx
  obtain ⟨bs, r2⟩ := Dp.reads I (.tuple ds) y u he ry
  exact SeqAt.in_tuple_reads r2 r1 (SeqAt.canLay_of_shaped se) (SeqAt.canLay_of_shaped sd) (room_in_shaped sd hu) ⟨.bl _, H, I, rfl, q⟩
theorem op_notInT (hu : X.A.units + 65 < cLine) : OpR X (compareOp .NotIn) (rNotInT X.K) := by
  intro pins s σ H x y v u Q I rx ry h
  obtain ⟨d, ds, hd, he, sd, se, q⟩ := h
  obtain ⟨as, r1⟩ := Dp.reads I d x v hd rx
  obtain ⟨bs, r2⟩ := Dp.reads I (.tuple ds) y u he ry
  exact SeqAt.notIn_tuple_reads r2 r1 (SeqAt.canLay_of_shaped se) (SeqAt.canLay_of_shaped sd) (room_in_shaped sd hu) ⟨.bl _, H, I, rfl, q⟩
def rInS : R2 := fun x y H Q => ∃ (c : Nat) (z : Str), x = .str ⟨#[c]⟩ ∧ y = .str z ∧ Q (.bl (decide (c ∈ z.cps.toList))) H
def rNotInS : R2 := fun x y H Q => ∃ (c : Nat) (z : Str), x = .str ⟨#[c]⟩ ∧ y = .str z ∧ Q (.bl (!decide (c ∈ z.cps.toList))) H
def rInA (K : PySem.W.Frag) : R2 := fun x y H Q => rInD K x y H Q ∨ rInT K x y H Q ∨ rInS x y H Q
def rNotInA (K : PySem.W.Frag) : R2 := fun x y H Q => rNotInD K x y H Q ∨ rNotInT K x y H Q ∨ rNotInS x y H Q
theorem op_inA (hu : X.A.units + 65 < cLine) : OpR X (compareOp .In) (rInA X.K) := (op_inD hu).or ((op_inT hu).or op_in_sign)
theorem op_notInA (hu : X.A.units + 65 < cLine) : OpR X (compareOp .NotIn) (rNotInA X.K) := (op_notInD hu).or ((op_notInT hu).or op_notIn_sign)
end
/-- d within e: the answer -/
def inB (d e : D) (A : Sl) : Option Bool := match see A e with
  | .str z => match d with
    | .str ⟨⟨[c]⟩⟩ => some (decide (c ∈ z.cps.toList))
    | _ => none
  | s => match sqOf s with
    | some ds => if (okD (see A d) && okD s) = true then some ((dats ds).any fun z => PyData.eqv z (dat (see A d))) else none
    | none => none
def gIn (d e : D) (A : Sl) : Option D := (inB d e A).map .bl
def gNotIn (d e : D) (A : Sl) : Option D := (inB d e A).map fun b => .bl (!b)
theorem dat_seq {d : D} {ds : List D} (h : sqOf d = some ds) : dat d = .list (dats ds) ∨ dat d = .tuple (dats ds) := by
  cases d <;> simp only [sqOf] at h <;> cases h <;> simp [dat]
section
variable {z : Z}
theorem inB_go {σ : L2.St} {A : Sl} {ts : Ts} {H : Hp} {v u : V} {d e : D} {b : Bool} (h : z.A σ A ((u, e) :: (v, d) :: ts) H) (hg : inB d e A = some b) :
    (∃ x ds, Dp z.K H v x ∧ (Dp z.K H u (.list ds) ∧ SeqAt.shaped (.list ds) = true ∨ Dp z.K H u (.tuple ds) ∧ SeqAt.shaped (.tuple ds) = true) ∧ SeqAt.shaped x = true ∧ b = ds.any fun z => PyData.eqv z x) ∨
      ∃ (c : Nat) (w : Str), v = .str ⟨#[c]⟩ ∧ u = .str w ∧ b = decide (c ∈ w.cps.toList) := by
  unfold inB at hg
  split at hg
  · rename_i w hw
    split at hg
    · rename_i c
      cases hg
      obtain ⟨G, L, gh, r, _⟩ := h.look (fun j z => by rw [z] at hw; cases hw)
      rw [hw] at r
      cases r
      exact .inr ⟨c, w, h.drop.str, rfl, rfl⟩
    · cases hg
  · split at hg
    · rename_i ds hs
      by_cases hk : (okD (see A d) && okD (see A e)) = true
      · rw [if_pos hk] at hg
        cases hg
        rw [Bool.and_eq_true] at hk
        obtain ⟨G, L, L', gh, r1, r2, _⟩ := h.look2 (okD_al hk.2) (okD_al hk.1)
        have d1 := r1.dp gh (okD_lay hk.2)
        have s1 : SeqAt.shaped (dat (see A e)) = true := hk.2
        refine .inl ⟨_, dats ds, r2.dp gh (okD_lay hk.1), ?_, hk.1, rfl⟩
        rcases dat_seq hs with q | q <;> rw [q] at d1 s1
        · exact .inl ⟨d1, s1⟩
        · exact .inr ⟨d1, s1⟩
      · rw [if_neg hk] at hg; cases hg
    · cases hg
theorem opd_in : OpD z (rInA z.K) gIn := by
  intro σ A ts H v u d e d' h hg Q q
  unfold gIn at hg
  cases hb : inB d e A with
  | none => rw [hb] at hg; cases hg
  | some b =>
    rw [hb] at hg
    cases hg
    have fin := q _ _ (h.drop.drop.pbl b)
    rcases inB_go h hb with ⟨x, ds, h1, h2 | h2, h3, rfl⟩ | ⟨c, w, e1, e2, rfl⟩
    · exact .inl ⟨x, ds, h1, h2.1, h3, h2.2, fin⟩
    · exact .inr (.inl ⟨x, ds, h1, h2.1, h3, h2.2, fin⟩)
    · exact .inr (.inr ⟨c, w, e1, e2, fin⟩)
theorem opd_notIn : OpD z (rNotInA z.K) gNotIn := by
  intro σ A ts H v u d e d' h hg Q q
  unfold gNotIn at hg
  cases hb : inB d e A with
  | none => rw [hb] at hg; cases hg
  | some b =>
    rw [hb] at hg
    cases hg
    have fin := q _ _ (h.drop.drop.pbl (!b))
    rcases inB_go h hb with ⟨x, ds, h1, h2 | h2, h3, rfl⟩ | ⟨c, w, e1, e2, rfl⟩
    · exact .inl ⟨x, ds, h1, h2.1, h3, h2.2, fin⟩
    · exact .inr (.inl ⟨x, ds, h1, h2.1, h3, h2.2, fin⟩)
    · exact .inr (.inr ⟨c, w, e1, e2, fin⟩)

end
/-! ### one value opened: what is known of it, and how one goes on -/
section
variable {K : Fw} {B : Bs} {G H : Hp} {σ : L2.St} {A : Sl} {ts : Ts} {vs : List V} {d e : D} {ds : List D} {p : Addr} {u v : V} {L : List Addr}
theorem isFs_noAl : ∀ {ds : List D}, isFs ds = true → noAl ds = true
  | [], _ => rfl
  | d :: ds, h => by
    rw [isFs, Bool.and_eq_true] at h
    have ih : noAl ds = true := isFs_noAl h.2
    unfold noAl at ih ⊢
    rw [List.all_cons, ih, Bool.and_true]
    cases d <;> first | rfl | (have := h.1; simp [isF] at this)
/-- the state goes on with a value w that is told e -/
def Fin (K : Fw) (B : Bs) (σ : L2.St) (A : Sl) (ts : Ts) (H G : Hp) : Prop :=
  ∀ w e H' G' L', Same H H' → Same G G' → Same G' H' → (∀ a, H a ≠ none → G a = none → G' a = none) → R K G' H' w e L' → L'.Nodup → (∀ a ∈ L', H a = none) → Abs K B σ A ((w, e) :: ts) H'
theorem Abs.fin (h : Abs K B σ A ts H) : ∃ G, Same G H ∧ Fin K B σ A ts H G := by
  obtain ⟨G, L1, L2, gd, tm, sl, nd, ow⟩ := h
  exact ⟨G, gd.gh, fun w e H' G' L' he g1 g2 g3 r rn rf => step_core gd tm sl nd ow he g1 g2 g3 r rn rf⟩
theorem Abs.open (h : Abs K B σ A ((v, d) :: ts) H) (hn : ∀ j, see A d ≠ .al j) : ∃ G L, Same G H ∧ R K G H v (see A d) L ∧ Fin K B σ A ts H G := by
  obtain ⟨G, L1, L2, gd, tm, sl, nd, ow⟩ := id h
  obtain ⟨L, r⟩ := tm.look sl hn
  obtain ⟨M, tm2, sM⟩ : ∃ M, Tms K σ G H ts M ∧ M.Sublist L1 := by
    cases tm with
    | cons r t => exact ⟨_, t, List.sublist_append_right _ _⟩
    | al e t => exact ⟨_, t, .refl _⟩
  have sub : (M ++ L2).Sublist (L1 ++ L2) := List.Sublist.append_right sM _
  exact ⟨G, L, gd.gh, r, fun w e H' G' L' he g1 g2 g3 r rn rf => step_core gd tm2 sl (sub.nodup nd) (fun a ha => ow a (sub.subset ha)) he g1 g2 g3 r rn rf⟩
theorem Abs.open2 (h : Abs K B σ A ((u, e) :: (v, d) :: ts) H) (h1 : ∀ j, see A e ≠ .al j) (h2 : ∀ j, see A d ≠ .al j) :
    ∃ G L L', Same G H ∧ R K G H u (see A e) L ∧ R K G H v (see A d) L' ∧ Fin K B σ A ts H G := by
  obtain ⟨G, L1, L2, gd, tm, sl, nd, ow⟩ := id h
  obtain ⟨L, r⟩ := tm.look sl h1
  obtain ⟨M, tm2, sM⟩ : ∃ M, Tms K σ G H ((v, d) :: ts) M ∧ M.Sublist L1 := by
    cases tm with
    | cons r t => exact ⟨_, t, List.sublist_append_right _ _⟩
    | al e t => exact ⟨_, t, .refl _⟩
  obtain ⟨L', r'⟩ := tm2.look sl h2
  obtain ⟨M', tm3, sM'⟩ : ∃ M', Tms K σ G H ts M' ∧ M'.Sublist M := by
    cases tm2 with
    | cons r t => exact ⟨_, t, List.sublist_append_right _ _⟩
    | al e t => exact ⟨_, t, .refl _⟩
  have sub : (M' ++ L2).Sublist (L1 ++ L2) := List.Sublist.append_right (sM'.trans sM) _
  exact ⟨G, L, L', gd.gh, r, r', fun w e H' G' L' he g1 g2 g3 r rn rf => step_core gd tm3 sl (sub.nodup nd) (fun a ha => ow a (sub.subset ha)) he g1 g2 g3 r rn rf⟩
theorem Fin.known (f : Fin K B σ A ts H G) (g : Same G H) (r : R K G H v d []) : Abs K B σ A ((v, d) :: ts) H :=
  f v d H G [] (fun _ _ e => e) (fun _ _ e => e) g (fun _ _ e => e) r List.nodup_nil fun _ z => nomatch z
theorem gp_none (g : Same G H) (hp : H p = none) : G p = none := by
  cases q : G p with
  | none => rfl
  | some o => rw [g p o q] at hp; cases hp
theorem same_upd2 {o : HO} (g : Same G H) : Same (upd G p o) (upd H p o) := fun a x e => by
  by_cases m : a = p
  · subst m; rw [upd_same] at e ⊢; exact e
  · rw [upd_ne m] at e ⊢; exact g a x e
theorem Fin.tup (f : Fin K B σ A ts H G) (g : Same G H) (r : Rs K G H vs ds []) (hp : H p = none) : Abs K B σ A ((.ref p, .tup ds) :: ts) (upd H p (.tup vs)) := by
  have g4 : Same G (upd G p (.tup vs)) := same_new (gp_none g hp)
  exact f _ _ _ (upd G p (.tup vs)) [] (same_new hp) g4 (same_upd2 g) (fun a ha hn => (upd_ne (fun z => ha (by rw [z]; exact hp))).trans hn) (.tup upd_same (r.free g4)) List.nodup_nil fun _ z => nomatch z
theorem Fin.lst (f : Fin K B σ A ts H G) (g : Same G H) (r : Rs K G H vs ds []) (hp : H p = none) : Abs K B σ A ((.ref p, .mu ds) :: ts) (upd H p (.lst vs)) :=
  f _ _ _ G [p] (same_new hp) (fun _ _ e => e) (g.trans (same_new hp)) (fun _ _ hn => hn) (.mu upd_same (gp_none g hp) (r.free fun _ _ e => e)) (by simp) fun a ha => by rw [List.mem_singleton.mp ha]; exact hp
theorem R.seq2 (g : Same G H) (r : R K G H v d L) (h : sqOf d = some ds) : ∃ a xs L', v = .ref a ∧ Rs K G H xs ds L' ∧ ((lsOf d = some ds ∧ SqL K H a xs) ∨ (d = .tup ds ∧ SqT K H a xs ∧ (L' = [] → R K G H v d []))) := by
  cases r <;> simp only [sqOf] at h <;> try cases h
  · rename_i q r; exact ⟨_, _, _, rfl, r, .inr ⟨rfl, .inl (.inl (g _ _ q)), fun e => by subst e; exact .tup q r⟩⟩
  · rename_i q r; exact ⟨_, _, _, rfl, r, .inl ⟨rfl, .inl (.inl (g _ _ q))⟩⟩
  · rename_i q r; exact ⟨_, _, _, rfl, r, .inl ⟨rfl, sq_l g q⟩⟩
  · rename_i e n r; exact ⟨_, _, _, rfl, r, .inl ⟨rfl, .inl (.inl e)⟩⟩
/-- lists that are tracked as such (not the script) -/
def exOf : D → Option (List D)
  | .lst ds => some ds | .mu ds => some ds
  | _ => none
theorem exOf_al (h : exOf (see A d) = some ds) : ∀ j, see A d ≠ .al j := fun j e => by rw [e] at h; cases h
theorem R.ex (g : Same G H) (r : R K G H v d L) (h : exOf d = some ds) : ∃ a xs L', v = .ref a ∧ H a = some (.lst xs) ∧ Rs K G H xs ds L' := by
  cases r <;> simp only [exOf] at h <;> try cases h
  · rename_i q r; exact ⟨_, _, _, rfl, g _ _ q, r⟩
  · rename_i e n r; exact ⟨_, _, _, rfl, e, r⟩
theorem Rs.take : ∀ {vs : List V} {ds : List D} (n : Nat), Rs K G H vs ds [] → Rs K G H (vs.take n) (ds.take n) []
  | _, _, 0, _ => .nil
  | [], [], _ + 1, _ => .nil
  | v :: vs, d :: ds, n + 1, r => by
    generalize hL : ([] : List Addr) = L0 at r
    cases r with
    | cons r t =>
      obtain ⟨e1, e2⟩ := List.append_eq_nil_iff.mp hL.symm
      subst e1; subst e2
      exact Rs.cons r (Rs.take n t)
theorem Rs.drop : ∀ {vs : List V} {ds : List D} (n : Nat), Rs K G H vs ds [] → Rs K G H (vs.drop n) (ds.drop n) []
  | _, _, 0, r => r
  | [], [], _ + 1, _ => .nil
  | v :: vs, d :: ds, n + 1, r => by
    generalize hL : ([] : List Addr) = L0 at r
    cases r with
    | cons r t =>
      obtain ⟨e1, e2⟩ := List.append_eq_nil_iff.mp hL.symm
      subst e1; subst e2
      exact Rs.drop n t
theorem Rs.cat {ws : List V} {es : List D} (r : Rs K G H vs ds []) (s : Rs K G H ws es []) : Rs K G H (vs ++ ws) (ds ++ es) [] := r.app s
theorem Rs.rep (r : Rs K G H vs ds []) : ∀ n : Nat, Rs K G H (List.replicate n vs).flatten (List.replicate n ds).flatten []
  | 0 => .nil
  | n + 1 => by
    rw [List.replicate_succ, List.replicate_succ, List.flatten_cons, List.flatten_cons]
    exact r.cat (Rs.rep r n)
end

/-! ### + -/
def gAdd (d e : D) (A : Sl) : Option D := match see A d, see A e with
  | .int i, .int j => some (.int (i + j))
  | .str x, .str y => if x.length + y.length ≤ sizeLine then some (.str (x ++ y)) else none
  | .tup ds, .tup es => if isFs ds = true ∧ isFs es = true ∧ ds.length + es.length ≤ sizeLine then some (.tup (ds ++ es)) else none
  | s, t => match exOf s, exOf t with
    | some ds, some es => if isFs ds = true ∧ isFs es = true ∧ ds.length + es.length ≤ sizeLine then some (.mu (ds ++ es)) else none
    | _, _ => none
def rAddStr : R2 := fun x y H Q => ∃ i j, x = .str i ∧ y = .str j ∧ i.length + j.length ≤ sizeLine ∧ Q (.str (i ++ j)) H
def rAddA (K : PySem.W.Frag) : R2 := fun x y H Q => rI0 (fun i j => .int (i + j)) x y H Q ∨ rAddStr x y H Q ∨ rCatA K x y H Q ∨ rCat x y H Q
theorem op_addA {X : Cx} : OpR X (binaryOp .Add) (rAddA X.K) := op_add.or (op_add_str.or (op_catA.or op_cat))
section
variable {z : Z}
theorem opd_add : OpD z (rAddA z.K) gAdd := by
  intro σ A ts H v u d e d' h hg Q q
  have key : ∀ {x y : D}, see A d = x → see A e = y → (∀ j, x ≠ .al j) → (∀ j, y ≠ .al j) → ∃ G L L', Same G H ∧ R z.K G H u y L ∧ R z.K G H v x L' ∧ Fin z.K z.B σ A ts H G := by
    intro x y e1 e2 n1 n2
    obtain ⟨G, L, L', gh, r1, r2, f⟩ := h.open2 (by rw [e2]; exact n2) (by rw [e1]; exact n1)
    exact ⟨G, L, L', gh, e2 ▸ r1, e1 ▸ r2, f⟩
  unfold gAdd at hg
  split at hg
  · rename_i i j h1 h2
    cases hg
    obtain ⟨G, L, L', gh, r1, r2, f⟩ := key h1 h2 (fun _ z => nomatch z) (fun _ z => nomatch z)
    cases r1; cases r2
    exact .inl ⟨i, j, rfl, rfl, q _ _ (f.known gh (.int _))⟩
  · rename_i x y h1 h2
    split at hg
    · rename_i hl
      cases hg
      obtain ⟨G, L, L', gh, r1, r2, f⟩ := key h1 h2 (fun _ z => nomatch z) (fun _ z => nomatch z)
      cases r1; cases r2
      exact .inr (.inl ⟨x, y, rfl, rfl, hl, q _ _ (f.known gh (.str _))⟩)
    · cases hg
  · rename_i ds es h1 h2
    split at hg
    · rename_i hl
      cases hg
      obtain ⟨G, L, L', gh, r1, r2, f⟩ := key h1 h2 (fun _ z => nomatch z) (fun _ z => nomatch z)
      cases r1 with | tup q1 s1 => cases r2 with | tup q2 s2 =>
      have e1 := s1.isFs hl.2.1
      have e2 := s2.isFs hl.1
      subst e1; subst e2
      refine .inr (.inr (.inl ⟨_, _, _, _, rfl, rfl, .inl (.inl (gh _ _ q2)), .inl (.inl (gh _ _ q1)), by rw [s1.length, s2.length]; exact hl.2.2, fun e => ?_, fun _ e => ?_, fun _ _ p hp => ?_⟩))
      · subst e
        have e3 : ds = [] := by have := s2.length; simpa using this.symm
        subst e3
        exact q _ _ (f.known gh (.tup q1 s1))
      · subst e
        have e3 : es = [] := by have := s1.length; simpa using this.symm
        subst e3
        rw [List.append_nil] at q
        exact q _ _ (f.known gh (.tup q2 s2))
      · exact q _ _ (f.tup gh (s2.cat s1) hp)
    · cases hg
  · split at hg
    · rename_i ds es h1 h2
      split at hg
      · rename_i hl
        cases hg
        obtain ⟨G, L, L', gh, r1, r2, f⟩ := h.open2 (exOf_al h2) (exOf_al h1)
        obtain ⟨a, xs, M, rfl, k1, s1⟩ := r2.ex gh h1
        obtain ⟨b, ys, M', rfl, k2, s2⟩ := r1.ex gh h2
        have e1 := s1.isFs hl.1
        have e2 := s2.isFs hl.2.1
        subst e1; subst e2
        exact .inr (.inr (.inr ⟨a, b, xs, ys, rfl, rfl, k1, k2, by rw [s1.length, s2.length]; exact hl.2.2, fun p hp => q _ _ (f.lst gh (s1.cat s2) hp)⟩))
      · cases hg
    · cases hg

/-! ### * -/
def gMulA (d e : D) (A : Sl) : Option D := match d, e with
  | .int i, .int j => if cMul i j = true then some (.int (i * j)) else none
  | d, .int k => match exOf (see A d) with
    | some ds => if isFs ds = true ∧ k.natAbs < 2 ^ 62 ∧ ds.length * k.toNat ≤ sizeLine then some (.mu (List.replicate k.toNat ds).flatten) else none
    | none => none
  | _, _ => none
def rMulA : R2 := fun x y H Q => rI CMul (fun i j => .int (i * j)) x y H Q ∨ rRep x y H Q
theorem op_mulA {X : Cx} : OpR X (binaryOp .Mult) rMulA := op_mul.or op_rep
theorem opd_mulA : OpD z rMulA gMulA := by
  intro σ A ts H v u d e d' h hg Q q
  unfold gMulA at hg
  split at hg
  · rename_i i j
    split at hg
    · rename_i hc
      cases hg
      refine .inl ⟨i, j, h.drop.int, h.int, ?_, q _ _ (h.drop.drop.pint _)⟩
      unfold cMul at hc
      rw [Bool.or_eq_true, decide_eq_true_iff, decide_eq_true_iff] at hc
      rcases hc with hc | hc
      · exact .inl (by omega)
      · exact .inr (by omega)
    · cases hg
  · rename_i k _
    split at hg
    · rename_i ds hs
      split at hg
      · rename_i hl
        cases hg
        have eu := h.int
        obtain ⟨G, L, gh, r, f⟩ := h.drop.open (exOf_al hs)
        obtain ⟨a, xs, M, rfl, k1, s1⟩ := r.ex gh hs
        have e1 := s1.isFs hl.1
        subst e1
        exact .inr ⟨a, k, xs, rfl, eu, k1, by omega, by omega, by rw [s1.length]; exact hl.2.2, fun p hp => q _ _ (f.lst gh (s1.rep _) hp)⟩
      · cases hg
    · cases hg
  · cases hg

/-! ### slices -/
abbrev FO := Sl → Ou (Option Int)
def pO (z : Z) (o : Ou (Option Int)) (σ : L2.St) (ts : Ts) (Q : Option Int → Hp → Prop) : Prop := match o with
  | .ok b A' => ∀ H', z.A σ A' ts H' → Q b H'
  | .exc c A' => ∀ H', z.A σ A' ts H' → z.W (z.cl c) none σ H'
  | .stuck => False
def tO (z : Z) (f : FO) : TO := fun σ H Q => ∃ A ts, z.A σ A ts H ∧ pO z (f A) σ ts Q
variable {X : Cx}
theorem PO.imp {e : Option Expr} {t t' : TO} (h : PO X e t) (hi : ∀ σ H Q, t' σ H Q → t σ H Q) : PO X e t' := ⟨fun pins s σ H Q I w => h.run pins s σ H Q I (hi σ H Q w)⟩
def fNoPart : FO := fun A => .ok none A
def fPart (f : FE) : FO := fun A => (f A).bind fun d A1 => match d with
  | .int i => .ok (some i) A1
  | _ => .stuck
theorem qo_none : PO X none (tO z fNoPart) := PO.imp po_none fun σ H Q ⟨A, ts, ha, hp⟩ => hp _ ha
theorem qo_some {e : Expr} {f : FE} (h : PE X e (tE z f)) : PO X (some e) (tO z (fPart f)) := PO.imp (po_some h) fun σ H Q ⟨A, ts, ha, hp⟩ => ⟨A, ts, ha, by
  unfold fPart at hp
  cases ea : f A with
  | stuck => rw [ea] at hp; exact hp.elim
  | exc c A1 => rw [ea] at hp; exact hp
  | ok d A1 =>
    rw [ea] at hp
    simp only [Ou.bind_ok] at hp
    intro v H1 h1
    cases d <;> try exact hp.elim
    exact ⟨_, h1.int, hp _ h1.drop⟩⟩
def cutG {α : Type} (xs : List α) (lo hi : Option Int) : List α := (xs.drop (HT.sIx xs.length 0 lo)).take (HT.sIx xs.length xs.length hi - HT.sIx xs.length 0 lo)
def gSl (d : D) (lo hi : Option Int) (A : Sl) : Option D := match see A d with
  | .str x => if x.length ≤ sizeLine then some (.str (cutS x lo hi)) else none
  | .tup ds => if isFs ds = true then some (.tup (cutG ds lo hi)) else none
  | s => match lsOf s with
    | some ds => if isFs ds = true then some (.mu (cutG ds lo hi)) else none
    | none => none
def fSl (fe : FE) (fl fh : FO) : FE := fun A => (fe A).bind fun d A1 => (fl A1).bind fun l A2 => (fh A2).bind fun h A3 => match gSl d l h A3 with
  | some r => .ok r A3
  | none => .stuck
def rSlAny (K : PySem.W.Frag) : V → Option Int → Option Int → Hp → VK → Prop := fun x lo hi H Q => rSlL K x lo hi H Q ∨ rSlA K x lo hi H Q ∨ rSlS x lo hi H Q
theorem sl_any : SlR X (rSlAny X.K) := sl_list.or (sl_tupA.or sl_str)
theorem sld_any {σ : L2.St} {A : Sl} {ts : Ts} {H : Hp} {v : V} {d d' : D} {lo hi : Option Int} (h : z.A σ A ((v, d) :: ts) H) (hg : gSl d lo hi A = some d') (Q : VK) (q : ∀ w H', z.A σ A ((w, d') :: ts) H' → Q w H') : rSlAny z.K v lo hi H Q := by
  unfold gSl at hg
  split at hg
  · rename_i x hx
    split at hg
    · rename_i hl
      cases hg
      obtain ⟨G, L, gh, r, f⟩ := h.open (fun j z => by rw [z] at hx; cases hx)
      rw [hx] at r
      cases r
      exact .inr (.inr ⟨x, rfl, hl, q _ _ (f.known gh (.str _))⟩)
    · cases hg
  · rename_i ds hx
    split at hg
    · rename_i hl
      cases hg
      obtain ⟨G, L, gh, r, f⟩ := h.open (fun j z => by rw [z] at hx; cases hx)
      rw [hx] at r
      cases r with | tup q1 s1 =>
      have e1 := s1.isFs hl
      subst e1
      refine .inr (.inl ⟨_, _, rfl, .inl (.inl (gh _ _ q1)), fun e => ?_, fun _ p hp => ?_⟩)
      · have e2 : cutG ds lo hi = ds := by
          unfold cutG
          rw [← s1.length, e.1, e.2, List.drop_zero, s1.length, Nat.sub_zero, List.take_length]
        rw [e2] at q
        exact q _ _ (f.known gh (.tup q1 s1))
      · refine q _ _ (f.tup gh ?_ hp)
        unfold cutV cutG
        rw [s1.length]
        exact (s1.drop _).take _
    · cases hg
  · split at hg
    · rename_i ds hs
      split at hg
      · rename_i hl
        cases hg
        obtain ⟨G, L, gh, r, f⟩ := h.open (lsOf_al hs)
        obtain ⟨a, xs, M, rfl, k1, s1⟩ := r.list gh hs
        have e1 := s1.isFs hl
        subst e1
        refine .inl ⟨a, xs, rfl, k1, fun p hp => q _ _ (f.lst gh ?_ hp)⟩
        unfold cutV cutG
        rw [s1.length]
        exact (s1.drop _).take _
      · cases hg
    · cases hg
theorem qe_slice {e : Expr} {lo hi : Option Expr} {fe : FE} {fl fh : FO} {pos p2 : Pos} (hK : X.K = z.K) (he : PE X e (tE z fe)) (hl : PO X lo (tO z fl)) (hh : PO X hi (tO z fh)) : PE X (.Subscript e (.Slice lo hi none p2) pos) (tE z (fSl fe fl fh)) := by
  refine PE.imp (pe_slice sl_any he hl hh) fun σ H Q ⟨A, ts, ha, hp⟩ => ⟨A, ts, ha, ?_⟩
  unfold fSl at hp
  cases ea : fe A with
  | stuck => rw [ea] at hp; exact hp.elim
  | exc c A1 => rw [ea] at hp; exact hp
  | ok d A1 =>
    rw [ea] at hp
    simp only [Ou.bind_ok] at hp
    intro v H1 h1
    refine ⟨A1, (v, d) :: ts, h1, ?_⟩
    cases eb : fl A1 with
    | stuck => rw [eb] at hp; exact hp.elim
    | exc c A2 => rw [eb] at hp; exact fun H' h' => hp H' h'.drop
    | ok l A2 =>
      rw [eb] at hp
      simp only [Ou.bind_ok] at hp
      intro H2 h2
      refine ⟨A2, (v, d) :: ts, h2, ?_⟩
      cases ec : fh A2 with
      | stuck => rw [ec] at hp; exact hp.elim
      | exc c A3 => rw [ec] at hp; exact fun H' h' => hp H' h'.drop
      | ok hh A3 =>
        rw [ec] at hp
        simp only [Ou.bind_ok] at hp
        intro H3 h3
        cases eg : gSl d l hh A3 with
        | none => rw [eg] at hp; exact hp.elim
        | some d' =>
          rw [eg] at hp
          rw [hK]
          exact sld_any h3 eg Q hp
end
end Ab
end
section
namespace Ab
open PySem PySem.Spec PyProof.Rows L2

/-! ### argument lists -/
def fNil : FA := fun A => .ok [] A
def fCons (f : FE) (g : FA) : FA := fun A => (f A).bind fun d A1 => (g A1).bind fun ds A2 => .ok (d :: ds) A2
section
variable {z : Z} {X : Cx}
theorem qa_nil : PA X [] (tA z fNil) := PA.imp pa_nil fun σ H Q ⟨A, ts, ha, hp⟩ => hp [] _ rfl ha
theorem qa_cons {e : Expr} {es : List Expr} {f : FE} {g : FA} (ha : PE X e (tE z f)) (hr : PA X es (tA z g)) (hs : starEach (e :: es) X.env = (false, eval e X.env) :: starEach es X.env := by rfl) : PA X (e :: es) (tA z (fCons f g)) := by
  refine PA.imp (pa_cons ha hr hs) fun σ H Q ⟨A, ts, hA, hp⟩ => ⟨A, ts, hA, ?_⟩
  unfold fCons at hp
  cases ea : f A with
  | stuck => rw [ea] at hp; exact hp.elim
  | exc c A1 => rw [ea] at hp; exact hp
  | ok d A1 =>
    rw [ea] at hp
    simp only [Ou.bind_ok] at hp
    intro v H1 h1
    refine ⟨A1, (v, d) :: ts, h1, ?_⟩
    cases eb : g A1 with
    | stuck => rw [eb] at hp; exact hp.elim
    | exc c A2 => rw [eb] at hp; exact fun H' h' => hp H' h'.drop
    | ok ds A2 =>
      rw [eb] at hp
      intro vs H2 hl h2
      refine hp (v :: vs) H2 (by simp [hl]) (h2.perm ?_)
      simpa using List.perm_middle
/-! ### an argument list whose aliases are frozen -/
def closeL : List D → Sl → Option (List D × Sl)
  | [], A => some ([], A)
  | d :: ds, A => match d with
    | .al i => match A[i]? with
      | some (some t) => match closeL ds (A.set i (some (fz t))) with
        | some (es, A') => some (fz t :: es, A')
        | none => none
      | _ => none
    | d => match closeL ds A with
      | some (es, A') => some (d :: es, A')
      | none => none
theorem fz_al : ∀ d : D, (∀ i, d ≠ .al i) → ∀ i, fz d ≠ .al i := by
  intro d h i e
  cases d <;> simp only [fz] at e <;> first | exact h _ rfl | exact nomatch e
theorem noAl_cons {d : D} {ds : List D} (h : ∀ i, d ≠ .al i) (h2 : noAl ds = true) : noAl (d :: ds) = true := by
  unfold noAl at h2 ⊢
  rw [List.all_cons, h2, Bool.and_true]
  cases d <;> first | rfl | exact absurd rfl (h _)
/-- what a slot bears is no alias -/
theorem Abs.slot_al {K : Fw} {B : Bs} {σ : L2.St} {A : Sl} {ts : Ts} {H : Hp} {i : Nat} {d : D} (h : Abs K B σ A ts H) (e : A[i]? = some (some d)) : ∀ j, d ≠ .al j := fun j q => by
  obtain ⟨G, L1, L2, gd, tm, sl, nd, ow⟩ := h
  obtain ⟨v, Li, L', _, r, _, _⟩ := sl.take e
  subst q
  exact r.not_al
theorem Abs.close {K : Fw} {B : Bs} {σ : L2.St} {H : Hp} : ∀ {ds : List D} {vs : List V} {A : Sl} {ts : Ts} {es : List D} {A' : Sl}, vs.length = ds.length → Abs K B σ A (vs.zip ds ++ ts) H → closeL ds A = some (es, A') →
    Abs K B σ A' (vs.zip es ++ ts) H ∧ vs.length = es.length ∧ noAl es = true
  | [], [], A, ts, es, A', _, h, hc => by
    simp only [closeL] at hc
    cases hc
    exact ⟨h, rfl, rfl⟩
  | d :: ds, v :: vs, A, ts, es, A', hl, h, hc => by
    have go : ∀ {d' : D} {A1 : Sl} {es1 : List D}, (∀ i, d' ≠ .al i) → Abs K B σ A1 ((v, d') :: (vs.zip ds ++ ts)) H → closeL ds A1 = some (es1, A') → Abs K B σ A' ((v :: vs).zip (d' :: es1) ++ ts) H ∧ (v :: vs).length = (d' :: es1).length ∧ noAl (d' :: es1) = true := by
      intro d' A1 es1 nd h1 hc1
      have h2 : Abs K B σ A1 (vs.zip ds ++ (v, d') :: ts) H := h1.perm (by simpa using (List.perm_middle (l₁ := vs.zip ds) (a := (v, d')) (l₂ := ts)).symm)
      obtain ⟨h3, l3, n3⟩ := Abs.close (by simpa using hl) h2 hc1
      exact ⟨h3.perm (by simpa using List.perm_middle), by simp [l3], noAl_cons nd n3⟩
    unfold closeL at hc
    split at hc
    · rename_i i
      split at hc
      · rename_i t et
        split at hc
        · rename_i es1 A1 e1
          cases hc
          have h1 := h.frz et
          exact go (fz_al t (h.slot_al et)) h1 e1
        · cases hc
      · cases hc
    · rename_i hna
      split at hc
      · rename_i es1 A1 e1
        cases hc
        exact go (fun i q => hna i q) h e1
      · cases hc
  | [], _ :: _, _, _, _, _, hl, _, _ => by simp at hl
  | _ :: _, [], _, _, _, _, hl, _, _ => by simp at hl

/-! ### displays -/
def fTup (fa : FA) : FE := fun A => (fa A).bind fun ds A1 => match closeL ds A1 with
  | some (es, A2) => if es.length ≤ sizeLine then .ok (.tup es) A2 else .stuck
  | none => .stuck
def fLst (fa : FA) : FE := fun A => (fa A).bind fun ds A1 => match closeL ds A1 with
  | some (es, A2) => if es.length ≤ sizeLine then .ok (.mu es) A2 else .stuck
  | none => .stuck
theorem qe_tup {es : List Expr} {k : Nat} {pos : Pos} {fa : FA} (h : PA X es (tA z fa)) : PE X (.Tuple es k pos) (tE z (fTup fa)) := by
  refine PE.imp (pe_tup h) fun σ H Q ⟨A, ts, hA, hp⟩ => ⟨A, ts, hA, ?_⟩
  unfold fTup at hp
  cases ea : fa A with
  | stuck => rw [ea] at hp; exact hp.elim
  | exc c A1 => rw [ea] at hp; exact hp
  | ok ds A1 =>
    rw [ea] at hp
    simp only [Ou.bind_ok] at hp
    intro vs H1 hl h1
    split at hp
    · rename_i es' A2 ec
      obtain ⟨h2, l2, n2⟩ := h1.close hl ec
      split at hp
      · rename_i hz
        exact ⟨by rw [l2]; exact hz, fun p hpn => hp _ _ (h2.tup l2 n2 hpn)⟩
      · exact hp.elim
    · exact hp.elim
theorem qe_lst {es : List Expr} {pos : Pos} {fa : FA} (h : PA X es (tA z fa)) : PE X (.List es pos) (tE z (fLst fa)) := by
  refine PE.imp (pe_lst h) fun σ H Q ⟨A, ts, hA, hp⟩ => ⟨A, ts, hA, ?_⟩
  unfold fLst at hp
  cases ea : fa A with
  | stuck => rw [ea] at hp; exact hp.elim
  | exc c A1 => rw [ea] at hp; exact hp
  | ok ds A1 =>
    rw [ea] at hp
    simp only [Ou.bind_ok] at hp
    intro vs H1 hl h1
    split at hp
    · rename_i es' A2 ec
      obtain ⟨h2, l2, n2⟩ := h1.close hl ec
      split at hp
      · rename_i hz
        exact ⟨by rw [l2]; exact hz, fun p hpn => hp _ _ (h2.lst l2 n2 hpn)⟩
      · exact hp.elim
    · exact hp.elim

/-! ### calls of built-ins by values -/
def CallD (z : Z) (r : List V → Hp → VK → Prop) (g : List D → Sl → Option D) : Prop :=
  ∀ (σ : L2.St) (A : Sl) (ts : Ts) (H : Hp) (vs : List V) (ds : List D) (d' : D), vs.length = ds.length → z.A σ A (vs.zip ds ++ ts) H → g ds A = some d' → ∀ Q : VK, (∀ w H', z.A σ A ((w, d') :: ts) H' → Q w H') → r vs H Q
def fCB (g : List D → Sl → Option D) (fa : FA) : FE := fun A => (fa A).bind fun ds A1 => match g ds A1 with
  | some d => .ok d A1
  | none => .stuck
theorem cb_go {r : List V → Hp → VK → Prop} {g : List D → Sl → Option D} {fa : FA} (hd : CallD z r g) {σ : L2.St} {H : Hp} {Q : VK} (h : tE z (fCB g fa) σ H Q) : tCB r (tA z fa) σ H Q := by
  obtain ⟨A, ts, hA, hp⟩ := h
  refine ⟨A, ts, hA, ?_⟩
  unfold fCB at hp
  cases ea : fa A with
  | stuck => rw [ea] at hp; exact hp.elim
  | exc c A1 => rw [ea] at hp; exact hp
  | ok ds A1 =>
    rw [ea] at hp
    simp only [Ou.bind_ok] at hp
    intro vs H1 hl h1
    split at hp
    · rename_i d eg
      exact hd _ _ _ _ _ _ _ hl h1 eg Q hp
    · exact hp.elim
theorem qe_callB {id : String} {x : Str} {e : Expr} {es : List Expr} {p pos : Pos} {r : List V → Hp → VK → Prop} {g : List D → Sl → Option D} {fa : FA} (hc : CallR X (.builtin id) r) (hd : CallD z r g) (hg : Gl X x) (hm : X.mg x = none) (hv : bootBuiltins x = some (.builtin id))
    (ha : PA X (e :: es) (tA z fa)) (hn : x ≠ "__name__" := by decide) (hdb : (x == ("__debug__" : Str)) = false := by decide) (he : starEach (e :: es) X.env = (false, eval e X.env) :: starEach es X.env := by rfl)
    (hpl : (backTo pos (starEach es X.env)).any (·.1) = false := by rfl) : PE X (.Call (.Name x p) (e :: es) [] pos) (tE z (fCB g fa)) := PE.imp (pe_callB hc hg hm hv ha hn hdb he hpl) fun _ _ _ h => cb_go hd h
theorem qe_callTy {T : String} {x : Str} {e : Expr} {es : List Expr} {p pos : Pos} {r : List V → Hp → VK → Prop} {g : List D → Sl → Option D} {fa : FA} (hc : CallR X (.type T) r) (hd : CallD z r g) (hg : Gl X x) (hm : X.mg x = none) (hv : bootBuiltins x = some (.type T))
    (ha : PA X (e :: es) (tA z fa)) (hn : x ≠ "__name__" := by decide) (hdb : (x == ("__debug__" : Str)) = false := by decide) (he : starEach (e :: es) X.env = (false, eval e X.env) :: starEach es X.env := by rfl)
    (hpl : (backTo pos (starEach es X.env)).any (·.1) = false := by rfl) : PE X (.Call (.Name x p) (e :: es) [] pos) (tE z (fCB g fa)) := PE.imp (pe_callTy hc hg hm hv ha hn hdb he hpl) fun _ _ _ h => cb_go hd h
/-- one argument -/
theorem call1 {vs : List V} {ds : List D} {d : D} (hl : vs.length = ds.length) (e : ds = [d]) : ∃ v, vs = [v] := by
  subst e
  match vs, hl with
  | [v], _ => exact ⟨v, rfl⟩
theorem call2 {vs : List V} {ds : List D} {d e : D} (hl : vs.length = ds.length) (h : ds = [d, e]) : ∃ v u, vs = [v, u] := by
  subst h
  match vs, hl with
  | [v, u], _ => exact ⟨v, u, rfl⟩
/-! len -/
def gLen (ds : List D) (A : Sl) : Option D := match ds with
  | [d] => match see A d with
    | .str x => if x.length ≤ sizeLine then some (.int x.length) else none
    | s => match sqOf s with
      | some es => some (.int es.length)
      | none => none
  | _ => none
theorem cd_len : CallD z (fun xs H Q => ∃ x n, xs = [x] ∧ LenV z.K x H n ∧ Q (.int n) H) gLen := by
  intro σ A ts H vs ds d' hl h hg Q q
  unfold gLen at hg
  split at hg
  · rename_i d
    obtain ⟨v, rfl⟩ := call1 hl rfl
    have h : z.A σ A ((v, d) :: ts) H := h
    split at hg
    · rename_i x hx
      split at hg
      · rename_i hz
        cases hg
        obtain ⟨G, L, gh, r, f⟩ := h.open (fun j z => by rw [z] at hx; cases hx)
        rw [hx] at r; cases r
        exact ⟨_, _, rfl, ⟨hz, rfl⟩, q _ _ (f.known gh (.int _))⟩
      · cases hg
    · split at hg
      · rename_i es hs
        cases hg
        obtain ⟨G, L, gh, r, f⟩ := h.open (sqOf_al hs)
        obtain ⟨a, xs, M, rfl, rs, k⟩ := r.seq2 gh hs
        refine ⟨_, es.length, rfl, ?_, q _ _ (f.known gh (.int _))⟩
        rcases k with ⟨_, k⟩ | ⟨_, k, _⟩
        · exact .inl ⟨xs, k, rs.length.symm⟩
        · exact .inr ⟨xs, k, rs.length.symm⟩
      · cases hg
  · cases hg
/-! tuple(x), list(x) of lists and tuples -/
def gTuple (ds : List D) (A : Sl) : Option D := match ds with
  | [d] => match sqOf (see A d) with
    | some es => if isFs es = true then some (.tup es) else none
    | none => none
  | _ => none
theorem cd_tuple : CallD z (fun xs H Q => ∃ p ys, xs = [.ref p] ∧ ((SqL z.K H p ys ∧ ∀ l, H l = none → Q (.ref l) (upd H l (.tup ys))) ∨ (SqT z.K H p ys ∧ Q (.ref p) H))) gTuple := by
  intro σ A ts H vs ds d' hl h hg Q q
  unfold gTuple at hg
  split at hg
  · rename_i d
    obtain ⟨v, rfl⟩ := call1 hl rfl
    have h : z.A σ A ((v, d) :: ts) H := h
    split at hg
    · rename_i es hs
      split at hg
      · rename_i hf
        cases hg
        obtain ⟨G, L, gh, r, f⟩ := h.open (sqOf_al hs)
        obtain ⟨a, xs, M, rfl, rs, k⟩ := r.seq2 gh hs
        have e1 := rs.isFs hf
        subst e1
        refine ⟨a, xs, rfl, ?_⟩
        rcases k with ⟨_, k⟩ | ⟨ek, k, kr⟩
        · exact .inl ⟨k, fun l hln => q _ _ (f.tup gh rs hln)⟩
        · rw [ek] at kr
          exact .inr ⟨k, q _ _ (f.known gh (kr rfl))⟩
      · cases hg
    · cases hg
  · cases hg
def gList (ds : List D) (A : Sl) : Option D := match ds with
  | [d] => match sqOf (see A d) with
    | some es => if isFs es = true then some (.mu es) else none
    | none => none
  | _ => none
theorem cd_list : CallD z (fun xs H Q => ∃ p ys, xs = [.ref p] ∧ (SqL z.K H p ys ∨ SqT z.K H p ys) ∧ ∀ l, H l = none → Q (.ref l) (upd H l (.lst ys))) gList := by
  intro σ A ts H vs ds d' hl h hg Q q
  unfold gList at hg
  split at hg
  · rename_i d
    obtain ⟨v, rfl⟩ := call1 hl rfl
    have h : z.A σ A ((v, d) :: ts) H := h
    split at hg
    · rename_i es hs
      split at hg
      · rename_i hf
        cases hg
        obtain ⟨G, L, gh, r, f⟩ := h.open (sqOf_al hs)
        obtain ⟨a, xs, M, rfl, rs, k⟩ := r.seq2 gh hs
        have e1 := rs.isFs hf
        subst e1
        refine ⟨a, xs, rfl, ?_, fun l hln => q _ _ (f.lst gh rs hln)⟩
        rcases k with ⟨_, k⟩ | ⟨_, k, _⟩
        · exact .inl k
        · exact .inr k
      · cases hg
    · cases hg
  · cases hg
/-! min, max of two ints; int(bool), int(int) -/
def gMin2 (ds : List D) (A : Sl) : Option D := match ds with
  | [.int i, .int j] => some (.int (if j < i then j else i))
  | _ => none
def gMax2 (ds : List D) (A : Sl) : Option D := match ds with
  | [.int i, .int j] => some (.int (if j > i then j else i))
  | _ => none
theorem cd_min2 : CallD z (fun xs H Q => ∃ i j, xs = [.int i, .int j] ∧ Q (.int (if j < i then j else i)) H) gMin2 := by
  intro σ A ts H vs ds d' hl h hg Q q
  unfold gMin2 at hg
  split at hg
  · rename_i i j
    cases hg
    obtain ⟨v, u, rfl⟩ := call2 hl rfl
    have h : z.A σ A ((v, .int i) :: (u, .int j) :: ts) H := h
    rw [h.int, h.drop.int]
    exact ⟨i, j, rfl, q _ _ (h.drop.drop.pint _)⟩
  · cases hg
theorem cd_max2 : CallD z (fun xs H Q => ∃ i j, xs = [.int i, .int j] ∧ Q (.int (if j > i then j else i)) H) gMax2 := by
  intro σ A ts H vs ds d' hl h hg Q q
  unfold gMax2 at hg
  split at hg
  · rename_i i j
    cases hg
    obtain ⟨v, u, rfl⟩ := call2 hl rfl
    have h : z.A σ A ((v, .int i) :: (u, .int j) :: ts) H := h
    rw [h.int, h.drop.int]
    exact ⟨i, j, rfl, q _ _ (h.drop.drop.pint _)⟩
  · cases hg
/-! isinstance against a built-in class -/
def tyN : D → Option String
  | .non => some "NoneType" | .bl _ => some "bool" | .int _ => some "int" | .str _ => some "str"
  | .tup _ => some "tuple" | .lst _ => some "list" | .mu _ => some "list"
  | _ => none
def gIsi (ds : List D) (A : Sl) : Option D := match ds with
  | [d, .ty n] => match tyN (see A d) with
    | some m => (kitB m n).map .bl
    | none => none
  | _ => none
theorem tyN_al {A : Sl} {d : D} {n : String} (h : tyN (see A d) = some n) : ∀ j, see A d ≠ .al j := fun j e => by rw [e] at h; cases h
theorem R.tyOf {K : Fw} {G H : Hp} {v : V} {d : D} {L : List Addr} {n : String} (g : Same G H) (r : R K G H v d L) (h : tyN d = some n) : TyOf K H v (.type n) := by
  cases r <;> simp only [tyN] at h <;> cases h
  · exact .non
  · exact .bl _
  · exact .int _
  · exact .str _
  · rename_i q _; exact .tup (g _ _ q)
  · rename_i q _; exact .lst (g _ _ q)
  · rename_i e _ _; exact .lst e
theorem cd_isi : CallD z (rIsi z.K) gIsi := by
  intro σ A ts H vs ds d' hl h hg Q q
  unfold gIsi at hg
  split at hg
  · rename_i d n
    obtain ⟨v, u, rfl⟩ := call2 hl rfl
    have h : z.A σ A ((v, d) :: (u, .ty n) :: ts) H := h
    split at hg
    · rename_i m hm
      cases hk : kitB m n with
      | none => rw [hk] at hg; cases hg
      | some b =>
        rw [hk] at hg
        cases hg
        obtain ⟨G, L, gh, r, f⟩ := h.open (tyN_al hm)
        obtain ⟨G2, L2', gh2, r2, f2⟩ := h.drop.open (fun j z => by cases z)
        cases r2
        exact ⟨v, _, _, _, b, rfl, .ty n, .base (r.tyOf gh hm), kit_ty hk, q _ _ (f2.known gh2 (.bl _))⟩
    · cases hg
  · cases hg

/-! ### what a def does: by a plain function of told values -/
inductive Ro where
  | ok (d : D) | exc (c : Str) | stuck
/-- the promise: known arguments ds, the outcome F ds; what comes is new where it is not known -/
def spF (K : Fw) (cl : Str → Value) (n : Nat) (F : List D → Ro) : Sp := fun vs H Q E => ∃ G ds, Same G H ∧ ds.length = n ∧ Rs K G G vs ds [] ∧ match F ds with
  | .ok r => ∀ v H' G' L, Same H H' → Same G G' → Same G' H' → (∀ a, H a ≠ none → G a = none → G' a = none) → R K G' H' v r L → L.Nodup → (∀ a ∈ L, H a = none) → Q v H'
  | .exc c => ∀ H', Same H H' → E (cl c) none H'
  | .stuck => False
/-- all aliases and all that is owned frozen -/
def isScal : D → Bool
  | .non => true | .bl _ => true | .int _ => true | .str _ => true
  | _ => false
/-- .. but where the answer is a scalar, slots keep what they own -/
def fCall (F : List D → Ro) (fa : FA) : FE := fun A => (fa A).bind fun ds A1 => match closeL ds A1 with
  | some (es, A2) => match F (fzs es) with
    | .ok r => if isScal r = true then .ok r A1 else .ok r A2
    | .exc c => .exc c A1
    | .stuck => .stuck
  | none => .stuck
theorem R.scal {K : Fw} {G H : Hp} {v : V} {d : D} {L : List Addr} (r : R K G H v d L) (h : isScal d = true) : ∀ G' H', R K G' H' v d [] := by
  cases r <;> first | exact fun _ _ => .non | exact fun _ _ => .bl _ | exact fun _ _ => .int _ | exact fun _ _ => .str _ | (simp [isScal] at h)
theorem Rs.unown {K : Fw} {G H H' : Hp} {vs : List V} {ds : List D} (r : Rs K G H vs ds []) : Rs K G H' vs ds [] := r.free fun _ _ e => e
theorem fzs_length (ds : List D) : (fzs ds).length = ds.length := by rw [fzs_map, List.length_map]
/-- the arguments of a call, all frozen: what they are and how one goes on -/
theorem Abs.args {K : Fw} {B : Bs} {σ : L2.St} {A : Sl} {ts : Ts} {H : Hp} {vs : List V} {es : List D} (hl : vs.length = es.length) (hn : noAl es = true) (h : Abs K B σ A (vs.zip es ++ ts) H) :
    ∃ G, Same G H ∧ Rs K G H vs (fzs es) [] ∧ Fin K B σ A ts H G ∧ Abs K B σ A ts H := by
  obtain ⟨G, L1, L2, gd, tm, sl, nd, ow⟩ := h
  obtain ⟨La, Lb, rs, t, rfl⟩ := tm.split hl hn
  have oa : ∀ a ∈ La, G a = none ∧ H a ≠ none := rs.own
  have g1 : Same G (grab G H La) := grab_same fun a ha => (oa a ha).1
  have ap : ∀ a ∈ Lb ++ L2, a ∉ La := fun a ha hb => by
    rw [List.append_assoc] at nd
    exact (List.nodup_append.mp nd).2.2 a hb a ha rfl
  have gd' := gd.grab oa fun a ha => ow a (List.mem_append_left _ (List.mem_append_left _ ha))
  have t' : Tms K σ (grab G H La) H ts Lb := t.mono g1 fun a ha => ⟨rfl, grab_keep (ap a (List.mem_append_left _ ha)) (t.own a ha).1⟩
  have s' : Sls K (grab G H La) H σ A L2 := sl.mono g1 fun a ha => ⟨rfl, grab_keep (ap a (List.mem_append_right _ ha)) (sl.own a ha).1⟩
  have nd' : (Lb ++ L2).Nodup := by rw [List.append_assoc] at nd; exact (List.nodup_append.mp nd).2.1
  have ow' : ∀ a ∈ Lb ++ L2, Own B a := fun a ha => ow a (by rw [List.append_assoc]; exact List.mem_append_right _ ha)
  exact ⟨grab G H La, gd'.gh, Rs.fzs g1 rs fun a ha => grab_in ha, fun w e H' G' L' he g1 g2 g3 r rn rf => step_core gd' t' s' nd' ow' he g1 g2 g3 r rn rf, grab G H La, Lb, L2, gd', t', s', nd', ow'⟩
/-- the reading of a call, for a wish about exceptions W -/
theorem call_go {n : Nat} {F : List D → Ro} {fa : FA} (hlen : ∀ ds, F ds ≠ .stuck → ds.length = n) {σ : L2.St} {H : Hp} {Q : VK} (h : tE z (fCall F fa) σ H Q) : tCallS (spF z.K z.cl n F) (WE z.W) (tA z fa) σ H Q := by
  obtain ⟨A, ts, hA, hp⟩ := h
  refine ⟨A, ts, hA, ?_⟩
  unfold fCall at hp
  cases ea : fa A with
  | stuck => rw [ea] at hp; exact hp.elim
  | exc c A1 => rw [ea] at hp; exact hp
  | ok ds A1 =>
    rw [ea] at hp
    simp only [Ou.bind_ok] at hp
    intro vs H1 hl h1
    split at hp
    · rename_i es A2 ec
      obtain ⟨h2, l2, n2⟩ := h1.close hl ec
      obtain ⟨G, gh, rs, f, ab⟩ := h2.args l2 n2
      cases eF : F (fzs es) with
      | stuck => rw [eF] at hp; exact hp.elim
      | exc c =>
        rw [eF] at hp
        refine ⟨G, fzs es, gh, hlen _ (by rw [eF]; exact fun z => nomatch z), rs.unown, ?_⟩
        rw [eF]
        exact fun H' he => hp H' (h1.dropn.same he)
      | ok r =>
        rw [eF] at hp
        refine ⟨G, fzs es, gh, hlen _ (by rw [eF]; exact fun z => nomatch z), rs.unown, ?_⟩
        rw [eF]
        intro v H' G' L he g1 g2 g3 rr rn rf
        simp only at hp
        split at hp
        · rename_i hs
          exact hp v H' ((h1.dropn.same he).scal fun G2 => rr.scal hs G2 H')
        · exact hp v H' (f v r H' G' L he g1 g2 g3 rr rn rf)
    · exact hp.elim
theorem qe_call {k n : Nat} {f : Addr} {fd : FuncData} {ps : List Str} {F : List D → Ro} {fa : FA} {x : Str} {e : Expr} {es : List Expr} {p pos : Pos} (hlen : ∀ ds, F ds ≠ .stuck → ds.length = n) (hK : X.K = z.K) (tk : Takes X z.W)
    (Fk : FnOk X.prog X.w X.K X.mg X.base (L2.CX X.prog X.w) k f fd ps (spF z.K z.cl n F)) (hr : Room k X.A) (hg : Gl X x) (hm : X.mg x = some (.ref f)) (hk : PySem.W.keepIn X.K (.ref f) = true) (hb : L2.Binds X.K fd ps [])
    (ha : PA X (e :: es) (tA z fa)) (hdb : (x == ("__debug__" : Str)) = false := by decide) (he : starEach (e :: es) X.env = (false, eval e X.env) :: starEach es X.env := by rfl) (hpl : (backTo pos (starEach es X.env)).any (·.1) = false := by rfl) :
    PE X (.Call (.Name x p) (e :: es) [] pos) (tE z (fCall F fa)) :=
  PE.imp (pe_callS Fk hr hg hm hk hb (fun σ => passAt tk σ) ha hdb he hpl) fun σ H Q h => call_go hlen h
end
end Ab
end
section
namespace Ab
open PySem PySem.Spec PyProof.Rows L2

/-! ### tests -/
def fB (f : FE) : FT := fun A => (f A).bind fun d A1 => match d with
  | .bl b => .ok b A1
  | _ => .stuck
def fAnd (f g : FT) : FT := fun A => (f A).bind fun b A1 => if b = true then g A1 else .ok false A1
def fOr (f g : FT) : FT := fun A => (f A).bind fun b A1 => if b = true then .ok true A1 else g A1
def fNot (f : FT) : FT := fun A => (f A).bind fun b A1 => .ok (!b) A1
def fAndV (f g : FE) : FE := fun A => (f A).bind fun d A1 => match d with
  | .bl b => if b = true then g A1 else .ok (.bl false) A1
  | _ => .stuck
def fOrV (f g : FE) : FE := fun A => (f A).bind fun d A1 => match d with
  | .bl b => if b = true then .ok (.bl true) A1 else g A1
  | _ => .stuck
def fNotV (f : FE) : FE := fun A => (f A).bind fun d A1 => match d with
  | .bl b => .ok (.bl (!b)) A1
  | _ => .stuck
section
variable {z : Z} {X : Cx} {a b : Expr} {rest : List Expr} {pos : Pos} {fa fb : FE} {ga gb : FT}
theorem b_go {σ : L2.St} {H : Hp} {Q : Bool → Hp → Prop} (h : tT z (fB fa) σ H Q) : tB (tE z fa) σ H Q := by
  obtain ⟨A, ts, hA, hp⟩ := h
  refine ⟨A, ts, hA, ?_⟩
  unfold fB at hp
  cases ea : fa A with
  | stuck => rw [ea] at hp; exact hp.elim
  | exc c A1 => rw [ea] at hp; exact hp
  | ok d A1 =>
    rw [ea] at hp
    simp only [Ou.bind_ok] at hp
    intro v H1 h1
    cases d <;> first | exact hp.elim | exact ⟨_, h1.bl, hp _ h1.drop⟩
theorem qt_val (h : PE X a (tE z fa)) (he : ∀ whole, isTrue a X.env whole = (do let v ← whole; standAt a.pos; holding [v] (truthy v)) := by intro _; rfl) : PT X a (tT z (fB fa)) := PT.imp (pt_val h he) fun _ _ _ h => b_go h
/-- a comparison as a test -/
theorem qt_cmp {op : CmpOp} {r : R2} {g : D → D → Sl → Option D} (ho : OpR X (compareOp op) r) (hd : OpD z r g) (ha : PE X a (tE z fa)) (hb : PE X b (tE z fb)) (hm : behindInMarks op b = false) : PT X (.Compare a [op] [b] pos) (tT z (fB (fBin g fa fb))) := by
  refine PT.imp (pt_cmpR ho ha hb hm) fun σ H Q h => ?_
  have h2 := b_go h
  exact bin_go (Q := fun x H' => ∃ k, x = .bl k ∧ Q k H') hd (show tE z (fBin g fa fb) σ H fun x H' => ∃ k, x = .bl k ∧ Q k H' from h2)
theorem qt_not (h : PT X a (tT z ga)) : PT X (.UnaryOp .Not a pos) (tT z (fNot ga)) := PT.imp (pt_not h) fun σ H Q ⟨A, ts, hA, hp⟩ => ⟨A, ts, hA, by
  unfold fNot at hp
  cases ea : ga A with
  | stuck => rw [ea] at hp; exact hp.elim
  | exc c A1 => rw [ea] at hp; exact hp
  | ok d A1 => rw [ea] at hp; exact hp⟩
theorem and_go {σ : L2.St} {H : Hp} {Q : Bool → Hp → Prop} (h : tT z (fAnd ga gb) σ H Q) : tAnd (tT z ga) (tT z gb) σ H Q := by
  obtain ⟨A, ts, hA, hp⟩ := h
  refine ⟨A, ts, hA, ?_⟩
  unfold fAnd at hp
  cases ea : ga A with
  | stuck => rw [ea] at hp; exact hp.elim
  | exc c A1 => rw [ea] at hp; exact hp
  | ok d A1 =>
    rw [ea] at hp
    intro H1 h1
    cases d with
    | true => exact ⟨A1, ts, h1, hp⟩
    | false => exact hp _ h1
theorem or_go {σ : L2.St} {H : Hp} {Q : Bool → Hp → Prop} (h : tT z (fOr ga gb) σ H Q) : tOr (tT z ga) (tT z gb) σ H Q := by
  obtain ⟨A, ts, hA, hp⟩ := h
  refine ⟨A, ts, hA, ?_⟩
  unfold fOr at hp
  cases ea : ga A with
  | stuck => rw [ea] at hp; exact hp.elim
  | exc c A1 => rw [ea] at hp; exact hp
  | ok d A1 =>
    rw [ea] at hp
    intro H1 h1
    cases d with
    | true => exact hp _ h1
    | false => exact ⟨A1, ts, h1, hp⟩
theorem PW.imp {e : Expr} {t t' : TT} (h : PW X e t) (hi : ∀ σ H Q, t' σ H Q → t σ H Q) : PW X e t' := ⟨fun wh pins s σ H Q I w => h.run wh pins s σ H Q I (hi σ H Q w)⟩
theorem qw_and1 (h : PT X a (tT z ga)) : PW X (.BoolOp .And [a] pos) (tT z ga) := pw_and1 h
theorem qw_or1 (h : PT X a (tT z ga)) : PW X (.BoolOp .Or [a] pos) (tT z ga) := pw_or1 h
theorem qw_and (h : PT X a (tT z ga)) (hb : PW X (.BoolOp .And (b :: rest) pos) (tT z gb)) : PW X (.BoolOp .And (a :: b :: rest) pos) (tT z (fAnd ga gb)) := PW.imp (pw_and h hb) fun _ _ _ h => and_go h
theorem qw_or (h : PT X a (tT z ga)) (hb : PW X (.BoolOp .Or (b :: rest) pos) (tT z gb)) : PW X (.BoolOp .Or (a :: b :: rest) pos) (tT z (fOr ga gb)) := PW.imp (pw_or h hb) fun _ _ _ h => or_go h
theorem qe_one {op} (h : PE X a (tE z fa)) : PE X (.BoolOp op [a] pos) (tE z fa) := pe_one h
theorem qe_and (h : PE X a (tE z fa)) (hb : PE X (.BoolOp .And (b :: rest) pos) (tE z fb)) : PE X (.BoolOp .And (a :: b :: rest) pos) (tE z (fAndV fa fb)) := PE.imp (pe_and h hb) fun σ H Q ⟨A, ts, hA, hp⟩ => ⟨A, ts, hA, by
  unfold fAndV at hp
  cases ea : fa A with
  | stuck => rw [ea] at hp; exact hp.elim
  | exc c A1 => rw [ea] at hp; exact hp
  | ok d A1 =>
    rw [ea] at hp
    simp only [Ou.bind_ok] at hp
    intro v H1 h1
    cases d <;> try exact hp.elim
    rename_i b
    refine ⟨b, h1.bl, ?_⟩
    cases b with
    | true => exact ⟨A1, ts, h1.drop, hp⟩
    | false => exact hp _ _ (h1.drop.pbl _)⟩
theorem qe_or (h : PE X a (tE z fa)) (hb : PE X (.BoolOp .Or (b :: rest) pos) (tE z fb)) : PE X (.BoolOp .Or (a :: b :: rest) pos) (tE z (fOrV fa fb)) := PE.imp (pe_or h hb) fun σ H Q ⟨A, ts, hA, hp⟩ => ⟨A, ts, hA, by
  unfold fOrV at hp
  cases ea : fa A with
  | stuck => rw [ea] at hp; exact hp.elim
  | exc c A1 => rw [ea] at hp; exact hp
  | ok d A1 =>
    rw [ea] at hp
    simp only [Ou.bind_ok] at hp
    intro v H1 h1
    cases d <;> try exact hp.elim
    rename_i b
    refine ⟨b, h1.bl, ?_⟩
    cases b with
    | true => exact hp _ _ (h1.drop.pbl _)
    | false => exact ⟨A1, ts, h1.drop, hp⟩⟩
theorem qe_not (h : PE X a (tE z fa)) : PE X (.UnaryOp .Not a pos) (tE z (fNotV fa)) := PE.imp (pe_not h) fun σ H Q ⟨A, ts, hA, hp⟩ => ⟨A, ts, hA, by
  unfold fNotV at hp
  cases ea : fa A with
  | stuck => rw [ea] at hp; exact hp.elim
  | exc c A1 => rw [ea] at hp; exact hp
  | ok d A1 =>
    rw [ea] at hp
    simp only [Ou.bind_ok] at hp
    intro v H1 h1
    cases d <;> try exact hp.elim
    exact ⟨_, h1.bl, hp _ _ (h1.drop.pbl _)⟩⟩
end

/-! ### statements -/
def pS (z : Z) (o : Ou Fl) (D : Ends) (ts : Ts) : Prop := match o with
  | .ok .next A' => ∀ σ' H', z.A σ' A' ts H' → D.nx σ' H'
  | .ok .brk A' => ∀ σ' H', z.A σ' A' ts H' → D.bk σ' H'
  | .ok .cont A' => ∀ σ' H', z.A σ' A' ts H' → D.ct σ' H'
  | .ok (.ret d) A' => ∀ v σ' H', z.A σ' A' ((v, d) :: ts) H' → D.rt v H'
  | .exc c A' => ∀ σ' H', z.A σ' A' ts H' → z.W (z.cl c) none σ' H'
  | .stuck => False
def tS (z : Z) (f : FS) : TS := fun D σ H => ∃ A ts, z.A σ A ts H ∧ Cl ts ∧ pS z (f A) D ts
def fSeq (f g : FS) : FS := fun A => (f A).bind fun r A1 => match r with
  | .next => g A1
  | r => .ok r A1
def fNext : FS := fun A => .ok .next A
def fBrk : FS := fun A => .ok .brk A
def fCont : FS := fun A => .ok .cont A
def fIf (c : FT) (f g : FS) : FS := fun A => (c A).bind fun b A1 => if b = true then f A1 else g A1
def fDrop (f : FE) : FS := fun A => (f A).bind fun _ A1 => .ok .next A1
/-- a value for a slot: an alias is frozen -/
def closeD (d : D) (A : Sl) : Option (D × Sl) := match d with
  | .al i => match A[i]? with
    | some (some t) => some (fz t, A.set i (some (fz t)))
    | _ => none
  | d => some (d, A)
def fAsg (i : Nat) (f : FE) : FS := fun A => (f A).bind fun d A1 => match closeD d A1 with
  | some (e, A2) => .ok .next (A2.set i (some e))
  | none => .stuck
/-- .. and what comes new is frozen at once -/
def fAsgF (i : Nat) (f : FE) : FS := fun A => (f A).bind fun d A1 => match closeD d A1 with
  | some (e, A2) => .ok .next (A2.set i (some (fz e)))
  | none => .stuck
/-- x = y, y's own handed over -/
def fAsgM (i : Nat) (f : FE) : FS := fun A => (f A).bind fun d A1 => match d with
  | .al j => match A1[j]? with
    | some (some t) => .ok .next ((A1.set j none).set i (some t))
    | _ => .stuck
  | d => .ok .next (A1.set i (some d))
def fRet (f : FE) : FS := fun A => (f A).bind fun d A1 => match d with
  | .al i => match A1[i]? with
    | some (some t) => .ok (.ret t) (A1.set i none)
    | _ => .stuck
  | d => .ok (.ret d) A1
def fRetN : FS := fun A => .ok (.ret .non) A
section
variable {z : Z} {X : Cx} {st : Stmt} {rest : List Stmt} {e : Expr} {pos : Pos} {f g : FS} {fe : FE} {ft : FT}
theorem pS_stuck {D : Ends} {ts : Ts} (h : pS z .stuck D ts) : False := h
theorem qs_nil : PSs X [] (tS z fNext) := PSs.imp pss_nil fun D σ H ⟨A, ts, hA, c, hp⟩ => hp _ _ hA
theorem qs_cons (h1 : PS X st (tS z f)) (h2 : PSs X rest (tS z g)) : PSs X (st :: rest) (tS z (fSeq f g)) := by
  refine PSs.imp (pss_cons h1 h2) fun D σ H ⟨A, ts, hA, c, hp⟩ => ⟨A, ts, hA, c, ?_⟩
  unfold fSeq at hp
  cases ea : f A with
  | stuck => rw [ea] at hp; exact (pS_stuck hp).elim
  | exc c A1 => rw [ea] at hp; exact hp
  | ok r A1 =>
    rw [ea] at hp
    simp only [Ou.bind_ok] at hp
    cases r with
    | next => exact fun σ' H' h' => ⟨A1, ts, h', c, hp⟩
    | brk => exact hp
    | cont => exact hp
    | ret d => exact hp
theorem qs_one (h1 : PS X st (tS z f)) : PSs X [st] (tS z f) := pss_one h1
theorem qs_pass : PS X (.Pass pos) (tS z fNext) := PS.imp ps_pass fun D σ H ⟨A, ts, hA, c, hp⟩ => hp _ _ hA
theorem qs_brk : PS X (.Break pos) (tS z fBrk) := PS.imp ps_break fun D σ H ⟨A, ts, hA, c, hp⟩ => hp _ _ hA
theorem qs_cont : PS X (.Continue pos) (tS z fCont) := PS.imp ps_continue fun D σ H ⟨A, ts, hA, c, hp⟩ => hp _ _ hA
theorem qs_doc {x j pos pos'} : PS X (.Expr (.Constant (.str x) j pos) pos') (tS z fNext) := PS.imp ps_doc fun D σ H ⟨A, ts, hA, c, hp⟩ => hp _ _ hA
theorem qs_if {c : Expr} {a b : List Stmt} (hc : PT X c (tT z ft)) (ha : PSs X a (tS z f)) (hb : PSs X b (tS z g)) : PS X (.If c a b pos) (tS z (fIf ft f g)) := by
  refine PS.imp (ps_if hc ha hb) fun D σ H ⟨A, ts, hA, cl, hp⟩ => ⟨A, ts, hA, ?_⟩
  unfold fIf at hp
  cases ea : ft A with
  | stuck => rw [ea] at hp; exact (pS_stuck hp).elim
  | exc c A1 => rw [ea] at hp; exact fun H' h' => hp σ H' h'
  | ok b A1 =>
    rw [ea] at hp
    simp only [Ou.bind_ok] at hp
    intro H1 h1
    cases b with
    | true => exact ⟨A1, ts, h1, cl, hp⟩
    | false => exact ⟨A1, ts, h1, cl, hp⟩
theorem qs_expr (he : PE X e (tE z fe)) (hs : swapsWith e none pos.line X.env = pure false := by rfl) : PS X (.Expr e pos) (tS z (fDrop fe)) := by
  refine PS.imp (ps_expr he hs) fun D σ H ⟨A, ts, hA, c, hp⟩ => ⟨A, ts, hA, ?_⟩
  unfold fDrop at hp
  cases ea : fe A with
  | stuck => rw [ea] at hp; exact (pS_stuck hp).elim
  | exc c A1 => rw [ea] at hp; exact fun H' h' => hp σ H' h'
  | ok d A1 => rw [ea] at hp; exact fun v H' h' => hp σ H' h'.drop
theorem Abs.closeD {K : Fw} {B : Bs} {σ : L2.St} {A A' : Sl} {ts : Ts} {H : Hp} {v : V} {d d' : D} (h : Abs K B σ A ((v, d) :: ts) H) (hc : Ab.closeD d A = some (d', A')) : Abs K B σ A' ((v, d') :: ts) H ∧ ∀ i, d' ≠ .al i := by
  unfold Ab.closeD at hc
  split at hc
  · split at hc
    · rename_i et
      cases hc
      exact ⟨h.frz et, fz_al _ (h.slot_al et)⟩
    · cases hc
  · rename_i hna
    cases hc
    exact ⟨h, fun i q => hna i q⟩
theorem asg_go {i : Nat} {D : Ends} {σ : L2.St} {H : Hp} (h : tS z (fAsg i fe) D σ H) : tAsg (tE z fe) (gName i) D σ H := by
  obtain ⟨A, ts, hA, c, hp⟩ := h
  refine ⟨A, ts, hA, ?_⟩
  unfold fAsg at hp
  cases ea : fe A with
  | stuck => rw [ea] at hp; exact (pS_stuck hp).elim
  | exc c A1 => rw [ea] at hp; exact fun H' h' => hp σ H' h'
  | ok d A1 =>
    rw [ea] at hp
    simp only [Ou.bind_ok] at hp
    intro v H1 h1
    split at hp
    · rename_i e A2 ec
      obtain ⟨h2, n2⟩ := h1.closeD ec
      exact hp _ _ (h2.set n2 c)
    · exact (pS_stuck hp).elim
theorem asgF_go {i : Nat} {D : Ends} {σ : L2.St} {H : Hp} (h : tS z (fAsgF i fe) D σ H) : tAsg (tE z fe) (gName i) D σ H := by
  obtain ⟨A, ts, hA, c, hp⟩ := h
  refine ⟨A, ts, hA, ?_⟩
  unfold fAsgF at hp
  cases ea : fe A with
  | stuck => rw [ea] at hp; exact (pS_stuck hp).elim
  | exc c A1 => rw [ea] at hp; exact fun H' h' => hp σ H' h'
  | ok d A1 =>
    rw [ea] at hp
    simp only [Ou.bind_ok] at hp
    intro v H1 h1
    split at hp
    · rename_i e A2 ec
      obtain ⟨h2, n2⟩ := h1.closeD ec
      exact hp _ _ ((h2.fz n2).set (fz_al _ n2) c)
    · exact (pS_stuck hp).elim
theorem asgM_go {i : Nat} {D : Ends} {σ : L2.St} {H : Hp} (h : tS z (fAsgM i fe) D σ H) : tAsg (tE z fe) (gName i) D σ H := by
  obtain ⟨A, ts, hA, c, hp⟩ := h
  refine ⟨A, ts, hA, ?_⟩
  unfold fAsgM at hp
  cases ea : fe A with
  | stuck => rw [ea] at hp; exact (pS_stuck hp).elim
  | exc c A1 => rw [ea] at hp; exact fun H' h' => hp σ H' h'
  | ok d A1 =>
    rw [ea] at hp
    simp only [Ou.bind_ok] at hp
    intro v H1 h1
    split at hp
    · split at hp
      · rename_i et
        exact hp _ _ ((h1.move et).set (h1.slot_al et) c)
      · exact (pS_stuck hp).elim
    · rename_i hna
      exact hp _ _ (h1.set (fun j q => hna j q) c)
theorem qs_setM {i : Nat} {x : Str} {pos' : Pos} (hN : X.N.Nodup) (hi : X.N[i]? = some x) (hx : Loc X.env.scope x) (he : PE X e (tE z fe)) (hs : swapsWith e (some (.Name x pos')) pos.line X.env = pure false := by rfl) (hf : X.fn x = true ∨ X.env.scope.names.lookup x = some .local := by first | exact .inl rfl | exact .inr rfl | assumption) :
    PS X (.Assign [.Name x pos'] e pos) (tS z (fAsgM i fe)) := PS.imp (ps_set hN hi hx he hs hf) fun _ _ _ h => asgM_go h
theorem qs_set {i : Nat} {x : Str} {pos' : Pos} (hN : X.N.Nodup) (hi : X.N[i]? = some x) (hx : Loc X.env.scope x) (he : PE X e (tE z fe)) (hs : swapsWith e (some (.Name x pos')) pos.line X.env = pure false := by rfl) (hf : X.fn x = true ∨ X.env.scope.names.lookup x = some .local := by first | exact .inl rfl | exact .inr rfl | assumption) :
    PS X (.Assign [.Name x pos'] e pos) (tS z (fAsg i fe)) := PS.imp (ps_set hN hi hx he hs hf) fun _ _ _ h => asg_go h
theorem qs_setF {i : Nat} {x : Str} {pos' : Pos} (hN : X.N.Nodup) (hi : X.N[i]? = some x) (hx : Loc X.env.scope x) (he : PE X e (tE z fe)) (hs : swapsWith e (some (.Name x pos')) pos.line X.env = pure false := by rfl) (hf : X.fn x = true ∨ X.env.scope.names.lookup x = some .local := by first | exact .inl rfl | exact .inr rfl | assumption) :
    PS X (.Assign [.Name x pos'] e pos) (tS z (fAsgF i fe)) := PS.imp (ps_set hN hi hx he hs hf) fun _ _ _ h => asgF_go h
theorem qs_ret (he : PE X e (tE z fe)) : PS X (.Return (some e) pos) (tS z (fRet fe)) := by
  refine PS.imp (ps_ret he) fun D σ H ⟨A, ts, hA, c, hp⟩ => ⟨A, ts, hA, ?_⟩
  unfold fRet at hp
  cases ea : fe A with
  | stuck => rw [ea] at hp; exact (pS_stuck hp).elim
  | exc c A1 => rw [ea] at hp; exact fun H' h' => hp σ H' h'
  | ok d A1 =>
    rw [ea] at hp
    simp only [Ou.bind_ok] at hp
    intro v H1 h1
    split at hp
    · split at hp
      · rename_i et
        exact hp _ _ _ (h1.move et)
      · exact (pS_stuck hp).elim
    · exact hp _ _ _ h1
theorem qs_retN : PS X (.Return none pos) (tS z fRetN) := PS.imp ps_retN fun D σ H ⟨A, ts, hA, c, hp⟩ => hp _ _ _ hA.pnon
end

/-! ### targets -/
inductive Tg where
  | nm (i : Nat) | tu (is : List Nat)
def gNames : List Nat → TGs
  | [] => gNil
  | i :: r => gCons (gName i) (gNames r)
def Tg.read (K : PySem.W.Frag) : Tg → TG
  | .nm i => gName i
  | .tu is => gTup K is.length (gNames is)
def Tg.own : Tg → List Nat
  | .nm i => [i]
  | .tu is => is
def setAll : List Nat → List D → Sl → Option Sl
  | [], [], A => some A
  | i :: is, d :: ds, A => setAll is ds (A.set i (some d))
  | _, _, _ => none
def Tg.set : Tg → D → Sl → Option Sl
  | .nm i, d, A => match d with
    | .al _ => none
    | d => some (A.set i (some d))
  | .tu is, .tup ds, A => if isFs ds = true then setAll is ds A else none
  | .tu _, _, _ => none
/-- what a target stores: the slots outside stay -/
def SameOff (own : List Nat) (σ σ' : L2.St) : Prop := σ'.length = σ.length ∧ ∀ i, i ∉ own → σ'[i]? = σ[i]?
theorem SameOff.refl {own : List Nat} {σ : L2.St} : SameOff own σ σ := ⟨rfl, fun _ _ => rfl⟩
theorem SameOff.set {own : List Nat} {σ σ' : L2.St} {i : Nat} {o : Option V} (h : SameOff own σ σ') (hi : i ∈ own) : SameOff own σ (σ'.set i o) :=
  ⟨by simp [h.1], fun j hj => by
    have ne : i ≠ j := fun e => hj (by rw [← e]; exact hi)
    rw [List.getElem?_set_ne ne]; exact h.2 j hj⟩
section
variable {z : Z} {X : Cx}
theorem names_go : ∀ {is : List Nat} {ds : List D} {vs : List V} {A A' : Sl} {ts : Ts} {H : Hp} {σ : L2.St} {Q : L2.St → Hp → Prop}, vs.length = ds.length → isFs ds = true → z.A σ A (vs.zip ds ++ ts) H → Cl ts → setAll is ds A = some A' →
    (∀ σ', z.A σ' A' ts H → SameOff is σ σ' → Q σ' H) → gNames is vs σ H Q
  | [], [], vs, A, A', ts, H, σ, Q, hl, hf, h, c, hs, q => by
    have e : vs = [] := by simpa using hl
    subst e
    simp only [setAll] at hs
    cases hs
    exact ⟨rfl, q σ h .refl⟩
  | i :: is, d :: ds, v :: vs, A, A', ts, H, σ, Q, hl, hf, h, c, hs, q => by
    simp only [setAll] at hs
    rw [isFs, Bool.and_eq_true] at hf
    have nd : ∀ j, d ≠ .al j := fun j e => by rw [e] at hf; simp [isF] at hf
    refine ⟨v, vs, rfl, ?_⟩
    have cl : Cl (vs.zip ds ++ ts) := fun p hp => by
      rcases List.mem_append.mp hp with m | m
      · intro j e
        have := List.of_mem_zip m
        have fs := isFs_noAl hf.2
        unfold noAl at fs
        have := List.all_eq_true.mp fs _ this.2
        rw [e] at this
        exact nomatch this
      · exact c p m
    have h1 := Abs.set (i := i) (d := d) (v := v) (ts := vs.zip ds ++ ts) h nd cl
    refine names_go (by simpa using hl) hf.2 h1 c hs fun σ' h' so => q σ' h' ?_
    refine ⟨so.1.trans (by simp), fun j hj => ?_⟩
    rw [so.2 j (fun m => hj (List.mem_cons_of_mem _ m)), List.getElem?_set_ne (fun e : i = j => hj (by rw [← e]; exact List.mem_cons_self))]
  | _ :: _, [], _, _, _, _, _, _, _, _, _, _, _, hs, _ => by simp [setAll] at hs
  | [], _ :: _, _, _, _, _, _, _, _, _, _, _, _, hs, _ => by simp [setAll] at hs
  | _ :: _, _ :: _, [], _, _, _, _, _, _, hl, _, _, _, _, _ => by simp at hl
theorem tg_go {t : Tg} {d : D} {v : V} {A A' : Sl} {ts : Ts} {H : Hp} {σ : L2.St} {Q : L2.St → Hp → Prop} (h : z.A σ A ((v, d) :: ts) H) (c : Cl ts) (hs : t.set d A = some A') (q : ∀ σ', z.A σ' A' ts H → SameOff t.own σ σ' → Q σ' H) : t.read z.K v σ H Q := by
  cases t with
  | nm i =>
    have nd : ∀ j, d ≠ .al j := fun j e => by rw [e] at hs; simp [Tg.set] at hs
    have e : A' = A.set i (some d) := by
      unfold Tg.set at hs
      cases d <;> first | exact (Option.some.inj hs).symm | exact nomatch hs
    subst e
    exact q _ (h.set nd c) (SameOff.refl.set (by simp [Tg.own]))
  | tu is =>
    cases d <;> simp only [Tg.set] at hs <;> try cases hs
    rename_i ds
    split at hs
    · rename_i hf
      obtain ⟨G, L1, L2, gd, tm, sl, nd, ow⟩ := id h
      cases tm with
      | cons r t =>
        rename_i La Lb
        cases r with
        | tup q1 s1 =>
          rename_i a xs
          have e1 := s1.isFs hf
          subst e1
          have hlen : ∀ {is : List Nat} {ds : List D} {A A' : Sl}, setAll is ds A = some A' → is.length = ds.length := by
            intro is
            induction is with
            | nil => intro ds A A' h; cases ds <;> simp_all [setAll]
            | cons i is ih => intro ds A A' h; cases ds with
              | nil => simp [setAll] at h
              | cons d ds => simp only [setAll] at h; simp [ih h]
          refine ⟨_, xs, rfl, .inl (.inl (gd.gh _ _ q1)), by rw [s1.length]; exact (hlen hs).symm, ?_⟩
          have h2 : z.A σ A (xs.zip ds ++ ts) H := by
            have join : ∀ {vs : List V} {ds : List D}, isFs ds = true → Rs z.K G H vs ds [] → Tms z.K σ G H ts Lb → Tms z.K σ G H (vs.zip ds ++ ts) Lb := by
              intro vs
              induction vs with
              | nil => intro ds _ r t; simpa using t
              | cons v vs ih =>
                intro ds hf r t
                generalize hL : ([] : List Addr) = L0 at r
                cases r with
                | cons r rs =>
                  obtain ⟨e1, e2⟩ := List.append_eq_nil_iff.mp hL.symm
                  subst e1; subst e2
                  rw [isFs, Bool.and_eq_true] at hf
                  have := Tms.cons r (ih hf.2 rs t)
                  simpa using this
            exact ⟨G, Lb, L2, gd, join hf s1 t, sl, by simpa using nd, fun a ha => ow a (by simpa using ha)⟩
          exact names_go s1.length hf h2 c hs q
    · cases hs
theorem qg_name {i : Nat} {x : Str} {pos : Pos} (hN : X.N.Nodup) (hi : X.N[i]? = some x) (hx : Loc X.env.scope x) (hf : X.fn x = true ∨ X.env.scope.names.lookup x = some .local := by first | exact .inl rfl | exact .inr rfl | assumption) : PG X (.Name x pos) ((Tg.nm i).read X.K) := pg_name hN hi hx hf
theorem qgs_nil : PGs X [] (gNames []) := pgs_nil
theorem qgs_cons {i : Nat} {is : List Nat} {x : Str} {pos : Pos} {es : List Expr} (hN : X.N.Nodup) (hi : X.N[i]? = some x) (hx : Loc X.env.scope x) (h2 : PGs X es (gNames is)) (hf : X.fn x = true ∨ X.env.scope.names.lookup x = some .local := by first | exact .inl rfl | exact .inr rfl | assumption)
    (hs : (assignEach (.Name x pos :: es) X.env).map (·.2) = assign (.Name x pos) X.env :: (assignEach es X.env).map (·.2) := by rfl) : PGs X (.Name x pos :: es) (gNames (i :: is)) := pgs_cons (pg_name hN hi hx hf) h2 hs
theorem qg_tup {es : List Expr} {k : Nat} {pos : Pos} {is : List Nat} (hc : X.calm = true) (h : PGs X es (gNames is)) (hn : (assignEach es X.env).length = is.length := by rfl) (hst : (assignEach es X.env).findIdx? (·.1) = none := by rfl) : PG X (.Tuple es k pos) ((Tg.tu is).read X.K) := pg_tup hc h hn hst
/-- a, b = e -/
def fAsgT (t : Tg) (f : FE) : FS := fun A => (f A).bind fun d A1 => match closeD d A1 with
  | some (e, A2) => match t.set (fz e) A2 with
    | some A3 => .ok .next A3
    | none => .stuck
  | none => .stuck
theorem qs_asgT {tg e : Expr} {t : Tg} {fe : FE} {pos : Pos} (hK : X.K = z.K) (he : PE X e (tE z fe)) (hg : PG X tg (t.read X.K)) (hs : swapsWithSole [tg] e pos.line X.env = pure false := by rfl) (hw : swappedStores [tg] e X.env = pure none := by rfl)
    (h1 : (assignEach [tg] X.env).map (·.2) = [assign tg X.env] := by rfl) : PS X (.Assign [tg] e pos) (tS z (fAsgT t fe)) := by
  refine PS.imp (ps_asg he hg hs hw h1) fun D σ H ⟨A, ts, hA, c, hp⟩ => ⟨A, ts, hA, ?_⟩
  unfold fAsgT at hp
  cases ea : fe A with
  | stuck => rw [ea] at hp; exact (pS_stuck hp).elim
  | exc c A1 => rw [ea] at hp; exact fun H' h' => hp σ H' h'
  | ok d A1 =>
    rw [ea] at hp
    simp only [Ou.bind_ok] at hp
    intro v H1 h1
    split at hp
    · rename_i e A2 ec
      obtain ⟨h2, n2⟩ := h1.closeD ec
      split at hp
      · rename_i A3 es
        rw [hK]
        exact tg_go (h2.fz n2) c es fun σ' h' _ => hp _ _ h'
      · exact (pS_stuck hp).elim
    · exact (pS_stuck hp).elim
end
end Ab
end
section
namespace Ab
open PySem PySem.Spec PyProof.Rows L2

/-! ### what is walked -/
structure ItD (z : Z) (J : It) (tmp : Ts) (ds : List D) : Prop where
  go : ∀ (σ : L2.St) (A : Sl) (ts : Ts) (H : Hp) (i : Nat), z.A σ A (tmp ++ ts) H → i < ds.length → J.go i H
  yld : ∀ (σ : L2.St) (A : Sl) (ts : Ts) (H : Hp) (i : Nat) (x : V) (H' : Hp) (d : D), z.A σ A (tmp ++ ts) H → ds[i]? = some d → J.yld i H x H' → z.A σ A ((x, d) :: (tmp ++ ts)) H'
  stop : ∀ (σ : L2.St) (A : Sl) (ts : Ts) (H : Hp) (i : Nat), z.A σ A (tmp ++ ts) H → ds.length ≤ i → J.stop i H
abbrev FI := Sl → Ou (List D)
def pI (z : Z) (o : Ou (List D)) (σ : L2.St) (ts : Ts) (R : It → Hp → Prop) : Prop := match o with
  | .ok ds A' => ∀ J tmp H', Cl tmp → ItD z J tmp ds → z.A σ A' (tmp ++ ts) H' → R J H'
  | .exc c A' => ∀ H', z.A σ A' ts H' → z.W (z.cl c) none σ H'
  | .stuck => False
def tI (z : Z) (f : FI) : TI := fun σ H R => ∃ A ts, z.A σ A ts H ∧ pI z (f A) σ ts R
def iterOf : D → Option (List D)
  | .lst ds => some ds | .fro ds => some ds
  | .tup ds => if isFs ds = true then some ds else none
  | .str x => some (x.cps.toList.map fun c => .str ⟨#[c]⟩)
  | _ => none
/-- the items of a value: it is frozen -/
def fIt (fe : FE) : FI := fun A => (fe A).bind fun d A1 => match closeD d A1 with
  | some (e, A2) => match iterOf (fz e) with
    | some ds => .ok ds A2
    | none => .stuck
  | none => .stuck
section
variable {z : Z} {X : Cx}
theorem itd_list {a : Addr} {d : D} {ds : List D} (hd : d = .lst ds ∨ d = .fro ds) : ItD z (Itl z.K a) [(.ref a, d)] ds := by
  have key : ∀ (σ : L2.St) (A : Sl) (ts : Ts) (H : Hp), z.A σ A ([(.ref a, d)] ++ ts) H → ∃ G xs, Same G H ∧ SqL z.K H a xs ∧ Rs z.K G H xs ds [] ∧ Fin z.K z.B σ A ([(.ref a, d)] ++ ts) H G := by
    intro σ A ts H h
    obtain ⟨G, L1, L2, gd, tm, sl, nd, ow⟩ := id h
    refine ⟨G, ?_⟩
    have f : Fin z.K z.B σ A ([(.ref a, d)] ++ ts) H G := fun w e H' G' L' he g1 g2 g3 r rn rf => step_core gd tm sl nd ow he g1 g2 g3 r rn rf
    cases tm with
    | cons r t =>
      rcases hd with rfl | rfl
      · cases r with | lst q rs => exact ⟨_, gd.gh, .inl (.inl (gd.gh _ _ q)), rs, f⟩
      · cases r with | fro q rs => exact ⟨_, gd.gh, sq_l gd.gh q, rs, f⟩
    | al e t => rcases hd with q | q <;> cases q
  refine ⟨fun σ A ts H i h hi => ?_, fun σ A ts H i x H' e h he hy => ?_, fun σ A ts H i h hi => ?_⟩
  · obtain ⟨G, xs, gh, sq, rs, f⟩ := key σ A ts H h
    have hl : i < xs.length := by rw [rs.length]; exact hi
    exact ⟨xs, xs[i], sq, List.getElem?_eq_getElem hl⟩
  · obtain ⟨G, xs, gh, sq, rs, f⟩ := key σ A ts H h
    obtain ⟨rfl, hx⟩ := hy
    exact f.known gh (rs.nil_get (hx xs sq) he)
  · obtain ⟨G, xs, gh, sq, rs, f⟩ := key σ A ts H h
    exact ⟨xs, sq, by rw [rs.length]; exact hi⟩
theorem itd_tup {a : Addr} {ds : List D} (hf : isFs ds = true) : ItD z (Itt z.K a) [(.ref a, .tup ds)] ds := by
  have key : ∀ (σ : L2.St) (A : Sl) (ts : Ts) (H : Hp), z.A σ A ([(.ref a, .tup ds)] ++ ts) H → ∃ G xs, Same G H ∧ SqT z.K H a xs ∧ Rs z.K G H xs ds [] ∧ Fin z.K z.B σ A ([(.ref a, .tup ds)] ++ ts) H G := by
    intro σ A ts H h
    obtain ⟨G, L1, L2, gd, tm, sl, nd, ow⟩ := id h
    refine ⟨G, ?_⟩
    have f : Fin z.K z.B σ A ([(.ref a, .tup ds)] ++ ts) H G := fun w e H' G' L' he g1 g2 g3 r rn rf => step_core gd tm sl nd ow he g1 g2 g3 r rn rf
    cases tm with
    | cons r t =>
      cases r with
      | tup q rs =>
        have e1 := rs.isFs hf
        subst e1
        exact ⟨_, gd.gh, .inl (.inl (gd.gh _ _ q)), rs, f⟩
  refine ⟨fun σ A ts H i h hi => ?_, fun σ A ts H i x H' e h he hy => ?_, fun σ A ts H i h hi => ?_⟩
  · obtain ⟨G, xs, gh, sq, rs, f⟩ := key σ A ts H h
    have hl : i < xs.length := by rw [rs.length]; exact hi
    exact ⟨xs, xs[i], sq, List.getElem?_eq_getElem hl⟩
  · obtain ⟨G, xs, gh, sq, rs, f⟩ := key σ A ts H h
    obtain ⟨rfl, hx⟩ := hy
    exact f.known gh (rs.nil_get (hx xs sq) he)
  · obtain ⟨G, xs, gh, sq, rs, f⟩ := key σ A ts H h
    exact ⟨xs, sq, by rw [rs.length]; exact hi⟩
theorem itd_str {x : Str} : ItD z (Its x) [] (x.cps.toList.map fun c => .str ⟨#[c]⟩) := by
  refine ⟨fun σ A ts H i h hi => ?_, fun σ A ts H i v H' e h he hy => ?_, fun σ A ts H i h hi => ?_⟩
  · show i < x.cps.size
    simpa using hi
  · obtain ⟨rfl, c, hc, rfl⟩ := hy
    have e2 : e = .str ⟨#[c]⟩ := by
      rw [List.getElem?_map, Array.getElem?_toList, hc] at he
      exact (Option.some.inj he).symm
    subst e2
    exact h.pstr _
  · show x.cps.size ≤ i
    simpa using hi
theorem itd_range {lo : Int} {n : Nat} : ItD z (Itr lo n) [] ((List.range n).map fun i => .int (lo + (i : Nat))) := by
  refine ⟨fun σ A ts H i h hi => ?_, fun σ A ts H i v H' e h he hy => ?_, fun σ A ts H i h hi => ?_⟩
  · show i < n
    simpa using hi
  · obtain ⟨rfl, rfl⟩ := hy
    have hi : i < n := by
      have := (List.getElem?_eq_some_iff.mp he).1
      simpa using this
    have e2 : e = .int (lo + (i : Nat)) := by
      rw [List.getElem?_map, List.getElem?_range hi] at he
      exact (Option.some.inj he).symm
    subst e2
    exact h.pint _
  · show n ≤ i
    simpa using hi
theorem qi_it {tg l : Expr} {fe : FE} (hK : X.K = z.K) (hl : PE X l (tE z fe)) : PI X tg l (tI z (fIt fe)) := by
  refine ⟨fun pins s σ H R I w => ?_⟩
  obtain ⟨A, ts, hA, hp⟩ := w
  unfold fIt at hp
  cases ea : fe A with
  | stuck => rw [ea] at hp; exact (show False from hp).elim
  | exc c A1 =>
    rw [ea] at hp
    refine (pi_list hl).run pins s σ H R I ⟨A, ts, hA, ?_⟩
    rw [ea]; exact hp
  | ok d A1 =>
    rw [ea] at hp
    simp only [Ou.bind_ok] at hp
    split at hp
    · rename_i e A2 ec
      split at hp
      · rename_i ds ei
        have fin : ∀ v H1, z.A σ A1 ((v, d) :: ts) H1 → z.A σ A2 ((v, fz e) :: ts) H1 := fun v H1 h1 => by
          obtain ⟨h2, n2⟩ := h1.closeD ec
          exact h2.fz n2
        cases ef : fz e <;> rw [ef] at ei fin <;> simp only [iterOf] at ei <;> try cases ei
        · -- a text
          rename_i x
          refine (pi_str hl).run pins s σ H R I ⟨A, ts, hA, ?_⟩
          rw [ea]
          intro v H1 h1
          have h2 := fin v H1 h1
          exact ⟨x, h2.str, hp _ [] _ (fun _ m => nomatch m) itd_str h2.drop⟩
        · -- a tuple
          rename_i es
          split at ei
          · rename_i hf
            cases ei
            refine (pi_tup hl).run pins s σ H R I ⟨A, ts, hA, ?_⟩
            rw [ea]
            intro v H1 h1
            have h2 := fin v H1 h1
            obtain ⟨G, L, gh, r, _⟩ := h2.open (fun j q => by cases q)
            cases r with
            | tup q rs =>
              rw [hK]
              exact ⟨_, rfl, ⟨_, .inl (.inl (gh _ _ q))⟩, hp _ [(_, .tup ds)] _ (fun p m j e => by rw [List.mem_singleton.mp m] at e; cases e) (itd_tup hf) h2⟩
          · cases ei
        · -- a list
          refine (pi_list hl).run pins s σ H R I ⟨A, ts, hA, ?_⟩
          rw [ea]
          intro v H1 h1
          have h2 := fin v H1 h1
          obtain ⟨G, L, gh, r, _⟩ := h2.open (fun j q => by cases q)
          cases r with
          | lst q rs =>
            rw [hK]
            exact ⟨_, rfl, ⟨_, .inl (.inl (gh _ _ q))⟩, hp _ [(_, .lst ds)] _ (fun p m j e => by rw [List.mem_singleton.mp m] at e; cases e) (itd_list (.inl rfl)) h2⟩
        · -- the script
          refine (pi_list hl).run pins s σ H R I ⟨A, ts, hA, ?_⟩
          rw [ea]
          intro v H1 h1
          have h2 := fin v H1 h1
          obtain ⟨G, L, gh, r, _⟩ := h2.open (fun j q => by cases q)
          cases r with
          | fro q rs =>
            rw [hK]
            exact ⟨_, rfl, ⟨_, sq_l gh q⟩, hp _ [(_, .fro ds)] _ (fun p m j e => by rw [List.mem_singleton.mp m] at e; cases e) (itd_list (.inr rfl)) h2⟩
      · exact (show False from hp).elim
    · exact (show False from hp).elim
/-- range(n) -/
def fRange (fa : FE) : FI := fun A => (fa A).bind fun d A1 => match d with
  | .int n => if n.natAbs < 2 ^ 62 then .ok ((List.range n.toNat).map fun i => .int (i : Nat)) A1 else .stuck
  | _ => .stuck
theorem qi_range {tg a : Expr} {fa : FE} {p pos : Pos} (hg : Gl X "range") (hm : X.mg "range" = none) (ha : PE X a (tE z fa)) (hs : starEach [a] X.env = [(false, eval a X.env)] := by rfl) (hs2 : starEach [a] X.env = (false, eval a X.env) :: starEach [] X.env := by rfl) :
    PI X tg (.Call (.Name "range" p) [a] [] pos) (tI z (fRange fa)) := by
  refine ⟨fun pins s σ H R I w => (pi_range1 hg hm (pa_cons ha pa_nil hs2) hs).run pins s σ H R I ?_⟩
  obtain ⟨A, ts, hA, hp⟩ := w
  refine ⟨A, ts, hA, ?_⟩
  unfold fRange at hp
  cases ea : fa A with
  | stuck => rw [ea] at hp; exact (show False from hp).elim
  | exc c A1 => rw [ea] at hp; exact hp
  | ok d A1 =>
    rw [ea] at hp
    simp only [Ou.bind_ok] at hp
    intro v H1 h1
    cases d <;> try exact (show False from hp).elim
    rename_i n
    simp only at hp
    split at hp
    · rename_i hn
      refine ⟨n, by rw [h1.int], by omega, by omega, hp _ [] _ (fun _ m => nomatch m) ?_ h1.drop⟩
      have := itd_range (z := z) (lo := 0) (n := n.toNat)
      simpa using this
    · exact (show False from hp).elim

/-! ### for -/
def forL (t : Tg) (fb : FS) : List D → Sl → Ou Fl
  | [], A => .ok .next A
  | d :: ds, A => match t.set d A with
    | none => .stuck
    | some A1 => match fb A1 with
      | .ok .next A2 => forL t fb ds A2
      | .ok .cont A2 => forL t fb ds A2
      | .ok .brk A2 => .ok .next A2
      | .ok (.ret d) A2 => .ok (.ret d) A2
      | .exc c A2 => .exc c A2
      | .stuck => .stuck
def fFor (fi : FI) (t : Tg) (fb : FS) : FS := fun A => (fi A).bind fun ds A1 => forL t fb ds A1
theorem Abs.dropMid {K : Fw} {B : Bs} {σ : L2.St} {A : Sl} {tmp ts : Ts} {H : Hp} {p : V × D} (h : Abs K B σ A (p :: (tmp ++ ts)) H) : Abs K B σ A (p :: ts) H :=
  (h.perm (by simpa using (List.perm_middle (l₁ := tmp) (a := p) (l₂ := ts)).symm) : Abs K B σ A (tmp ++ p :: ts) H).dropn
theorem Cl.app {tmp ts : Ts} (c1 : Cl tmp) (c2 : Cl ts) : Cl (tmp ++ ts) := fun p hp => (List.mem_append.mp hp).elim (c1 p) (c2 p)
theorem qs_for {tg iter : Expr} {body : List Stmt} {t : Tg} {fi : FI} {fb : FS} {pos : Pos} (hp : PassesOwn (model X.prog X.w) X.A X.env X.xe) (hc : X.calm = true) (hK : X.K = z.K) (hi : PI X tg iter (tI z fi)) (hg : PG X tg (t.read X.K)) (hb : PSs X body (tS z fb))
    (hs : ∀ x, foldedSetIterable iter X.env x = pure x := by intro _; rfl) : PS X (.For tg iter body [] pos) (tS z (fFor fi t fb)) := by
  refine PS.imp (ps_for hp hc hi hg hb hs) fun D σ H ⟨A, ts, hA, c, hq⟩ => ⟨A, ts, hA, ?_⟩
  unfold fFor at hq
  cases ea : fi A with
  | stuck => rw [ea] at hq; exact (pS_stuck hq).elim
  | exc c A1 => rw [ea] at hq; exact fun H' h' => hq σ H' h'
  | ok ds A1 =>
    rw [ea] at hq
    simp only [Ou.bind_ok] at hq
    intro J tmp H1 ctmp it h1
    refine ⟨fun i m σ' H' => ∃ A', z.A σ' A' (tmp ++ ts) H' ∧ m = ds.length - i ∧ i ≤ ds.length ∧ pS z (forL t fb (ds.drop i) A') D ts, ⟨_, A1, h1, rfl, Nat.zero_le _, hq⟩, fun i m σ' H' hW => ?_⟩
    obtain ⟨A', h', rfl, hi, hpost⟩ := hW
    by_cases hlt : i < ds.length
    · refine .inr ⟨it.go σ' A' ts H' i h' hlt, fun σ2 H2 => ∃ A2, z.A σ2 A2 (tmp ++ ts) H2 ∧ pS z (forL t fb (ds.drop (i + 1)) A2) D ts, fun σ2 H2 ⟨A2, h2, q2⟩ => ⟨ds.length - (i + 1), by omega, A2, h2, rfl, hlt, q2⟩, fun x H2 hy => ?_⟩
      have hget : ds[i]? = some ds[i] := List.getElem?_eq_getElem hlt
      have h2 := it.yld σ' A' ts H' i x H2 ds[i] h' hget hy
      have hdrop : ds.drop i = ds[i] :: ds.drop (i + 1) := List.drop_eq_getElem_cons hlt
      rw [hdrop] at hpost
      unfold forL at hpost
      cases es : t.set ds[i] A' with
      | none => rw [es] at hpost; exact (pS_stuck hpost).elim
      | some A3 =>
        rw [es] at hpost
        simp only at hpost
        rw [hK]
        refine tg_go h2 (ctmp.app c) es fun σ3 h3 _ => ⟨A3, tmp ++ ts, h3, ctmp.app c, ?_⟩
        cases eb : fb A3 with
        | stuck => rw [eb] at hpost; exact (pS_stuck hpost).elim
        | exc c4 A4 => rw [eb] at hpost; exact fun σ5 H5 h5 => hpost σ5 H5 h5.dropn
        | ok r A4 =>
          rw [eb] at hpost
          cases r with
          | next => exact fun σ5 H5 h5 => ⟨A4, h5, hpost⟩
          | cont => exact fun σ5 H5 h5 => ⟨A4, h5, hpost⟩
          | brk => exact fun σ5 H5 h5 => hpost σ5 H5 h5.dropn
          | ret d => exact fun v σ5 H5 h5 => hpost v σ5 H5 h5.dropMid
    · have e : i = ds.length := by omega
      subst e
      rw [List.drop_length] at hpost
      exact .inl ⟨it.stop σ' A' ts H' _ h' (Nat.le_refl _), hpost σ' H' h'.dropn⟩

/-! ### while -/
def whileN (c : FT) (fb : FS) : Nat → Sl → Ou Fl
  | 0, _ => .stuck
  | n + 1, A => match c A with
    | .ok true A1 => match fb A1 with
      | .ok .next A2 => whileN c fb n A2
      | .ok .cont A2 => whileN c fb n A2
      | .ok .brk A2 => .ok .next A2
      | .ok (.ret d) A2 => .ok (.ret d) A2
      | .exc c A2 => .exc c A2
      | .stuck => .stuck
    | .ok false A1 => .ok .next A1
    | .exc c A1 => .exc c A1
    | .stuck => .stuck
def fWhile (n : Nat) (c : FT) (fb : FS) : FS := fun A => whileN c fb n A
theorem qs_while {n : Nat} {c : Expr} {body : List Stmt} {ft : FT} {fb : FS} {pos : Pos} (hp : PassesOwn (model X.prog X.w) X.A X.env X.xe) (hc : PT X c (tT z ft)) (hb : PSs X body (tS z fb)) : PS X (.While c body [] pos) (tS z (fWhile n ft fb)) := by
  refine PS.imp (ps_while hp hc hb) fun D σ H ⟨A, ts, hA, cl, hq⟩ => ?_
  refine ⟨fun m σ' H' => ∃ A', z.A σ' A' ts H' ∧ pS z (whileN ft fb m A') D ts, ⟨n, A, hA, hq⟩, fun m σ' H' ⟨A', h', hpost⟩ => ⟨A', ts, h', ?_⟩⟩
  cases m with
  | zero => exact (pS_stuck hpost).elim
  | succ m =>
    unfold whileN at hpost
    cases ea : ft A' with
    | stuck => rw [ea] at hpost; exact (pS_stuck hpost).elim
    | exc c A1 => rw [ea] at hpost; exact fun H1 h1 => hpost σ' H1 h1
    | ok b A1 =>
      rw [ea] at hpost
      intro H1 h1
      cases b with
      | false => exact hpost σ' H1 h1
      | true =>
        simp only at hpost
        refine ⟨fun σ2 H2 => ∃ A2, z.A σ2 A2 ts H2 ∧ pS z (whileN ft fb m A2) D ts, fun σ2 H2 ⟨A2, h2, q2⟩ => ⟨m, Nat.lt_succ_self m, A2, h2, q2⟩, A1, ts, h1, cl, ?_⟩
        cases eb : fb A1 with
        | stuck => rw [eb] at hpost; exact (pS_stuck hpost).elim
        | exc c4 A4 => rw [eb] at hpost; exact hpost
        | ok r A4 =>
          rw [eb] at hpost
          cases r with
          | next => exact fun σ5 H5 h5 => ⟨A4, h5, hpost⟩
          | cont => exact fun σ5 H5 h5 => ⟨A4, h5, hpost⟩
          | brk => exact hpost
          | ret d => exact hpost
end
end Ab
end
section
namespace Ab
open PySem PySem.Spec PyProof.Rows L2

/-! ### an owned list rewritten -/
section
variable {K : Fw} {B : Bs} {G H : Hp} {σ : L2.St} {A : Sl} {ts : Ts} {p : Addr} {v y : V} {xs xs' : List V} {ds es : List D} {e : D} {Lt L2 L' : List Addr}
theorem mut_core (gd : Gd B G H) (tm : Tms K σ G H ts Lt) (sl : Sls K G H σ A L2) (hp : H p = some (.lst xs)) (gp : G p = none) (rs : Rs K G H xs' es L') (nd : (((p :: L') ++ Lt) ++ L2).Nodup) (ow : ∀ a ∈ ((p :: L') ++ Lt) ++ L2, Own B a) :
    Abs K B σ A ((.ref p, .mu es) :: ts) (upd H p (.lst xs')) := by
  have np : p ∉ (L' ++ Lt) ++ L2 := (List.nodup_cons.mp nd).1
  have old : ∀ a ∈ (L' ++ Lt) ++ L2, G a = none := fun a ha => by
    rcases List.mem_append.mp ha with m | m
    · exact ((List.mem_append.mp m).elim (rs.own a) (tm.own a)).1
    · exact (sl.own a m).1
  have keep : ∀ a ∈ (L' ++ Lt) ++ L2, upd H p (.lst xs') a = H a ∧ G a = none := fun a ha => ⟨upd_ne (fun q => np (by rw [← q]; exact ha)), old a ha⟩
  have ownp : Own B p := ow p List.mem_cons_self
  refine ⟨G, (p :: L') ++ Lt, L2, ⟨fun a o h => ?_, gd.bg, fun a o hx h => ?_, gd.sep, fun a ha => ?_⟩, .cons (.mu upd_same gp (rs.mono (fun _ _ e => e) fun a ha => keep a (by simp [ha]))) (tm.mono (fun _ _ e => e) fun a ha => keep a (by simp [ha])), sl.mono (fun _ _ e => e) fun a ha => keep a (by simp [ha]), nd, ow⟩
  · have : a ≠ p := fun q => by rw [q, gp] at h; cases h
    rw [upd_ne this]; exact gd.gh a o h
  · have : a ≠ p := fun q => by
      subst q
      rcases ownp with n | n
      · rw [n] at h; cases h
      · exact hx n
    rw [upd_ne this]; exact gd.bh a o hx h
  · by_cases q : a = p
    · rw [q, upd_same]; exact fun z => nomatch z
    · rw [upd_ne q]; exact gd.alive a ha
/-- an item more -/
theorem Abs.app (h : Abs K B σ A ((y, e) :: (v, .mu ds) :: ts) H) (he : ∀ i, e ≠ .al i) : ∃ p xs, v = .ref p ∧ H p = some (.lst xs) ∧ xs.length = ds.length ∧ Abs K B σ A ((v, .mu (ds ++ [e])) :: ts) (upd H p (.lst (xs ++ [y]))) := by
  obtain ⟨G, L1, L2, gd, tm, sl, nd, ow⟩ := h
  cases tm with
  | al _ _ => exact absurd rfl (he _)
  | cons r tm =>
    cases tm with
    | cons r2 t =>
      rename_i Le Lp Lt
      cases r2 with
      | mu q gp rs =>
        rename_i p xs L
        have pp : ((Le ++ ((p :: L) ++ Lt)) ++ L2).Perm (((p :: (L ++ Le)) ++ Lt) ++ L2) := by
          refine List.Perm.append_right _ ?_
          rw [List.cons_append, List.cons_append]
          refine List.perm_middle.trans (List.Perm.cons _ ?_)
          rw [← List.append_assoc]
          exact List.Perm.append_right _ List.perm_append_comm
        refine ⟨p, xs, rfl, q, rs.length, mut_core gd t sl q gp (L' := L ++ Le) (rs.app (by simpa using Rs.one r)) (nodup_perm pp nd) fun a ha => ow a (pp.mem_iff.mpr ha)⟩
/-- the items of another list more (it is read; its items are known) -/
theorem Abs.ext (h : Abs K B σ A ((y, .lst es) :: (v, .mu ds) :: ts) H) : ∃ p xs b zs, v = .ref p ∧ y = .ref b ∧ H p = some (.lst xs) ∧ H b = some (.lst zs) ∧ xs.length = ds.length ∧ zs.length = es.length ∧ Abs K B σ A ((v, .mu (ds ++ es)) :: ts) (upd H p (.lst (xs ++ zs))) := by
  obtain ⟨G, L1, L2, gd, tm, sl, nd, ow⟩ := h
  cases tm with
  | cons r tm =>
    cases r with
    | lst qb rb =>
      rename_i b zs
      cases tm with
      | cons r2 t =>
        rename_i Lp Lt
        cases r2 with
        | mu q gp rs =>
          rename_i p xs L
          exact ⟨p, xs, b, zs, rfl, rfl, q, gd.gh _ _ qb, rs.length, rb.length, mut_core gd t sl q gp (L' := L) (by simpa using rs.app rb) (by simpa using nd) (by simpa using ow)⟩
/-- emptied -/
theorem Abs.clr (h : Abs K B σ A ((v, .mu ds) :: ts) H) : ∃ p xs, v = .ref p ∧ H p = some (.lst xs) ∧ Abs K B σ A ((v, .mu []) :: ts) (upd H p (.lst [])) := by
  obtain ⟨G, L1, L2, gd, tm, sl, nd, ow⟩ := h
  cases tm with
  | cons r2 t =>
    rename_i Lp Lt
    cases r2 with
    | mu q gp rs =>
      rename_i p xs L
      have sb : (((p :: []) ++ Lt) ++ L2).Sublist (((p :: L) ++ Lt) ++ L2) := List.Sublist.append_right (List.Sublist.append_right ((List.nil_sublist L).cons₂ p) _) _
      exact ⟨p, xs, rfl, q, mut_core gd t sl q gp (L' := []) .nil (sb.nodup nd) fun a ha => ow a (sb.subset ha)⟩
theorem Rs.setAt : ∀ {xs : List V} {ds : List D} {L : List Addr} {j : Nat}, Rs K G H xs ds L → R K G H y e L' → j < ds.length → ∃ M N, Rs K G H (xs.set j y) (ds.set j e) M ∧ M.Perm (L' ++ N) ∧ N.Sublist L
  | _, _, _, j, .nil, _, hj => by simp at hj
  | _, _, _, 0, .cons (L := La) (L' := Lb) r t, re, _ => ⟨L' ++ Lb, Lb, .cons re t, .refl _, List.sublist_append_right _ _⟩
  | _, _, _, j + 1, .cons (L := La) (L' := Lb) r t, re, hj => by
    obtain ⟨M, N, h1, h2, h3⟩ := Rs.setAt (j := j) t re (by simpa using hj)
    refine ⟨La ++ M, La ++ N, .cons r h1, ?_, List.Sublist.append_left h3 _⟩
    refine (List.Perm.append_left _ h2).trans ?_
    rw [← List.append_assoc, ← List.append_assoc]
    exact List.Perm.append_right _ List.perm_append_comm
/-- an item replaced -/
theorem Abs.setAt {j : Nat} (h : Abs K B σ A ((y, e) :: (v, .mu ds) :: ts) H) (he : ∀ i, e ≠ .al i) (hj : j < ds.length) : ∃ p xs, v = .ref p ∧ H p = some (.lst xs) ∧ xs.length = ds.length ∧ Abs K B σ A ((v, .mu (ds.set j e)) :: ts) (upd H p (.lst (xs.set j y))) := by
  obtain ⟨G, L1, L2, gd, tm, sl, nd, ow⟩ := h
  cases tm with
  | al _ _ => exact absurd rfl (he _)
  | cons r tm =>
    cases tm with
    | cons r2 t =>
      rename_i Le Lp Lt
      cases r2 with
      | mu q gp rs =>
        rename_i p xs L
        obtain ⟨M, N, h1, h2, h3⟩ := rs.setAt r hj
        have pp : ((Le ++ ((p :: L) ++ Lt)) ++ L2).Perm (((p :: (Le ++ L)) ++ Lt) ++ L2) := by
          refine List.Perm.append_right _ ?_
          rw [List.cons_append, List.cons_append]
          refine List.perm_middle.trans (List.Perm.cons _ ?_)
          rw [List.append_assoc]
        have sb : (((p :: (Le ++ N)) ++ Lt) ++ L2).Sublist (((p :: (Le ++ L)) ++ Lt) ++ L2) := List.Sublist.append_right (List.Sublist.append_right ((List.Sublist.append_left h3 _).cons₂ p) _) _
        have p2 : (((p :: M) ++ Lt) ++ L2).Perm (((p :: (Le ++ N)) ++ Lt) ++ L2) := List.Perm.append_right _ (List.Perm.append_right _ (List.Perm.cons _ h2))
        exact ⟨p, xs, rfl, q, rs.length, mut_core gd t sl q gp h1 (nodup_perm p2.symm (sb.nodup (nodup_perm pp nd))) fun a ha => ow a (pp.mem_iff.mpr (sb.subset (p2.mem_iff.mp ha)))⟩
/-- back into the slot -/
theorem Abs.put {i : Nat} {d : D} (h : Abs K B σ A ((v, d) :: ts) H) (hd : ∀ j, d ≠ .al j) (e : A[i]? = some none) (ev : σ[i]? = some (some v)) : Abs K B σ (A.set i (some d)) ts H := by
  obtain ⟨G, L1, L2, gd, tm, sl, nd, ow⟩ := h
  cases tm with
  | al _ _ => exact absurd rfl (hd _)
  | cons r t =>
    rename_i La Lb
    obtain ⟨L', s, p⟩ := sl.put e ev r
    have pp : (Lb ++ L').Perm ((La ++ Lb) ++ L2) := by
      refine (List.Perm.append_left _ p).trans ?_
      rw [← List.append_assoc]
      exact List.Perm.append_right _ List.perm_append_comm
    exact ⟨G, Lb, L', gd, t, s, nodup_perm pp.symm nd, fun a ha => ow a (pp.mem_iff.mp ha)⟩
theorem Abs.al_at {i : Nat} (h : Abs K B σ A ((v, .al i) :: ts) H) : σ[i]? = some (some v) := by
  obtain ⟨G, L1, L2, gd, tm, sl, nd, ow⟩ := h
  cases tm with
  | al e _ => exact e
  | cons r _ => exact r.not_al.elim
end

/-! ### methods that change a slot's list: x.append(e), x.extend(e), x.clear(); x[i] = e -/
def slotL (i : Nat) (A : Sl) : Option (List D) := match A[i]? with
  | some (some (.mu ds)) => some ds
  | _ => none
theorem slotL_get {i : Nat} {A : Sl} {ds : List D} (h : slotL i A = some ds) : A[i]? = some (some (.mu ds)) := by
  unfold slotL at h
  split at h
  · rename_i e; cases h; exact e
  · cases h
def fApp (i : Nat) (fe : FE) : FE := fun A => match slotL i A with
  | none => .stuck
  | some _ => (fe A).bind fun e A2 => match closeD e A2 with
    | none => .stuck
    | some (e', A3) => match slotL i A3 with
      | some ds => if ds.length < sizeLine then .ok .non (A3.set i (some (.mu (ds ++ [e'])))) else .stuck
      | none => .stuck
/-- extend by a list whose items are known -/
def fExt (i : Nat) (fe : FE) : FE := fun A => match slotL i A with
  | none => .stuck
  | some _ => (fe A).bind fun e A2 => match closeD e A2 with
    | none => .stuck
    | some (e', A3) => match slotL i A3, fz e' with
      | some ds, .lst es => if ds.length + es.length ≤ sizeLine then .ok .non (A3.set i (some (.mu (ds ++ es)))) else .stuck
      | _, _ => .stuck
def fClr (i : Nat) : FE := fun A => match slotL i A with
  | some _ => .ok .non (A.set i (some (.mu [])))
  | none => .stuck
/-- x[k] = e -/
def fSetI (i : Nat) (fk fe : FE) : FS := fun A => (fe A).bind fun e A1 => match closeD e A1 with
  | none => .stuck
  | some (e', A2) => match slotL i A2 with
    | none => .stuck
    | some _ => (fk A2).bind fun k A3 => match k, slotL i A3 with
      | .int k, some ds => match ixN ds.length k with
        | some j => .ok .next (A3.set i (some (.mu (ds.set j e'))))
        | none => .stuck
      | _, _ => .stuck
section
variable {z : Z} {X : Cx} {o e : Expr} {fo fe : FE}
theorem tyV_lst {K : PySem.W.Frag} {H : Hp} {p : Addr} {xs : List V} (h : H p = some (.lst xs)) : tyV K "list" (.ref p) H := .inl ⟨rfl, xs, .inl (.inl h)⟩
/-- the owned list of a slot -/
theorem Abs.alList {K : Fw} {B : Bs} {σ : L2.St} {A : Sl} {ts : Ts} {H : Hp} {v : V} {i : Nat} {ds : List D} (h : Abs K B σ A ((v, .al i) :: ts) H) (e : A[i]? = some (some (.mu ds))) : ∃ p xs, v = .ref p ∧ H p = some (.lst xs) ∧ xs.length = ds.length := by
  obtain ⟨G, L, gh, r, _⟩ := h.open (d := .al i) (by rw [see_al e]; exact fun j q => nomatch q)
  rw [see_al e] at r
  cases r with
  | mu q _ rs => exact ⟨_, _, rfl, q, rs.length⟩
theorem Abs.slotAl {K : Fw} {B : Bs} {σ : L2.St} {A : Sl} {ts : Ts} {H : Hp} {i : Nat} {ds : List D} (h : Abs K B σ A ts H) (e : A[i]? = some (some (.mu ds))) : ∃ p xs, σ[i]? = some (some (.ref p)) ∧ H p = some (.lst xs) ∧ xs.length = ds.length ∧ Abs K B σ A ((.ref p, .al i) :: ts) H := by
  obtain ⟨v, ev, h1⟩ := h.var e
  have h2 : Abs K B σ A ((v, .al i) :: ts) H := by simpa [isF] using h1
  obtain ⟨p, xs, rfl, hp, hl⟩ := h2.alList e
  exact ⟨p, xs, ev, hp, hl, h2⟩
theorem set_none_get {A : Sl} {i : Nat} {o : Option D} (e : A[i]? = some o) : (A.set i none)[i]? = some none := by
  have := (List.getElem?_eq_some_iff.mp e).1
  simp [this]
/-- where a slot's own list is, another temporary ahead -/
theorem Abs.swapMove {K : Fw} {B : Bs} {σ : L2.St} {A : Sl} {ts : Ts} {H : Hp} {v y : V} {i : Nat} {e d : D} (h : Abs K B σ A ((y, e) :: (v, .al i) :: ts) H) (ed : A[i]? = some (some d)) : Abs K B σ (A.set i none) ((y, e) :: (v, d) :: ts) H :=
  ((h.perm (List.Perm.swap _ _ _)).move ed).perm (List.Perm.swap _ _ _)
theorem app_go {i : Nat} {σ : L2.St} {H : Hp} {Q : VK} (h : tE z (fApp i fe) σ H Q) : tBM z.K "list" rAppend (tVar i) (L2.tCons (tE z fe) L2.tNil) σ H Q := by
  obtain ⟨A, ts, hA, hp⟩ := h
  unfold fApp at hp
  split at hp
  · exact (show False from hp).elim
  · rename_i ds0 e0
    obtain ⟨p0, xs0, ev, hp0, _, h1⟩ := hA.slotAl (slotL_get e0)
    refine ⟨.ref p0, ev, tyV_lst hp0, A, (.ref p0, .al i) :: ts, h1, ?_⟩
    cases eb : fe A with
    | stuck => rw [eb] at hp; exact (show False from hp).elim
    | exc c A2 => rw [eb] at hp; exact fun H' h' => hp H' h'.drop
    | ok e A2 =>
      rw [eb] at hp
      simp only [Ou.bind_ok] at hp
      intro y H2 h2
      split at hp
      · exact (show False from hp).elim
      · rename_i e' A3 ec
        obtain ⟨h3, n3⟩ := h2.closeD ec
        split at hp
        · rename_i ds e3
          split at hp
          · rename_i hl
            obtain ⟨p, xs, q, hp2, hlen, h5⟩ := (h3.swapMove (slotL_get e3)).app n3
            cases q
            have h6 := h5.put (fun j q => nomatch q) (set_none_get (slotL_get e3)) ev
            rw [List.set_set] at h6
            exact ⟨p0, xs, y, rfl, rfl, hp2, by rw [hlen]; exact hl, hp _ _ h6.pnon⟩
          · exact (show False from hp).elim
        · exact (show False from hp).elim
theorem ext_go {i : Nat} {σ : L2.St} {H : Hp} {Q : VK} (h : tE z (fExt i fe) σ H Q) : tBM z.K "list" rExtend (tVar i) (L2.tCons (tE z fe) L2.tNil) σ H Q := by
  obtain ⟨A, ts, hA, hp⟩ := h
  unfold fExt at hp
  split at hp
  · exact (show False from hp).elim
  · rename_i ds0 e0
    obtain ⟨p0, xs0, ev, hp0, _, h1⟩ := hA.slotAl (slotL_get e0)
    refine ⟨.ref p0, ev, tyV_lst hp0, A, (.ref p0, .al i) :: ts, h1, ?_⟩
    cases eb : fe A with
    | stuck => rw [eb] at hp; exact (show False from hp).elim
    | exc c A2 => rw [eb] at hp; exact fun H' h' => hp H' h'.drop
    | ok e A2 =>
      rw [eb] at hp
      simp only [Ou.bind_ok] at hp
      intro y H2 h2
      split at hp
      · exact (show False from hp).elim
      · rename_i e' A3 ec
        obtain ⟨h3, n3⟩ := h2.closeD ec
        split at hp
        · rename_i ds es e3 ef
          split at hp
          · rename_i hl
            have h4 := (h3.swapMove (slotL_get e3)).fz n3
            rw [ef] at h4
            obtain ⟨p, xs, b, zs, q2, rfl, hp2, hb2, hlen, hlz, h5⟩ := h4.ext
            cases q2
            have h6 := h5.put (fun j q => nomatch q) (set_none_get (slotL_get e3)) ev
            rw [List.set_set] at h6
            exact ⟨p0, b, xs, zs, rfl, rfl, hp2, hb2, by rw [hlen, hlz]; exact hl, hp _ _ h6.pnon⟩
          · exact (show False from hp).elim
        · exact (show False from hp).elim
theorem clr_go {i : Nat} {σ : L2.St} {H : Hp} {Q : VK} (h : tE z (fClr i) σ H Q) : tBM0 z.K "list" rClear (tVar i) σ H Q := by
  obtain ⟨A, ts, hA, hp⟩ := h
  unfold fClr at hp
  split at hp
  · rename_i ds e
    obtain ⟨p0, xs0, ev, hp0, _, h1⟩ := hA.slotAl (slotL_get e)
    obtain ⟨p, xs, q, hp2, h5⟩ := (h1.move (slotL_get e)).clr
    cases q
    have h6 := h5.put (fun j q => nomatch q) (set_none_get (slotL_get e)) ev
    rw [List.set_set] at h6
    exact ⟨.ref p0, ev, tyV_lst hp0, p0, xs, rfl, rfl, hp2, hp _ _ h6.pnon⟩
  · exact (show False from hp).elim
theorem ixN_lt {n : Nat} {i : Int} {j : Nat} (h : ixN n i = some j) : j < n := (ixN_seq h).2.1
theorem setI_go {i : Nat} {fk : FE} {D : Ends} {σ : L2.St} {H : Hp} (h : tS z (fSetI i fk fe) D σ H) : tAsg (tE z fe) (gSub (tVar i) (tE z fk) rSetL) D σ H := by
  obtain ⟨A, ts, hA, c, hp⟩ := h
  refine ⟨A, ts, hA, ?_⟩
  unfold fSetI at hp
  cases ea : fe A with
  | stuck => rw [ea] at hp; exact (pS_stuck hp).elim
  | exc c A1 => rw [ea] at hp; exact fun H' h' => hp σ H' h'
  | ok e A1 =>
    rw [ea] at hp
    simp only [Ou.bind_ok] at hp
    intro y H1 h1
    split at hp
    · exact (pS_stuck hp).elim
    · rename_i e' A2 ec
      obtain ⟨h2, n2⟩ := h1.closeD ec
      split at hp
      · exact (pS_stuck hp).elim
      · rename_i ds0 e0
        obtain ⟨p0, xs0, ev, hp0, _, h3⟩ := h2.slotAl (slotL_get e0)
        refine ⟨.ref p0, ev, A2, (.ref p0, .al i) :: (y, e') :: ts, h3, ?_⟩
        cases ek : fk A2 with
        | stuck => rw [ek] at hp; exact (pS_stuck hp).elim
        | exc c A3 => rw [ek] at hp; exact fun H' h' => hp σ H' h'.drop.drop
        | ok k A3 =>
          rw [ek] at hp
          simp only [Ou.bind_ok] at hp
          intro u H3 h4
          split at hp
          · rename_i k ds es
            split at hp
            · rename_i j ej
              have eu := h4.int
              have h5 : z.A σ A3 ((y, e') :: (.ref p0, .al i) :: ts) H3 := h4.drop.perm (List.Perm.swap _ _ _)
              obtain ⟨p, xs, q, hp2, hlen, h6⟩ := (h5.swapMove (slotL_get es)).setAt n2 (ixN_lt ej)
              cases q
              have h7 := h6.put (fun j q => nomatch q) (set_none_get (slotL_get es)) ev
              rw [List.set_set] at h7
              exact ⟨p0, xs, k, j, rfl, eu, hp2, by rw [hlen]; exact ej, hp σ _ h7⟩
            · exact (pS_stuck hp).elim
          · exact (pS_stuck hp).elim
theorem qe_app {i : Nat} {o e : Expr} {apos cpos : Pos} (hK : X.K = z.K) (ho : PE X o (tVar i)) (he : PE X e (tE z fe))
    (hbase : attributeBase o "append" X.env (eval o X.env) = eval o X.env := by rfl)
    (hfew : ((backTo cpos (starEach [e] X.env)).all (fun x => !x.1) && (backToKw cpos (keywordEach [] X.env)).all (fun x => x.1.isSome)
      && decide ([e].length + ([] : List Keyword).length + (if ([] : List Keyword).isEmpty then 0 else 1) < 30)) = true := by rfl)
    (hline : (apos.endLine == cpos.line) = true := by rfl) (hs : starEach [e] X.env = (false, eval e X.env) :: starEach [] X.env := by rfl) (hplain : (backTo cpos (starEach [] X.env)).any (·.1) = false := by rfl) :
    PE X (.Call (.Attribute o "append" apos) [e] [] cpos) (tE z (fApp i fe)) :=
  PE.imp (pe_bm PySem.F.plainAttrs_list PySem.F.slot_list_append PySem.F.type_list_append mt_append ho (pa_cons he pa_nil hs) hbase hfew hline hs hplain) fun _ _ _ h => by rw [hK]; exact app_go h
theorem qe_ext {i : Nat} {o e : Expr} {apos cpos : Pos} (hK : X.K = z.K) (ho : PE X o (tVar i)) (he : PE X e (tE z fe))
    (hbase : attributeBase o "extend" X.env (eval o X.env) = eval o X.env := by rfl)
    (hfew : ((backTo cpos (starEach [e] X.env)).all (fun x => !x.1) && (backToKw cpos (keywordEach [] X.env)).all (fun x => x.1.isSome)
      && decide ([e].length + ([] : List Keyword).length + (if ([] : List Keyword).isEmpty then 0 else 1) < 30)) = true := by rfl)
    (hline : (apos.endLine == cpos.line) = true := by rfl) (hs : starEach [e] X.env = (false, eval e X.env) :: starEach [] X.env := by rfl) (hplain : (backTo cpos (starEach [] X.env)).any (·.1) = false := by rfl) :
    PE X (.Call (.Attribute o "extend" apos) [e] [] cpos) (tE z (fExt i fe)) :=
  PE.imp (pe_bm PySem.F.plainAttrs_list PySem.F.slot_list_extend PySem.F.type_list_extend mt_extend ho (pa_cons he pa_nil hs) hbase hfew hline hs hplain) fun _ _ _ h => by rw [hK]; exact ext_go h
theorem qe_clr {i : Nat} {o : Expr} {apos cpos : Pos} (hK : X.K = z.K) (ho : PE X o (tVar i)) (hbase : attributeBase o "clear" X.env (eval o X.env) = eval o X.env := by rfl) (hline : (apos.endLine == cpos.line) = true := by rfl) :
    PE X (.Call (.Attribute o "clear" apos) [] [] cpos) (tE z (fClr i)) :=
  PE.imp (pe_bm0 PySem.F.plainAttrs_list PySem.F.slot_list_clear PySem.F.type_list_clear mt_clear ho hbase hline) fun _ _ _ h => by rw [hK]; exact clr_go h
theorem qs_setI {i : Nat} {o k e : Expr} {fk : FE} {p pos : Pos} (ho : PE X o (tVar i)) (hk : PE X k (tE z fk)) (he : PE X e (tE z fe))
    (ha : ∀ v, assign (.Subscript o k p) X.env v = (do
      let ov ← holding [v] (eval o X.env)
      let iv ← holding [v, ov] (eval k X.env)
      standAt p
      holding [v, ov, iv] (setItem ov iv v)
      release [v, ov, iv] []) := by intro _; rfl)
    (hs : swapsWithSole [.Subscript o k p] e pos.line X.env = pure false := by rfl) (hw : swappedStores [.Subscript o k p] e X.env = pure none := by rfl)
    (h1 : (assignEach [.Subscript o k p] X.env).map (·.2) = [assign (.Subscript o k p) X.env] := by rfl) : PS X (.Assign [.Subscript o k p] e pos) (tS z (fSetI i fk fe)) :=
  PS.imp (ps_asg he (pg_sub ho hk set_list ha) hs hw h1) fun _ _ _ h => setI_go h
end

/-! ### comprehensions -/
def wipeA (A : Sl) : List Nat → Sl
  | [] => A
  | i :: is => (wipeA A is).set i none
def compL (t : Tg) (ft : FT) (fe : FE) : List D → List D → Sl → Ou (List D)
  | [], acc, A => .ok acc A
  | d :: ds, acc, A => match t.set d A with
    | none => .stuck
    | some A1 => match ft A1 with
      | .ok true A2 => match fe A2 with
        | .ok e A3 => match closeD e A3 with
          | some (e', A4) => if acc.length < sizeLine then compL t ft fe ds (acc ++ [e']) (wipeA A4 t.own) else .stuck
          | none => .stuck
        | _ => .stuck
      | .ok false A2 => compL t ft fe ds acc (wipeA A2 t.own)
      | _ => .stuck
/-- [e for t in .. if c]: behind it the slots of t are told nothing of -/
def fComp (fi : FI) (t : Tg) (ft : FT) (fe : FE) : FE := fun A => (fi A).bind fun ds A1 => match compL t ft fe ds [] (wipeA A1 t.own) with
  | .ok es A2 => .ok (.mu es) (wipeA A2 t.own)
  | _ => .stuck
def fYes : FT := fun A => .ok true A
/-- the temporaries that are no aliases -/
def clsd (ts : Ts) : Ts := ts.filter fun p => match p.2 with | .al _ => false | _ => true
section
variable {K : Fw} {B : Bs} {G H : Hp} {σ σ' : L2.St} {A : Sl} {ts : Ts} {L : List Addr}
theorem clsd_cl : Cl (clsd ts) := fun p hp i e => by
  have := (List.mem_filter.mp hp).2
  rw [e] at this
  exact nomatch this
theorem Tms.clsd (t : Tms K σ G H ts L) : Tms K σ' G H (Ab.clsd ts) L := by
  induction t with
  | nil => exact .nil
  | @cons v d L L' ts r t ih =>
    have : Ab.clsd ((v, d) :: ts) = (v, d) :: Ab.clsd ts := by
      unfold Ab.clsd
      rw [List.filter_cons_of_pos]
      cases d <;> first | rfl | exact r.not_al.elim
    rw [this]
    exact .cons r ih
  | @al v i L ts e t ih =>
    have : Ab.clsd ((v, .al i) :: ts) = Ab.clsd ts := by
      unfold Ab.clsd
      rw [List.filter_cons_of_neg]
      intro z; exact nomatch z
    rw [this]
    exact ih
/-- the aliases of ts speak of σ -/
def AlAt (σ : L2.St) (ts : Ts) : Prop := ∀ v i, (v, D.al i) ∈ ts → σ[i]? = some (some v)
theorem Tms.alAt (t : Tms K σ G H ts L) : AlAt σ ts := by
  induction t with
  | nil => exact fun _ _ h => nomatch h
  | cons r _ ih =>
    intro v i h
    rcases List.mem_cons.mp h with h | h
    · cases h; exact r.not_al.elim
    · exact ih v i h
  | al e _ ih =>
    intro v i h
    rcases List.mem_cons.mp h with h | h
    · cases h; exact e
    · exact ih v i h
theorem Tms.unclsd : ∀ {ts : Ts} {L : List Addr}, Tms K σ' G H (Ab.clsd ts) L → AlAt σ ts → Tms K σ G H ts L
  | [], L, t, _ => by cases t; exact .nil
  | (v, d) :: ts, L, t, a => by
    have a' : AlAt σ ts := fun v i h => a v i (List.mem_cons_of_mem _ h)
    by_cases hd : ∃ i, d = .al i
    · obtain ⟨i, rfl⟩ := hd
      have e : Ab.clsd ((v, .al i) :: ts) = Ab.clsd ts := by
        unfold Ab.clsd
        rw [List.filter_cons_of_neg]
        intro z; exact nomatch z
      rw [e] at t
      exact .al (a v i List.mem_cons_self) (Tms.unclsd t a')
    · have e : Ab.clsd ((v, d) :: ts) = (v, d) :: Ab.clsd ts := by
        unfold Ab.clsd
        rw [List.filter_cons_of_pos]
        cases d <;> first | rfl | exact absurd ⟨_, rfl⟩ hd
      rw [e] at t
      cases t with
      | cons r t => exact .cons r (Tms.unclsd t a')
      | al _ _ => exact absurd ⟨_, rfl⟩ hd
theorem Sls.congr (s : Sls K G H σ A L) : ∀ {σ' : L2.St}, σ'.length = σ.length → (∀ (i : Nat) d, A[i]? = some (some d) → σ'[i]? = σ[i]?) → Sls K G H σ' A L := by
  induction s with
  | nil => intro σ' hl _; have : σ' = [] := by simpa using hl
           subst this; exact .nil
  | skip s ih =>
    intro σ' hl h
    cases σ' with
    | nil => simp at hl
    | cons o σ' => exact .skip (ih (by simpa using hl) fun i d e => by simpa using h (i + 1) d (by simpa using e))
  | cons r s ih =>
    intro σ' hl h
    cases σ' with
    | nil => simp at hl
    | cons o σ' =>
      have e0 := h 0 _ rfl
      simp at e0
      subst e0
      exact .cons r (ih (by simpa using hl) fun i d e => by simpa using h (i + 1) d (by simpa using e))
theorem wipeA_len : ∀ (is : List Nat) (A : Sl), (wipeA A is).length = A.length
  | [], _ => rfl
  | i :: is, A => by simp [wipeA, wipeA_len is A]
theorem wipeA_in : ∀ {is : List Nat} {A : Sl} {i : Nat} {d : D}, (wipeA A is)[i]? = some (some d) → i ∉ is
  | [], _, _, _, _ => fun h => nomatch h
  | j :: is, A, i, d, h => fun m => by
    rcases List.mem_cons.mp m with e | m
    · subst e
      unfold wipeA at h
      rw [List.getElem?_set] at h
      simp at h
    · unfold wipeA at h
      rw [List.getElem?_set] at h
      split at h
      · split at h <;> simp at h
      · exact wipeA_in h m
theorem wipe_off : ∀ (is : List Nat) (σ : L2.St), SameOff is σ (wipe σ is)
  | [], σ => .refl
  | i :: is, σ => by
    have ih := wipe_off is σ
    refine SameOff.set ⟨ih.1, fun j hj => ih.2 j fun m => hj (List.mem_cons_of_mem _ m)⟩ List.mem_cons_self
theorem Abs.wipeA (is : List Nat) (h : Abs K B σ A ts H) : Abs K B σ (Ab.wipeA A is) ts H := by
  induction is with
  | nil => exact h
  | cons i is ih => exact ih.forget
/-- into a block: its own slots told nothing of, no aliases -/
theorem Abs.block {is : List Nat} (h : Abs K B σ A ts H) (so : SameOff is σ σ') : Abs K B σ' (Ab.wipeA A is) (Ab.clsd ts) H := by
  obtain ⟨G, L1, L2, gd, tm, sl, nd, ow⟩ := h.wipeA is
  exact ⟨G, L1, L2, gd, tm.clsd, sl.congr so.1 fun i d e => so.2 i (wipeA_in e), nd, ow⟩
/-- .. and out of it -/
theorem Abs.unblock {is : List Nat} {tmp : Ts} (h : Abs K B σ' A (tmp ++ Ab.clsd ts) H) (ct : Cl tmp) (so : SameOff is σ σ') (al : AlAt σ ts) : Abs K B σ (Ab.wipeA A is) (tmp ++ ts) H := by
  obtain ⟨G, L1, L2, gd, tm, sl, nd, ow⟩ := h.wipeA is
  have e : Ab.clsd (tmp ++ ts) = tmp ++ Ab.clsd ts := by
    unfold Ab.clsd
    rw [List.filter_append]
    congr 1
    refine List.filter_eq_self.mpr fun p hp => ?_
    have := ct p hp
    cases p with
    | mk v d => cases d <;> first | rfl | exact absurd rfl (this _)
  refine ⟨G, L1, L2, gd, Tms.unclsd (by rw [e]; exact tm) fun v i h => ?_, sl.congr so.1.symm fun i d e => (so.2 i (wipeA_in e)).symm, nd, ow⟩
  rcases List.mem_append.mp h with m | m
  · exact absurd rfl (ct _ m i)
  · exact al v i m
theorem SameOff.symm {is : List Nat} (h : SameOff is σ σ') : SameOff is σ' σ := ⟨h.1.symm, fun i hi => (h.2 i hi).symm⟩
theorem SameOff.trans {is : List Nat} {τ : L2.St} (h : SameOff is σ σ') (k : SameOff is σ' τ) : SameOff is σ τ := ⟨k.1.trans h.1, fun i hi => (k.2 i hi).trans (h.2 i hi)⟩
theorem clsd_id {tmp : Ts} (ct : Cl tmp) : Ab.clsd tmp = tmp := List.filter_eq_self.mpr fun p hp => by
  have := ct p hp
  cases p with
  | mk v d => cases d <;> first | rfl | exact absurd rfl (this _)
theorem clsd_app {tmp : Ts} (ct : Cl tmp) : Ab.clsd (tmp ++ ts) = tmp ++ Ab.clsd ts := by
  have e := clsd_id ct
  unfold Ab.clsd at e ⊢
  rw [List.filter_append, e]
theorem wipe_in : ∀ {is : List Nat} {σ : L2.St} {i : Nat}, i ∈ is → i < σ.length → (wipe σ is)[i]? = some none
  | j :: is, σ, i, m, h => by
    unfold wipe
    rw [List.getElem?_set]
    split
    · rename_i e
      subst e
      rw [wipe_length, if_pos h]
    · rename_i ne
      exact wipe_in ((List.mem_cons.mp m).resolve_left fun e => ne e.symm) h
theorem wipe_ext {is : List Nat} {σ σ' : L2.St} (so : SameOff is σ σ') : wipe σ' is = wipe σ is := by
  apply List.ext_getElem?
  intro i
  by_cases hi : i ∈ is
  · by_cases hl : i < σ.length
    · rw [wipe_in hi hl, wipe_in hi (by rw [so.1]; exact hl)]
    · rw [List.getElem?_eq_none (by rw [wipe_length, so.1]; omega), List.getElem?_eq_none (by rw [wipe_length]; omega)]
  · rw [(wipe_off is σ').2 i hi, (wipe_off is σ).2 i hi, so.2 i hi]
end
section
variable {z : Z} {X : Cx}
/-- within a block nothing is raised -/
abbrev Z.q (z : Z) : Z := { z with W := fun _ _ _ _ => False }
theorem comp_go {t : Tg} {fi : FI} {ft : FT} {fe : FE} {σ : L2.St} {H : Hp} {Q : VK} (h : tE z (fComp fi t ft fe) σ H Q) : tLc (tI z fi) (t.read z.K) (tT z.q ft) (tE z.q fe) t.own σ H Q := by
  obtain ⟨A, ts, hA, hp⟩ := h
  refine ⟨A, ts, hA, ?_⟩
  unfold fComp at hp
  cases ea : fi A with
  | stuck => rw [ea] at hp; exact (show False from hp).elim
  | exc c A1 => rw [ea] at hp; exact hp
  | ok ds A1 =>
    rw [ea] at hp
    simp only [Ou.bind_ok] at hp
    intro J tmp H1 ctmp it h1 Dl hD
    have al : AlAt σ ts := by
      obtain ⟨_, _, _, _, tm, _⟩ := h1.dropn
      exact tm.alAt
    have so : SameOff t.own σ (wipe σ t.own) := wipe_off _ _
    -- what a turn's start bears, what is wanted
    let Post : Ou (List D) → Prop := fun o => match o with
      | .ok es A2 => ∀ H', z.A (wipe σ t.own) A2 ((.ref Dl, .mu es) :: (tmp ++ Ab.clsd ts)) H' → Q (.ref Dl) H'
      | _ => False
    have hpost : Post (compL t ft fe ds [] (Ab.wipeA A1 t.own)) := by
      cases ec : compL t ft fe ds [] (Ab.wipeA A1 t.own) with
      | stuck => rw [ec] at hp; exact (show False from hp).elim
      | exc c A2 => rw [ec] at hp; exact (show False from hp).elim
      | ok es A2 =>
        rw [ec] at hp
        intro H' h'
        have h2 : z.A (wipe σ t.own) A2 ([(.ref Dl, .mu es)] ++ Ab.clsd ts) H' := h'.dropMid
        exact hp _ _ (h2.unblock (fun p m j e => by rw [List.mem_singleton.mp m] at e; cases e) so al)
    have h0 : z.A (wipe σ t.own) (Ab.wipeA A1 t.own) (tmp ++ Ab.clsd ts) H1 := by
      have := h1.block so
      rw [clsd_app ctmp] at this
      exact this
    have cT : Cl (tmp ++ Ab.clsd ts) := ctmp.app clsd_cl
    have cTD : ∀ es, Cl (tmp ++ (V.ref Dl, D.mu es) :: Ab.clsd ts) := fun es p hp => by
      rcases List.mem_append.mp hp with m | m
      · exact ctmp p m
      · rcases List.mem_cons.mp m with m | m
        · intro j e; rw [m] at e; cases e
        · exact clsd_cl p m
    refine ⟨fun i m H' => ∃ A' es, z.A (wipe σ t.own) A' ((.ref Dl, .mu es) :: (tmp ++ Ab.clsd ts)) H' ∧ m = ds.length - i ∧ i ≤ ds.length ∧ Post (compL t ft fe (ds.drop i) es A'), ⟨_, Ab.wipeA A1 t.own, [], Abs.lst (vs := []) (ds := []) rfl rfl h0 hD, rfl, Nat.zero_le _, hpost⟩, fun i m H' hW => ?_⟩
    obtain ⟨A', es, h', rfl, hi, hq⟩ := hW
    have hm : z.A (wipe σ t.own) A' (tmp ++ (.ref Dl, .mu es) :: Ab.clsd ts) H' := h'.perm (by simpa using (List.perm_middle (l₁ := tmp) (a := (V.ref Dl, D.mu es)) (l₂ := Ab.clsd ts)).symm)
    by_cases hlt : i < ds.length
    · refine .inr ⟨it.go _ A' _ H' i hm hlt, fun H2 => ∃ A2 es2, z.A (wipe σ t.own) A2 ((.ref Dl, .mu es2) :: (tmp ++ Ab.clsd ts)) H2 ∧ Post (compL t ft fe (ds.drop (i + 1)) es2 A2), fun H2 ⟨A2, es2, h2, q2⟩ => ⟨ds.length - (i + 1), by omega, A2, es2, h2, rfl, hlt, q2⟩, fun x H2 hy => ?_⟩
      have h2 := it.yld _ A' _ H' i x H2 ds[i] hm (List.getElem?_eq_getElem hlt) hy
      have hdrop : ds.drop i = ds[i] :: ds.drop (i + 1) := List.drop_eq_getElem_cons hlt
      rw [hdrop] at hq
      unfold compL at hq
      cases eset : t.set ds[i] A' with
      | none => rw [eset] at hq; exact (show False from hq).elim
      | some A3 =>
        rw [eset] at hq
        simp only at hq
        refine tg_go h2 (cTD es) eset fun σ3 h3 so3 => ⟨wipe_ext (so.trans so3), A3, _, h3, ?_⟩
        have soB : SameOff t.own σ3 (wipe σ t.own) := so3.symm
        cases et : ft A3 with
        | stuck => rw [et] at hq; exact (show False from hq).elim
        | exc c A4 => rw [et] at hq; exact (show False from hq).elim
        | ok b A4 =>
          rw [et] at hq
          intro H3 h4
          cases b with
          | false =>
            rw [if_neg Bool.false_ne_true]
            have h5 : z.A σ3 A4 ((.ref Dl, .mu es) :: (tmp ++ Ab.clsd ts)) H3 := h4.perm List.perm_middle
            have h6 := h5.block soB
            rw [clsd_id (fun p hp => (List.mem_cons.mp hp).elim (fun e j q => by rw [e] at q; cases q) (cT p))] at h6
            exact ⟨_, es, h6, hq⟩
          | true =>
            rw [if_pos rfl]
            simp only at hq
            refine ⟨A4, _, h4, ?_⟩
            cases ee : fe A4 with
            | stuck => rw [ee] at hq; exact (show False from hq).elim
            | exc c A5 => rw [ee] at hq; exact (show False from hq).elim
            | ok e A5 =>
              rw [ee] at hq
              simp only at hq
              intro y H4 h5
              split at hq
              · rename_i e' A6 ecl
                obtain ⟨h6, n6⟩ := h5.closeD ecl
                split at hq
                · rename_i hl
                  have h7 : z.A σ3 A6 ((y, e') :: (.ref Dl, .mu es) :: (tmp ++ Ab.clsd ts)) H4 := h6.perm (List.Perm.cons _ List.perm_middle)
                  obtain ⟨p, xs, q, hp2, hlen, h8⟩ := h7.app n6
                  cases q
                  have h9 := h8.block soB
                  rw [clsd_id (fun p hp => (List.mem_cons.mp hp).elim (fun e j q => by rw [e] at q; cases q) (cT p))] at h9
                  exact ⟨xs, hp2, by rw [hlen]; exact hl, _, _, h9, hq⟩
                · exact (show False from hq).elim
              · exact (show False from hq).elim
    · have e : i = ds.length := by omega
      subst e
      rw [List.drop_length] at hq
      exact .inl ⟨it.stop _ A' _ H' _ hm (Nat.le_refl _), hq H' h'⟩
theorem qe_comp {elt tg iter : Expr} {ifs : List Expr} {scope : Scope} {own : List (Str × Nat)} {pos : Pos} {t : Tg} {fi : FI} {ft : FT} {fe : FE} (hc : X.calm = true) (hN : X.N.Nodup) (hK : X.K = z.K) (ho : own.map (·.2) = t.own) (hi : PI X tg iter (tI z fi)) (ok : BlkOk X.N X.env.scope scope own)
    (hg : ∀ (s : Shared) (H : Hp) (C : Addr) (cl : List (Str × Addr)) (fp : List Addr), PG (X.blk s H scope (compEnvC scope cl C X.env) fp) tg (t.read X.K)) (ht : ∀ (s : Shared) (H : Hp) (C : Addr) (cl : List (Str × Addr)) (fp : List Addr), PTs (X.blk s H scope (compEnvC scope cl C X.env) fp) ifs (tT z.q ft))
    (he : ∀ (s : Shared) (H : Hp) (C : Addr) (cl : List (Str × Addr)) (fp : List Addr), PE (X.blk s H scope (compEnvC scope cl C X.env) fp) elt (tE z.q fe)) (hs : ∀ x, foldedSetIterable iter X.env x = pure x := by intro _; rfl) :
    PE X (.ListComp elt [⟨tg, iter, ifs, 0⟩] scope pos) (tE z (fComp fi t ft fe)) :=
  PE.imp (pe_lc hc hN hi ok hg ht he hs) fun _ _ _ h => by rw [hK, ho]; exact comp_go h
theorem qs_comp {i : Nat} {y : Str} {py : Pos} {elt tg iter : Expr} {ifs : List Expr} {scope : Scope} {own : List (Str × Nat)} {pos spos : Pos} {t : Tg} {fi : FI} {ft : FT} {fe : FE} (hc : X.calm = true) (hN : X.N.Nodup) (hK : X.K = z.K) (ho : own.map (·.2) = t.own) (hy : X.N[i]? = some y) (hyl : X.env.scope.names.lookup y = some .local)
    (hsw : swapsWith (.ListComp elt [⟨tg, iter, ifs, 0⟩] scope pos) (some (.Name y py)) spos.line X.env = pure true) (hi : PI X tg iter (tI z fi)) (ok : BlkOk X.N X.env.scope scope own)
    (hg : ∀ (s : Shared) (H : Hp) (C : Addr) (cl : List (Str × Addr)) (fp : List Addr), PG (X.blk s H scope (compEnvC scope cl C X.env) fp) tg (t.read X.K)) (ht : ∀ (s : Shared) (H : Hp) (C : Addr) (cl : List (Str × Addr)) (fp : List Addr), PTs (X.blk s H scope (compEnvC scope cl C X.env) fp) ifs (tT z.q ft))
    (he : ∀ (s : Shared) (H : Hp) (C : Addr) (cl : List (Str × Addr)) (fp : List Addr), PE (X.blk s H scope (compEnvC scope cl C X.env) fp) elt (tE z.q fe)) (hs : ∀ x, foldedSetIterable iter X.env x = pure x := by intro _; rfl) :
    PS X (.Assign [.Name y py] (.ListComp elt [⟨tg, iter, ifs, 0⟩] scope pos) spos) (tS z (fAsg i (fComp fi t ft fe))) :=
  PS.imp (ps_setLc hc hN hy hyl hsw hi ok hg ht he hs) fun D σ H h => by
    have := asg_go h
    obtain ⟨A, ts, hA, hp⟩ := this
    rw [hK, ho]
    exact comp_go ⟨A, ts, hA, hp⟩
theorem qs_compF {i : Nat} {y : Str} {py : Pos} {elt tg iter : Expr} {ifs : List Expr} {scope : Scope} {own : List (Str × Nat)} {pos spos : Pos} {t : Tg} {fi : FI} {ft : FT} {fe : FE} (hc : X.calm = true) (hN : X.N.Nodup) (hK : X.K = z.K) (ho : own.map (·.2) = t.own) (hy : X.N[i]? = some y) (hyl : X.env.scope.names.lookup y = some .local)
    (hsw : swapsWith (.ListComp elt [⟨tg, iter, ifs, 0⟩] scope pos) (some (.Name y py)) spos.line X.env = pure true) (hi : PI X tg iter (tI z fi)) (ok : BlkOk X.N X.env.scope scope own)
    (hg : ∀ (s : Shared) (H : Hp) (C : Addr) (cl : List (Str × Addr)) (fp : List Addr), PG (X.blk s H scope (compEnvC scope cl C X.env) fp) tg (t.read X.K)) (ht : ∀ (s : Shared) (H : Hp) (C : Addr) (cl : List (Str × Addr)) (fp : List Addr), PTs (X.blk s H scope (compEnvC scope cl C X.env) fp) ifs (tT z.q ft))
    (he : ∀ (s : Shared) (H : Hp) (C : Addr) (cl : List (Str × Addr)) (fp : List Addr), PE (X.blk s H scope (compEnvC scope cl C X.env) fp) elt (tE z.q fe)) (hs : ∀ x, foldedSetIterable iter X.env x = pure x := by intro _; rfl) :
    PS X (.Assign [.Name y py] (.ListComp elt [⟨tg, iter, ifs, 0⟩] scope pos) spos) (tS z (fAsgF i (fComp fi t ft fe))) :=
  PS.imp (ps_setLc hc hN hy hyl hsw hi ok hg ht he hs) fun D σ H h => by
    have := asgF_go h
    obtain ⟨A, ts, hA, hp⟩ := this
    rw [hK, ho]
    exact comp_go ⟨A, ts, hA, hp⟩
theorem qts_nil : PTs X [] (tT z fYes) := ⟨fun pins s σ H Q I ⟨A, ts, hA, hp⟩ => pts_nil.run pins s σ H Q I (hp _ hA)⟩
theorem qts_one {c : Expr} {ft : FT} (h : PT X c (tT z ft)) : PTs X [c] (tT z ft) := pts_one h
end

/-! ### a def -/
def runF (n : Nat) (fb : FS) (ds : List D) : Ro := match fb (ds.map some ++ List.replicate (n - ds.length) none) with
  | .ok (.ret (.al _)) _ => .stuck
  | .ok (.ret d) _ => .ok d
  | .ok .next _ => .ok .non
  | .ok _ _ => .stuck
  | .exc c _ => .exc c
  | .stuck => .stuck
/-- .. for so many parameters alone -/
def defF (k n : Nat) (fb : FS) (ds : List D) : Ro := if ds.length = k then runF n fb ds else .stuck
theorem defF_len {k n : Nat} {fb : FS} (ds : List D) (h : defF k n fb ds ≠ .stuck) : ds.length = k := by
  unfold defF at h
  split at h
  · assumption
  · exact absurd rfl h
section
variable {P : Program} {w : World} {K : PySem.W.Frag} {mg : Str → Option Value} {base : Heap}
theorem sls_start {K : Fw} {G H : Hp} : ∀ {vs : List V} {ds : List D} (m : Nat), Rs K G H vs ds [] → Sls K G H (vs.map some ++ List.replicate m none) (ds.map some ++ List.replicate m none) []
  | [], [], 0, _ => .nil
  | [], [], m + 1, r => by
    rw [List.replicate_succ]
    exact .skip (sls_start m r)
  | v :: vs, d :: ds, m, r => by
    generalize hL : ([] : List Addr) = L0 at r
    cases r with
    | cons r t =>
      obtain ⟨e1, e2⟩ := List.append_eq_nil_iff.mp hL.symm
      subst e1; subst e2
      exact Sls.cons r (sls_start m t)
/-- THE RULE for a def: its body as a term of rules over what is told -/
theorem ok_def {x qual : Str} {st : Stmt} {f : Addr} {fd : FuncData} {N ps : List Str} {k np nn : Nat} {cl : Str → Value} {fb : FS} (hnp : ps.length = np) (hnn : N.length = nn) (F : Fun K x qual st f fd) (S : FnScope N ps (defScope st))
    (hbody : ∀ (cdv : Value) (A : Around) (outer : List Env) (s : Shared) (H : Hp) (E : XK) (B : Bs), Room k (A.deeper (envOfC qual (defScope st) s.heap.objs.size f cdv)) →
      Takes (cxOf (L2.CX P w) P w K mg base N qual (defScope st) f cdv A outer s H E) (fun cls d _ H => E cls d H) →
      PassesOwn (model P w) (cxOf (L2.CX P w) P w K mg base N qual (defScope st) f cdv A outer s H E).A (cxOf (L2.CX P w) P w K mg base N qual (defScope st) f cdv A outer s H E).env (cxOf (L2.CX P w) P w K mg base N qual (defScope st) f cdv A outer s H E).xe →
      PSs (cxOf (L2.CX P w) P w K mg base N qual (defScope st) f cdv A outer s H E) (defBody st) (tS ⟨⟨K, w, cl⟩, B, cl, fun cls d _ H => E cls d H⟩ fb)) :
    FnOk P w K mg base (L2.CX P w) (k + 1) f fd ps (spF ⟨K, w, cl⟩ cl np (defF np nn fb)) := by
  subst hnp; subst hnn
  refine F.okX S (fun vs H Q E h => ?_) (fun cdv A outer s H vs Q E hr h => ?_)
  · obtain ⟨G, ds, _, hl, rs, _⟩ := h
    rw [rs.length]; exact hl
  · obtain ⟨G, ds, gh, hl, rs, h⟩ := h
    refine ⟨_, hbody cdv A outer s H E ⟨G, H, []⟩ hr (takes_of rfl rfl rfl rfl) (passes_of rfl), ds.map some ++ List.replicate (N.length - ds.length) none, [], ?_, (fun _ m => nomatch m), ?_⟩
    · refine ⟨G, [], [], ⟨gh, fun _ _ e => e, fun _ _ _ e => e, fun _ _ _ e => e, (fun _ m => nomatch m)⟩, .nil, ?_, List.nodup_nil, (fun _ m => nomatch m)⟩
      unfold L2.start
      rw [rs.length]
      exact sls_start _ rs.unown
    · unfold defF at h
      rw [if_pos hl] at h
      unfold runF at h
      cases eb : fb (ds.map some ++ List.replicate (N.length - ds.length) none) with
      | stuck => rw [eb] at h; exact (show False from h).elim
      | exc c A' =>
        rw [eb] at h
        intro σ' H' h'
        obtain ⟨G', L1, L2, gd, _⟩ := h'
        exact h H' fun a o e => gd.bh a o (fun m => nomatch m) e
      | ok r A' =>
        rw [eb] at h
        have fin : ∀ {d : D} {v : V} {σ' : L2.St} {H' : Hp}, (∀ v H' G' L, Same H H' → Same G G' → Same G' H' → (∀ a, H a ≠ none → G a = none → G' a = none) → R ⟨K, w, cl⟩ G' H' v d L → L.Nodup → (∀ a ∈ L, H a = none) → Q v H') →
            Abs ⟨K, w, cl⟩ ⟨G, H, []⟩ σ' A' ((v, d) :: []) H' → (∀ j, d ≠ .al j) → Q v H' := by
          intro d v σ' H' hq h' nd
          obtain ⟨G', L1, L2, gd, tm, sl, ndp, ow⟩ := h'
          cases tm with
          | al _ _ => exact absurd rfl (nd _)
          | cons r t =>
            rename_i La Lb
            refine hq v H' G' La (fun a o e => gd.bh a o (fun m => nomatch m) e) gd.bg gd.gh (fun a e1 e2 => gd.sep a (fun m => nomatch m) e1 e2) r ?_ fun a ha => ?_
            · rw [List.append_assoc] at ndp; exact (List.nodup_append.mp ndp).1
            · exact (ow a (List.mem_append_left _ (List.mem_append_left _ ha))).resolve_right fun m => nomatch m
        cases r with
        | next => exact fun σ' H' h' => fin h h'.pnon fun j q => nomatch q
        | brk => exact (show False from h).elim
        | cont => exact (show False from h).elim
        | ret d =>
          intro v σ' H' h'
          cases d <;> first | exact (show False from h).elim | exact fin h h' fun j q => nomatch q
end
end Ab
end
section
namespace Ab
open PySem PySem.Spec PyProof.Rows L2

/-! ### methods by values that change nothing -/
def fMt (g : D → List D → Sl → Option D) (fo : FE) (fa : FA) : FE := fun A => (fo A).bind fun d A1 => (fa A1).bind fun ds A2 => match g d ds A2 with
  | some r => .ok r A2
  | none => .stuck
/-- what the receiver must be, seen ahead of the arguments -/
def fMtL (g : D → List D → Sl → Option D) (fo : FE) (fa : FA) : FE := fun A => (fo A).bind fun d A1 => match lsOf (see A1 d) with
  | none => .stuck
  | some _ => (fa A1).bind fun ds A2 => match g d ds A2 with
    | some r => .ok r A2
    | none => .stuck
def MtD (z : Z) (r : V → List V → Hp → VK → Prop) (g : D → List D → Sl → Option D) : Prop :=
  ∀ (σ : L2.St) (A : Sl) (ts : Ts) (H : Hp) (v : V) (d : D) (vs : List V) (ds : List D) (d' : D), vs.length = ds.length → z.A σ A (vs.zip ds ++ (v, d) :: ts) H → g d ds A = some d' → ∀ Q : VK, (∀ w H', z.A σ A ((w, d') :: ts) H' → Q w H') → r v vs H Q
section
variable {z : Z} {X : Cx}
theorem mtL_go {r : V → List V → Hp → VK → Prop} {g : D → List D → Sl → Option D} {fo : FE} {fa : FA} (hd : MtD z r g) {σ : L2.St} {H : Hp} {Q : VK} (h : tE z (fMtL g fo fa) σ H Q) : tBM z.K "list" r (tE z fo) (tA z fa) σ H Q := by
  obtain ⟨A, ts, hA, hp⟩ := h
  refine ⟨A, ts, hA, ?_⟩
  unfold fMtL at hp
  cases ea : fo A with
  | stuck => rw [ea] at hp; exact (show False from hp).elim
  | exc c A1 => rw [ea] at hp; exact hp
  | ok d A1 =>
    rw [ea] at hp
    simp only [Ou.bind_ok] at hp
    intro v H1 h1
    split at hp
    · exact (show False from hp).elim
    · rename_i ls els
      obtain ⟨G, L, gh, rr, _⟩ := h1.open (lsOf_al els)
      obtain ⟨a, xs, _, rfl, sq, _⟩ := rr.list gh els
      refine ⟨.inl ⟨rfl, xs, sq⟩, A1, _, h1, ?_⟩
      cases eb : fa A1 with
      | stuck => rw [eb] at hp; exact (show False from hp).elim
      | exc c A2 => rw [eb] at hp; exact fun H' h' => hp H' h'.drop
      | ok ds A2 =>
        rw [eb] at hp
        simp only [Ou.bind_ok] at hp
        intro vs H2 hl h2
        split at hp
        · rename_i d' eg
          exact hd _ _ _ _ _ _ _ _ _ hl h2 eg Q hp
        · exact (show False from hp).elim
/-! x.index(e) -/
def idxOf (x : PyData) : List PyData → Nat → Option Nat
  | [], _ => none
  | y :: ys, k => if PyData.eqv y x = true then some k else idxOf x ys (k + 1)
theorem idxOf_spec {x : PyData} : ∀ {ys : List PyData} {k j : Nat}, idxOf x ys k = some j → ∃ m y, j = k + m ∧ ys[m]? = some y ∧ PyData.eqv y x = true ∧ ∀ (m' : Nat) y', m' < m → ys[m']? = some y' → PyData.eqv y' x = false
  | [], _, _, h => by simp [idxOf] at h
  | y :: ys, k, j, h => by
    unfold idxOf at h
    split at h
    · rename_i e
      cases h
      exact ⟨0, y, rfl, rfl, e, fun m' _ h => absurd h (Nat.not_lt_zero _)⟩
    · rename_i e
      obtain ⟨m, y', h1, h2, h3, h4⟩ := idxOf_spec h
      refine ⟨m + 1, y', by omega, by simpa using h2, h3, fun m' y2 hm hy => ?_⟩
      cases m' with
      | zero =>
        simp at hy; subst hy
        simpa using e
      | succ m' => exact h4 m' y2 (by omega) (by simpa using hy)
def gIndex (d : D) (ds : List D) (A : Sl) : Option D := match ds with
  | [e] => match lsOf (see A d) with
    | some es => if (okD (see A d) && okD (see A e)) = true then (idxOf (dat (see A e)) (dats es) 0).map fun j => .int (j : Nat) else none
    | none => none
  | _ => none
theorem dat_ls {d : D} {ds : List D} (h : lsOf d = some ds) : dat d = .list (dats ds) := by
  cases d <;> simp only [lsOf] at h <;> cases h <;> simp [dat]
theorem md_index : MtD z (rIndexD z.K) gIndex := by
  intro σ A ts H v d vs ds d' hl h hg Q q
  unfold gIndex at hg
  split at hg
  · rename_i e
    obtain ⟨u, rfl⟩ := call1 hl rfl
    have h : z.A σ A ((u, e) :: (v, d) :: ts) H := h
    split at hg
    · rename_i es hs
      by_cases hk : (okD (see A d) && okD (see A e)) = true
      · rw [if_pos hk] at hg
        rw [Bool.and_eq_true] at hk
        cases hi : idxOf (dat (see A e)) (dats es) 0 with
        | none => rw [hi] at hg; cases hg
        | some j =>
          rw [hi] at hg
          cases hg
          obtain ⟨m, y, e1, h2, h3, h4⟩ := idxOf_spec hi
          obtain ⟨G, L, L', gh, r1, r2, f⟩ := h.open2 (okD_al hk.2) (okD_al hk.1)
          obtain ⟨a, xs, _, rfl, _, _⟩ := r2.list gh hs
          have d2 := r2.dp gh (okD_lay hk.1)
          have s2 : SeqAt.shaped (dat (see A d)) = true := hk.1
          rw [dat_ls hs] at d2 s2
          have e2 : j = m := by omega
          subst e2
          exact ⟨a, u, _, _, j, y, rfl, rfl, d2, r1.dp gh (okD_lay hk.2), s2, hk.2, h2, h3, h4, q _ _ (f.known gh (.int _))⟩
      · rw [if_neg hk] at hg; cases hg
    · cases hg
  · cases hg
theorem qe_index {o e : Expr} {fo : FE} {fa : FA} {apos cpos : Pos} (hu : X.A.units + 65 < cLine) (hK : X.K = z.K) (ho : PE X o (tE z fo)) (he : PA X [e] (tA z fa))
    (hbase : attributeBase o "index" X.env (eval o X.env) = eval o X.env := by rfl)
    (hfew : ((backTo cpos (starEach [e] X.env)).all (fun x => !x.1) && (backToKw cpos (keywordEach [] X.env)).all (fun x => x.1.isSome)
      && decide ([e].length + ([] : List Keyword).length + (if ([] : List Keyword).isEmpty then 0 else 1) < 30)) = true := by rfl)
    (hline : (apos.endLine == cpos.line) = true := by rfl) (hs : starEach [e] X.env = (false, eval e X.env) :: starEach [] X.env := by rfl) (hplain : (backTo cpos (starEach [] X.env)).any (·.1) = false := by rfl) :
    PE X (.Call (.Attribute o "index" apos) [e] [] cpos) (tE z (fMtL gIndex fo fa)) :=
  PE.imp (pe_bm PySem.F.plainAttrs_list PySem.F.slot_list_index PySem.F.type_list_index (mt_indexD hu) ho he hbase hfew hline hs hplain) fun _ _ _ h => by rw [hK]; exact mtL_go (by rw [← hK]; rw [hK]; exact md_index) h

/-! ### sugar for printed terms -/
theorem qv (i : Nat) {x : Str} {pos : Pos} (hN : X.N[i]? = some x := by rfl) (hv : Vis X.env.scope x := by first | exact Or.inl rfl | exact Or.inr (Or.inl rfl) | exact Or.inr (Or.inr rfl)) (hd : (x == ("__debug__" : Str)) = false := by decide)
    (hcd : (x == ("__classdict__" : Str)) = false := by decide) : PE X (.Name x pos) (tE z (fVar i)) := qe_var (pv i hN hv hd hcd)
theorem hu64 {k : Nat} {A : Around} (r : Room k A) : A.units + 64 < cLine := r.units
theorem hu65 {k : Nat} {A : Around} (r : Room k A) : A.units + 65 < cLine := by have := r.un; omega
end
/-- the law's end, from its plain function -/
theorem law_sp {K : Fw} {cl : Str → Value} {F : List D → Ro} {H : Hp} {a : Addr} {ns : List Int} (hF : F [.fro (ns.map D.int)] = .ok (.bl true)) (hS : SqL K H a (ns.map V.int)) : spF K cl 1 F [.ref a] H (fun v _ => v = .bl true) fun _ _ _ => False := by
  have allI : ∀ ns : List Int, Rs K H H (ns.map V.int) (ns.map D.int) [] := by
    intro ns
    induction ns with
    | nil => exact .nil
    | cons n ns ih => exact Rs.cons (.int n) ih
  refine ⟨H, [.fro (ns.map D.int)], fun _ _ e => e, rfl, by simpa using Rs.one (.fro hS (allI ns)), ?_⟩
  rw [hF]
  intro v H' G' L _ _ _ _ r _ _
  cases r
  rfl
theorem law_cx {P : Program} {w : World} {H : Hp} {s : Shared} {e : Value} {s' : Shared} (h : L2.CX P w [] H s (fun _ _ _ => False) e s') : False := by
  obtain ⟨_, _, _, _, _, _, _, _, _, _, _, _, h⟩ := h
  exact h
end Ab
end
section
namespace Ab
open PySem PySem.Spec PyProof.Rows L2

/-! ### slices with a step -/
def pickAt {α : Type} (js : List Nat) (xs : List α) : List α := js.filterMap (xs[·]?)
def pickJs (lo hi st : Option Int) (n : Nat) : List Nat := sliceRange (sliceBounds lo hi st n).1 (sliceBounds lo hi st n).2.1 (sliceBounds lo hi st n).2.2
def pickG {α : Type} (xs : List α) (lo hi st : Option Int) : List α := pickAt (pickJs lo hi st xs.length) xs
theorem slicePick_G (xs : List Value) (lo hi st : Option Int) : slicePick xs.toArray lo hi st = (pickG xs lo hi st).toArray := by
  unfold slicePick pickG pickAt pickJs
  simp only [List.size_toArray, List.getElem?_toArray]
theorem valsPick {xs : List V} {us : List Value} (r : Vals xs us) : ∀ js : List Nat, Vals (pickAt js xs) (pickAt js us)
  | [] => .nil
  | j :: js => by
    have ih := valsPick r js
    unfold pickAt at ih ⊢
    cases e : xs[j]? with
    | none => rw [List.filterMap_cons_none e, List.filterMap_cons_none (r.none_of e)]; exact ih
    | some x =>
      obtain ⟨u, h1, h2⟩ := r.get e
      rw [List.filterMap_cons_some e, List.filterMap_cons_some h1]
      exact .cons h2 ih
theorem rsPick {K : Fw} {G H : Hp} {xs : List V} {ds : List D} (r : Rs K G H xs ds []) : ∀ js : List Nat, Rs K G H (pickAt js xs) (pickAt js ds) []
  | [] => .nil
  | j :: js => by
    have ih := rsPick r js
    unfold pickAt at ih ⊢
    cases e : xs[j]? with
    | none =>
      have l := r.length
      have h2 : xs.length ≤ j := List.getElem?_eq_none_iff.mp e
      rw [List.filterMap_cons_none e, List.filterMap_cons_none (List.getElem?_eq_none_iff.mpr (by omega))]
      exact ih
    | some x =>
      obtain ⟨d, Li, h1, h2, h3⟩ := r.get e
      have e3 := List.sublist_nil.mp h3
      subst e3
      rw [List.filterMap_cons_some e, List.filterMap_cons_some h1]
      exact .cons h2 ih
theorem pickG_le (xs : List V) (us : List Value) (r : Vals xs us) (lo hi st : Option Int) : (pickG xs lo hi st).length ≤ us.length := by
  have h := slicePick_size_le us.toArray lo hi st
  rw [slicePick_G, List.size_toArray, List.size_toArray] at h
  have e : (pickG xs lo hi st).length = (pickG us lo hi st).length := by
    have := (valsPick r (pickJs lo hi st us.length)).length
    unfold pickG
    rw [r.length]
    exact this
  omega
def SlR3 (X : Cx) (r : V → Option Int → Option Int → Option Int → Hp → VK → Prop) : Prop :=
  ∀ (pins : List (Addr × Obj)) (s : Shared) (σ : L2.St) (H : Hp) (x : V) (v vl vu vt : Value) (lo hi st : Option Int) (sl : Addr) (Q : VK), Inv X pins σ H s → RelV x v → s.heap.IsSliceOf sl vl vu vt → IsPart vl lo → IsPart vu hi → IsPart vt st → r x lo hi st H Q →
    ∃ T id, typeLookup (.type T) "__getitem__" = pure (some (.builtin id)) ∧ s.TypeIs v T ∧ wpAny (model X.prog X.w) X.A (getItem v (.ref sl)) (EP X pins σ Q) X.xe s
section
variable {X : Cx}
theorem SlR3.or {r r' : V → Option Int → Option Int → Option Int → Hp → VK → Prop} (h : SlR3 X r) (h' : SlR3 X r') : SlR3 X (fun x lo hi st H Q => r x lo hi st H Q ∨ r' x lo hi st H Q) := by
  intro pins s σ H x v vl vu vt lo hi st sl Q I rx hs pl pu pt q
  rcases q with q | q
  · exact h pins s σ H x v vl vu vt lo hi st sl Q I rx hs pl pu pt q
  · exact h' pins s σ H x v vl vu vt lo hi st sl Q I rx hs pl pu pt q
def tSl3 (r : V → Option Int → Option Int → Option Int → Hp → VK → Prop) (te : TE) (tl th tt : TO) : TE := fun σ H Q => te σ H fun x H1 => tl σ H1 fun l H2 => th σ H2 fun u H3 => tt σ H3 fun t H4 => r x l u t H4 Q
theorem pe_slice3 {e st : Expr} {te : TE} {lo hi : Option Expr} {tl th tt : TO} {pos p2 : Pos} {r : V → Option Int → Option Int → Option Int → Hp → VK → Prop} (hr : SlR3 X r) (he : PE X e te) (hl : PO X lo tl) (hu : PO X hi th) (ht : PO X (some st) tt) : PE X (.Subscript e (.Slice lo hi (some st) p2) pos) (tSl3 r te tl th tt) := by
  refine ⟨fun pins s σ H Q I h => ?_⟩
  refine Subscript_ (thn (he.run pins s σ H _ I h) fun v s1 ⟨x, H1, I1, r1, q1⟩ => ?_)
  refine wpAny_Slice (thn (hl.run pins s1 σ H1 _ I1 q1) fun vl s2 ⟨l, H2, I2, pl, q2⟩ => thn (hu.run pins s2 σ H2 _ I2 q2) fun vu s3 ⟨u, H3, I3, pu, q3⟩ => thn (ht.run pins s3 σ H3 _ I3 q3) fun vt s4 ⟨t, H4, I4, pt, q4⟩ => ?_)
  have I5 : Inv X pins σ H4 { s4 with heap := s4.heap.push { cls := .type "slice", data := .fields #[vl, vu, vt] } } := I4.kept (t' := s4.toks) fun b ob q => Heap.get?_push_of_some _ q
  obtain ⟨T, id, hT, hh, hg⟩ := hr pins { s4 with heap := s4.heap.push { cls := .type "slice", data := .fields #[vl, vu, vt] } } σ H4 x v vl vu vt l u t s4.heap.objs.size Q I5 r1 (Heap.IsSliceOf.new ..) pl pu pt q4
  show wpAny (model X.prog X.w) X.A (subscriptTail e (.Slice lo hi (some st) p2) v (.ref s4.heap.objs.size)) (EP X pins σ Q) X.xe { s4 with heap := s4.heap.push { cls := .type "slice", data := .fields #[vl, vu, vt] } }
  exact tail_any (ops := [v, .ref s4.heap.objs.size]) hh hT hg (by with_unfolding_all rfl)
def rSl3L (K : PySem.W.Frag) : V → Option Int → Option Int → Option Int → Hp → VK → Prop := fun x lo hi st H Q => ∃ a xs, x = .ref a ∧ SqL K H a xs ∧ st ≠ some 0 ∧ ∀ p, H p = none → Q (.ref p) (upd H p (.lst (pickG xs lo hi st)))
theorem sl3_list : SlR3 X (rSl3L X.K) := by
  intro pins s σ H x v vl vu vt lo hi st sl Q I rx hs pl pu pt h
  obtain ⟨a, xs, rfl, hx, h0, q⟩ := h
  cases rx
  obtain ⟨its, r, ht, hz⟩ := I.list hx
  have hlen := r.length
  refine ⟨"list", _, slot_list_getitem.lookup, ht.isList.typeIs, ?_⟩
  refine wpAny_getItem_list_slice ht.isList hs pl pu pt h0 ?_ (by rw [List.size_toArray] <;> omega)
  rw [slicePick_G]
  refine ⟨.ref s.heap.objs.size, _, I.laid (t' := s.toks) (o := .lst (pickG xs lo hi st)) (fun b ob q => Heap.get?_push_of_some _ q) (Nat.le_refl _) ?_, rfl, q _ (I.hok.fresh (Nat.le_refl _))⟩
  refine ⟨Nat.le_trans (pickG_le xs its r lo hi st) (hlen ▸ hz), _, 0, ?_, Heap.get?_push_size _ rfl⟩
  unfold pickG
  rw [hlen]
  exact valsPick r _

/-! t[::-1] -/
theorem filterMap_same {α β : Type} {f g : α → Option β} : ∀ {xs : List α}, (∀ x ∈ xs, f x = g x) → xs.filterMap f = xs.filterMap g
  | [], _ => rfl
  | x :: xs, h => by
    rw [List.filterMap_cons, List.filterMap_cons, h x (List.mem_cons_self), filterMap_same fun y hy => h y (List.mem_cons_of_mem _ hy)]
theorem revPick (xs : List Value) : ((List.range xs.length).filterMap fun (m : Nat) => xs.toArray[(((xs.length : Int) - 1) + (m : Int) * (-1)).toNat]?).toArray = xs.reverse.toArray := by
  congr 1
  rw [filterMap_same (g := fun m => xs.reverse[m]?)]
  · have := pick_run xs.reverse.toArray 0 xs.length
    simp only [Nat.zero_add, List.getElem?_toArray] at this
    rw [List.map_id'] at this
    rw [this]
    simp only [List.drop_zero]
    rw [List.take_of_length_le (by simp)]
  · intro m hm
    have h1 : m < xs.length := List.mem_range.mp hm
    rw [List.getElem?_toArray, List.getElem?_reverse h1]
    congr 1
    omega
theorem adjust_rev (n : Nat) : Builtin.Slice.sliceAdjust none none (-1) (n : Int) = ((n : Int) - 1, -1) := by
  unfold Builtin.Slice.sliceAdjust
  simp only [show ((-1 : Int) < 0) from by decide, if_true]
theorem places_rev (n : Nat) : Builtin.Slice.slicePlaces ((n : Int) - 1) (-1) (-1) = n := by
  unfold Builtin.Slice.slicePlaces
  simp only [show ¬ ((-1 : Int) > 0) from by decide, if_false, show (-(-1) : Int) = 1 from by decide, Int.ediv_one]
  split <;> omega
section
variable {prog : Program} {w : World} {A : Around} {E : Value → Shared → Prop} {s : Shared}
theorem sliceApplied_rev {sl : Addr} {t : Tok} {n : Nat} {Q : Int × Int × Nat → Shared → Prop} (hs : s.heap.IsSliceOf sl .none .none (.int (-1) t))
    (h : Q ((n : Int) - 1, -1, n) s) : wpAny (model prog w) A (Builtin.Slice.sliceApplied (.ref sl) (pure (n : Int))) Q E s := by
  obtain ⟨os, hos, hcs, hds⟩ := id hs
  unfold Builtin.Slice.sliceApplied Builtin.Slice.sliceFields
  refine wpAny_bind (wpAny_bind (wpAny_field hos hds (x := .none) rfl (wpAny_bind (wpAny_field hos hds (x := .none) rfl (wpAny_bind (wpAny_field hos hds (x := .int (-1) t) rfl (wpAny_pure ?_)))))))
  refine wpAny_bind (slicePart_int ?_)
  show wpAny _ _ (if ((-1 : Int) == 0) = true then _ else _) _ _ s
  rw [if_neg (by decide)]
  refine wpAny_bind (slicePart_none (wpAny_bind (slicePart_none (wpAny_bind (wpAny_pure ?_)))))
  show wpAny _ _ (match Builtin.Slice.sliceAdjust none none (-1) (n : Int) with | (lo, hi) => pure (lo, (-1 : Int), Builtin.Slice.slicePlaces lo hi (-1))) _ _ s
  rw [adjust_rev n]
  show wpAny _ _ (pure ((n : Int) - 1, (-1 : Int), Builtin.Slice.slicePlaces ((n : Int) - 1) (-1) (-1))) _ _ s
  rw [places_rev]
  exact wpAny_pure h
theorem getItem_tuple_rev {t sl : Addr} {xs : List Value} {tk : Tok} {Q : Value → Shared → Prop} (ht : IsTup s.heap t xs.toArray) (hs : s.heap.IsSliceOf sl .none .none (.int (-1) tk))
    (h : Q (.ref s.heap.objs.size) { s with heap := s.heap.push { cls := .type "tuple", data := .seq xs.reverse.toArray } })
    (hsz : xs.toArray.size ≤ sizeLine) : wpAny (model prog w) A (getItem (.ref t) (.ref sl)) Q E s := by
  have htake : sizeOk (.seq xs.reverse.toArray) := by
    show xs.reverse.toArray.size ≤ sizeLine
    rw [List.size_toArray, List.length_reverse]
    rw [List.size_toArray] at hsz
    exact hsz
  obtain ⟨os, hos, hcs, hds⟩ := id hs
  have hTs : s.TypeIs (.ref sl) "slice" := ⟨os, hos, hcs⟩
  unfold getItem
  try with_reducible refine wpAny_holding ?_
  first | refine wpAny_bind (wpAny_pure ?_) | skip
  refine wpAny_bind (wpAny_sequenceKey ht.typeIs (by decide) ?_)
  refine wpAny_bind (wpAny_callSpecial?_slot (name := Str.ofString "__getitem__") ht.typeIs PyProof.Rows.slot_tuple_getitem
    (wpAny_call_entry PyProof.Rows.slot_tuple_getitem ht.typeIs PyProof.Rows.entry_tuple_getitem ?_ (PyProof.Rows.args_tuple_getitem _ _)))
  show wpAny _ _ (Builtin.Tuple.tupleItemsOf (.ref t) >>= _) _ _ s
  refine wpAny_bind (PyProof.Rows.tupleItemsOf_ ht ?_)
  refine wpAny_bind (wpAny_typeOf hTs ?_)
  rw [if_pos (by decide)]
  refine wpAny_bind (sliceApplied_rev (n := xs.toArray.size) hs ?_)
  have hno : ¬ ((((xs.toArray.size : Int) - 1) == 0 && (-1 : Int) == 1 && xs.toArray.size == xs.toArray.size) = true) := by
    intro q
    rw [Bool.and_eq_true, Bool.and_eq_true] at q
    exact absurd q.1.2 (by decide)
  show wpAny _ _ (if (((xs.toArray.size : Int) - 1) == 0 && (-1 : Int) == 1 && xs.toArray.size == xs.toArray.size) = true then _ else _) _ _ s
  rw [if_neg hno, List.size_toArray, revPick]
  first
    | exact wpAny_bind (m := Builtin.Tuple.tupleExact _) (wpAny_newObj_type (wpAny_pure ⟨_, rfl, wpAny_pure h⟩) htake)
    | exact wpAny_bind (m := Builtin.Tuple.tupleExact _) (wpAny_newObj_type (wpAny_bind (wpAny_pure (wpAny_pure ⟨_, rfl, wpAny_pure h⟩))) htake)
    | exact wpAny_bind (wpAny_bind (m := Builtin.Tuple.tupleExact _) (wpAny_newObj_type (wpAny_pure (wpAny_pure ⟨_, rfl, wpAny_pure h⟩)) htake))
    | exact wpAny_bind (wpAny_bind (m := Builtin.Tuple.tupleExact _) (wpAny_newObj_type (wpAny_pure ⟨_, rfl, wpAny_pure h⟩) htake))
end
theorem valsRev : ∀ {xs : List V} {us : List Value}, Vals xs us → Vals xs.reverse us.reverse
  | _, _, .nil => .nil
  | _, _, .cons r t => by rw [List.reverse_cons, List.reverse_cons]; exact Vals.append (valsRev t) (.cons r .nil)
def rSl3T (K : PySem.W.Frag) : V → Option Int → Option Int → Option Int → Hp → VK → Prop := fun x lo hi st H Q => ∃ a xs, x = .ref a ∧ SqT K H a xs ∧ lo = none ∧ hi = none ∧ st = some (-1) ∧ ∀ p, H p = none → Q (.ref p) (upd H p (.tup xs.reverse))
theorem sl3_tup : SlR3 X (rSl3T X.K) := by
  intro pins s σ H x v vl vu vt lo hi st sl Q I rx hs pl pu pt h
  obtain ⟨a, xs, rfl, hx, rfl, rfl, rfl, q⟩ := h
  cases rx
  cases pl
  cases pu
  cases pt
  obtain ⟨its, r, ht, hz⟩ := I.tuple hx
  have hlen := r.length
  refine ⟨"tuple", _, PyProof.Rows.slot_tuple_getitem.lookup, ht.typeIs, ?_⟩
  refine getItem_tuple_rev ht hs ?_ (by rw [List.size_toArray] <;> omega)
  refine ⟨.ref s.heap.objs.size, _, I.laid (t' := s.toks) (o := .tup xs.reverse) (fun b ob q => Heap.get?_push_of_some _ q) (Nat.le_refl _) ?_, rfl, q _ (I.hok.fresh (Nat.le_refl _))⟩
  exact ⟨by rw [List.length_reverse]; exact hz, _, valsRev r, IsTup.new _ _⟩
theorem rsRev {K : Fw} {G H : Hp} : ∀ {xs : List V} {ds : List D}, Rs K G H xs ds [] → Rs K G H xs.reverse ds.reverse [] := by
  intro xs ds r
  have h := r.length
  have e1 : xs.reverse = pickAt (List.range xs.length).reverse xs := by
    unfold pickAt
    rw [List.filterMap_reverse]
    congr 1
    have := pick_run xs.toArray 0 xs.length
    simp only [Nat.zero_add, List.getElem?_toArray] at this
    rw [List.map_id'] at this
    rw [this]
    simp
  have e2 : ds.reverse = pickAt (List.range xs.length).reverse ds := by
    unfold pickAt
    rw [List.filterMap_reverse]
    congr 1
    have := pick_run ds.toArray 0 xs.length
    simp only [Nat.zero_add, List.getElem?_toArray] at this
    rw [List.map_id'] at this
    rw [this, h]
    simp
  rw [e1, e2]
  exact rsPick r _
def gSlS (d : D) (lo hi st : Option Int) (A : Sl) : Option D := match see A d with
  | .tup ds => if isFs ds = true ∧ lo = none ∧ hi = none ∧ st = some (-1) then some (.tup ds.reverse) else none
  | s => match lsOf s with
    | some ds => if isFs ds = true ∧ st ≠ some 0 then some (.mu (pickG ds lo hi st)) else none
    | none => none
def fSlS (fe : FE) (fl fh ft : FO) : FE := fun A => (fe A).bind fun d A1 => (fl A1).bind fun l A2 => (fh A2).bind fun h A3 => (ft A3).bind fun t A4 => match gSlS d l h t A4 with
  | some r => .ok r A4
  | none => .stuck
def rSl3 (K : PySem.W.Frag) : V → Option Int → Option Int → Option Int → Hp → VK → Prop := fun x lo hi st H Q => rSl3L K x lo hi st H Q ∨ rSl3T K x lo hi st H Q
theorem sl3_any : SlR3 X (rSl3 X.K) := sl3_list.or sl3_tup
end
section
variable {z : Z} {X : Cx}
theorem sld3 {σ : L2.St} {A : Sl} {ts : Ts} {H : Hp} {v : V} {d d' : D} {lo hi st : Option Int} (h : z.A σ A ((v, d) :: ts) H) (hg : gSlS d lo hi st A = some d') (Q : VK) (q : ∀ w H', z.A σ A ((w, d') :: ts) H' → Q w H') : rSl3 z.K v lo hi st H Q := by
  unfold gSlS at hg
  split at hg
  · rename_i ds hx
    split at hg
    · rename_i hl
      obtain ⟨hl, rfl, rfl, rfl⟩ := hl
      cases hg
      obtain ⟨G, L, gh, r, f⟩ := h.open (fun j z => by rw [z] at hx; cases hx)
      rw [hx] at r
      cases r with | tup q1 s1 =>
      have e1 := s1.isFs hl
      subst e1
      exact .inr ⟨_, _, rfl, .inl (.inl (gh _ _ q1)), rfl, rfl, rfl, fun p hp => q _ _ (f.tup gh (rsRev s1) hp)⟩
    · cases hg
  · split at hg
    · rename_i ds hs
      split at hg
      · rename_i hl
        obtain ⟨hl, h0⟩ := hl
        cases hg
        obtain ⟨G, L, gh, r, f⟩ := h.open (lsOf_al hs)
        obtain ⟨a, xs, M, rfl, k1, s1⟩ := r.list gh hs
        have e1 := s1.isFs hl
        subst e1
        refine .inl ⟨a, xs, rfl, k1, h0, fun p hp => q _ _ (f.lst gh ?_ hp)⟩
        unfold pickG
        rw [s1.length]
        exact rsPick s1 _
      · cases hg
    · cases hg
theorem qe_sliceS {e st : Expr} {lo hi : Option Expr} {fe : FE} {fl fh ft : FO} {pos p2 : Pos} (hK : X.K = z.K) (he : PE X e (tE z fe)) (hl : PO X lo (tO z fl)) (hh : PO X hi (tO z fh)) (ht : PO X (some st) (tO z ft)) : PE X (.Subscript e (.Slice lo hi (some st) p2) pos) (tE z (fSlS fe fl fh ft)) := by
  refine PE.imp (pe_slice3 sl3_any he hl hh ht) fun σ H Q ⟨A, ts, ha, hp⟩ => ⟨A, ts, ha, ?_⟩
  unfold fSlS at hp
  cases ea : fe A with
  | stuck => rw [ea] at hp; exact hp.elim
  | exc c A1 => rw [ea] at hp; exact hp
  | ok d A1 =>
    rw [ea] at hp
    simp only [Ou.bind_ok] at hp
    intro v H1 h1
    refine ⟨A1, (v, d) :: ts, h1, ?_⟩
    cases eb : fl A1 with
    | stuck => rw [eb] at hp; exact hp.elim
    | exc c A2 => rw [eb] at hp; exact fun H' h' => hp H' h'.drop
    | ok l A2 =>
      rw [eb] at hp
      simp only [Ou.bind_ok] at hp
      intro H2 h2
      refine ⟨A2, (v, d) :: ts, h2, ?_⟩
      cases ec : fh A2 with
      | stuck => rw [ec] at hp; exact hp.elim
      | exc c A3 => rw [ec] at hp; exact fun H' h' => hp H' h'.drop
      | ok hh A3 =>
        rw [ec] at hp
        simp only [Ou.bind_ok] at hp
        intro H3 h3
        refine ⟨A3, (v, d) :: ts, h3, ?_⟩
        cases ed : ft A3 with
        | stuck => rw [ed] at hp; exact hp.elim
        | exc c A4 => rw [ed] at hp; exact fun H' h' => hp H' h'.drop
        | ok tt A4 =>
          rw [ed] at hp
          simp only [Ou.bind_ok] at hp
          intro H4 h4
          cases eg : gSlS d l hh tt A4 with
          | none => rw [eg] at hp; exact hp.elim
          | some d' =>
            rw [eg] at hp
            rw [hK]
            exact sld3 h4 eg Q hp
end
end Ab
end
section
namespace Ab
open PySem PySem.Spec PyProof.Rows L2

/-! ### a list inside an owned list, changed through another name -/
section
variable {K : Fw} {B : Bs} {G H : Hp} {σ : L2.St} {A : Sl} {ts : Ts}
theorem Rs.pick : ∀ {vs : List V} {ds : List D} {L : List Addr} {j : Nat} {es : List D}, Rs K G H vs ds L → ds[j]? = some (.mu es) → ∃ p ws Le N, vs[j]? = some (.ref p) ∧ H p = some (.lst ws) ∧ G p = none ∧ Rs K G H ws es Le ∧ L.Perm ((p :: Le) ++ N) ∧
    (∀ H' e' L', R K G H' (.ref p) e' L' → (∀ a ∈ N, H' a = H a ∧ G a = none) → ∃ M, Rs K G H' vs (ds.set j e') M ∧ M.Perm (L' ++ N))
  | _, _, _, _, _, .nil, e => by simp at e
  | _, _, _, 0, es, .cons (L := La) (L' := Lb) r t, e => by
    simp at e
    subst e
    cases r with
    | mu q gp rs => exact ⟨_, _, _, Lb, rfl, q, gp, rs, .refl _, fun H' e' L' r' h => ⟨L' ++ Lb, .cons r' (t.mono (fun _ _ e => e) h), .refl _⟩⟩
  | _, _, _, j + 1, es, .cons (L := La) (L' := Lb) r t, e => by
    obtain ⟨p, ws, Le, N, h1, h2, h3, h4, h5, h6⟩ := Rs.pick (j := j) t (by simpa using e)
    refine ⟨p, ws, Le, La ++ N, by simpa using h1, h2, h3, h4, ?_, fun H' e' L' r' h => ?_⟩
    · refine (List.Perm.append_left _ h5).trans ?_
      rw [← List.append_assoc, ← List.append_assoc]
      exact List.Perm.append_right _ List.perm_append_comm
    · obtain ⟨M, m1, m2⟩ := h6 H' e' L' r' fun a ha => h a (List.mem_append_right _ ha)
      refine ⟨La ++ M, .cons (r.mono (fun _ _ e => e) fun a ha => h a (List.mem_append_left _ ha)) m1, ?_⟩
      refine (List.Perm.append_left _ m2).trans ?_
      rw [← List.append_assoc, ← List.append_assoc]
      exact List.Perm.append_right _ List.perm_append_comm
theorem Abs.nest {v : V} {ds es : List D} {j : Nat} (h : Abs K B σ A ((v, .mu ds) :: ts) H) (hj : ds[j]? = some (.mu es)) (he : isFs es = true) : ∃ q vs p ws G, v = .ref q ∧ H q = some (.lst vs) ∧ vs.length = ds.length ∧ vs[j]? = some (.ref p) ∧ H p = some (.lst ws) ∧ Rs K G H ws es [] ∧
    ∀ (y : V) (e' : D) (u : Nat), (∀ G H, R K G H y e' []) → Abs K B σ A ((v, .mu (ds.set j (.mu (es.set u e')))) :: ts) (upd H p (.lst (ws.set u y))) := by
  obtain ⟨G, L1, L2, gd, tm, sl, nd, ow⟩ := h
  cases tm with
  | cons r2 t =>
    rename_i Lp Lt
    cases r2 with
    | mu hq gp rs =>
      rename_i q vs L
      obtain ⟨p, ws, Le, N, h1, h2, h3, h4, h5, h6⟩ := rs.pick hj
      have e0 := h4.isFs he
      subst e0
      refine ⟨q, vs, p, ws, G, rfl, hq, rs.length, h1, h2, h4, fun y e' u hr => ?_⟩
      have pm : L.Perm (p :: N) := by simpa using h5
      have pp : (((q :: L) ++ Lt) ++ L2).Perm (((q :: p :: N) ++ Lt) ++ L2) := List.Perm.append_right _ (List.Perm.append_right _ (List.Perm.cons _ pm))
      have nd2 := nodup_perm pp nd
      have ow2 : ∀ a ∈ ((q :: p :: N) ++ Lt) ++ L2, Own B a := fun a ha => ow a (pp.mem_iff.mpr ha)
      have qn : q ∉ (p :: N ++ Lt) ++ L2 := (List.nodup_cons.mp nd2).1
      have pn : p ∉ (N ++ Lt) ++ L2 := (List.nodup_cons.mp (List.nodup_cons.mp nd2).2).1
      have qp : q ≠ p := fun z => qn (by rw [z]; simp)
      have old : ∀ a ∈ (N ++ Lt) ++ L2, G a = none := fun a ha => by
        rcases List.mem_append.mp ha with m | m
        · rcases List.mem_append.mp m with m | m
          · exact (rs.own a (pm.mem_iff.mpr (List.mem_cons_of_mem _ m))).1
          · exact (t.own a m).1
        · exact (sl.own a m).1
      have keep : ∀ a ∈ (N ++ Lt) ++ L2, upd H p (.lst (ws.set u y)) a = H a ∧ G a = none := fun a ha => ⟨upd_ne (fun z => pn (by rw [← z]; exact ha)), old a ha⟩
      have wr : Rs K G (upd H p (.lst (ws.set u y))) (ws.set u y) (es.set u e') [] := by
        have h7 : Rs K G (upd H p (.lst (ws.set u y))) ws es [] := h4.mono (fun _ _ e => e) fun a ha => nomatch ha
        by_cases hu : u < es.length
        · obtain ⟨M, N', m1, m2, m3⟩ := Rs.setAt (j := u) h7 (hr G _) hu
          have n0 := List.sublist_nil.mp m3
          subst n0
          have m0 : M = [] := by simpa using m2
          subst m0
          exact m1
        · have e1 : ws.set u y = ws := List.set_eq_of_length_le (by rw [h4.length]; omega)
          have e2 : es.set u e' = es := List.set_eq_of_length_le (by omega)
          rw [e1] at h7 ⊢
          rw [e2]
          exact h7
      obtain ⟨M, m1, m2⟩ := h6 (upd H p (.lst (ws.set u y))) (.mu (es.set u e')) [p] (.mu upd_same h3 wr) fun a ha => keep a (by simp [ha])
      have ownp : Own B p := ow2 p (by simp)
      have pq : (((q :: M) ++ Lt) ++ L2).Perm (((q :: p :: N) ++ Lt) ++ L2) := List.Perm.append_right _ (List.Perm.append_right _ (List.Perm.cons _ (by simpa using m2)))
      refine ⟨G, (q :: M) ++ Lt, L2, ⟨fun a o h => ?_, gd.bg, fun a o hx h => ?_, gd.sep, fun a ha => ?_⟩, .cons (.mu ((upd_ne qp).trans hq) gp m1) (t.mono (fun _ _ e => e) fun a ha => keep a (by simp [ha])), sl.mono (fun _ _ e => e) fun a ha => keep a (by simp [ha]), nodup_perm pq.symm nd2, fun a ha => ow2 a (pq.mem_iff.mp ha)⟩
      · have : a ≠ p := fun z => by rw [z, h3] at h; cases h
        rw [upd_ne this]; exact gd.gh a o h
      · have : a ≠ p := fun z => by
          subst z
          rcases ownp with n | n
          · rw [n] at h; cases h
          · exact hx n
        rw [upd_ne this]; exact gd.bh a o hx h
      · by_cases z : a = p
        · rw [z, upd_same]; exact fun z => nomatch z
        · rw [upd_ne z]; exact gd.alive a ha
/-- a slot of which nothing is told may hold anything -/
theorem Abs.anySlot {i : Nat} {o : Option V} (h : Abs K B σ A ts H) (e : A[i]? = some none) (c : Cl ts) : Abs K B (σ.set i o) A ts H := by
  obtain ⟨G, L1, L2, gd, tm, sl, nd, ow⟩ := h
  exact ⟨G, L1, L2, gd, tm.any c, sl.any (.inl e), nd, ow⟩
theorem Abs.litInt {k : Int} (h : Abs K B σ A ts H) : Abs K B σ A ((.int k, .int k) :: ts) H := by
  obtain ⟨G, L1, L2, gd, tm, sl, nd, ow⟩ := h
  exact ⟨G, [] ++ L1, L2, gd, .cons (.int k) tm, sl, nd, ow⟩
theorem Abs.lens (h : Abs K B σ A ts H) : σ.length = A.length := by
  obtain ⟨G, L1, L2, gd, tm, sl, nd, ow⟩ := h
  exact sl.len
end
/-- b = xs[e]; a = m // c % len(ls); b[a] = 1 - b[a] -/
def fBag (i b a n l : Nat) (c : Int) (fe1 : FE) : FS := fun A => match slotL i A with
  | none => .stuck
  | some _ => (fe1 A).bind fun k A1 => match k, slotL i A1, A1[n]?, A1[l]? with
    | .int k, some ds, some (some (.int m)), some (some (.lst ls)) => match ixN ds.length k with
      | some j => match ds[j]? with
        | some (.mu es) => if isFs es = true ∧ cDiv m c = true ∧ 0 < ls.length ∧ b < A1.length ∧ a < A1.length then match ixN es.length (m / c % (ls.length : Int)) with
            | some u => match es[u]? with
              | some (.int w) => .ok .next (((A1.set i (some (.mu (ds.set j (.mu (es.set u (.int (1 - w)))))))).set b none).set a (some (.int (m / c % (ls.length : Int)))))
              | _ => .stuck
            | none => .stuck
          else .stuck
        | _ => .stuck
      | none => .stuck
    | _, _, _, _ => .stuck
section
variable {z : Z} {X : Cx} {fe : FE}
def rLenX (K : PySem.W.Frag) : List V → Hp → VK → Prop := fun xs H Q => ∃ x n, xs = [x] ∧ LenV K x H n ∧ Q (.int n) H
theorem bag_go {i b a n l : Nat} {c : Int} {D : Ends} {σ : L2.St} {H : Hp} (hd : n ≠ b ∧ l ≠ b ∧ a ≠ b ∧ i ≠ b ∧ i ≠ a) (h : tS z (fBag i b a n l c fe) D σ H) :
    tSeq (tAsg (tOp (rIxL z.K) (tVar i) (tE z fe)) (gName b)) (tSeq (tAsg (tOp (rI (fun _ j => 0 < j) fun i j => .int (i % j)) (tOp (rI CDivW fun i j => .int (i / j)) (tVar n) (L2.tC (.int c))) (tCB (rLenX z.K) (L2.tCons (tVar l) L2.tNil))) (gName a))
      (tAsg (tOp (rI0 fun i j => .int (i - j)) (L2.tC (.int 1)) (tOp (rIxL z.K) (tVar b) (tVar a))) (gSub (tVar b) (tVar a) rSetL))) D σ H := by
  obtain ⟨A, ts, hA, cl, hp⟩ := h
  unfold fBag at hp
  split at hp
  · exact (pS_stuck hp).elim
  · rename_i ds0 e0
    obtain ⟨p0, xs0, ev, hp0, _, h1⟩ := hA.slotAl (slotL_get e0)
    refine ⟨.ref p0, ev, A, (.ref p0, .al i) :: ts, h1, ?_⟩
    cases ea : fe A with
    | stuck => rw [ea] at hp; exact (pS_stuck hp).elim
    | exc c A1 => rw [ea] at hp; exact fun H' h' => hp σ H' h'.drop
    | ok k A1 =>
      rw [ea] at hp
      simp only [Ou.bind_ok] at hp
      intro y H1 h2
      split at hp
      · rename_i k ds m ls es_ en el
        split at hp
        · rename_i j ej
          split at hp
          · rename_i es ed
            split at hp
            · rename_i hc
              obtain ⟨he, hdv, hls, hb, ha⟩ := hc
              split at hp
              · rename_i u eu
                split at hp
                · rename_i w ew
                  have ey := h2.int
                  subst ey
                  have h3 := h2.drop
                  have hA1 := h3.drop
                  have h4 := h3.move (slotL_get es_)
                  obtain ⟨q, vs, p, ws, G, eq, hq, hl, hv, hw, rws, fin⟩ := h4.nest ed he
                  cases eq
                  obtain ⟨x, Li, hx, rx, _⟩ := rws.getD ew
                  cases rx
                  obtain ⟨vn, en1, h5⟩ := hA1.var en
                  rw [if_pos (by simp [isF])] at h5
                  have e5 := h5.int
                  subst e5
                  obtain ⟨vl, el1, h6⟩ := hA1.var el
                  rw [if_pos (by simp [isF])] at h6
                  obtain ⟨G6, L6, g6, r6, _⟩ := h6.open (d := .lst ls) (fun j q => nomatch q)
                  have hsl := hA1.lens
                  obtain ⟨tl, xl, _, rfl, hxl, rxl⟩ := R.list g6 r6 rfl
                  unfold cDiv at hdv
                  rw [Bool.and_eq_true, decide_eq_true_iff, decide_eq_true_iff] at hdv
                  refine ⟨p0, vs, k, .ref p, rfl, rfl, .inl (.inl hq), ?_, ?_⟩
                  · unfold atI
                    rw [hl, ej]
                    exact hv
                  refine ⟨.int m, ?_, m, c, rfl, rfl, wide_div hdv.1 hdv.2 (by decide) (by decide), .ref tl, ?_, .ref tl, ls.length, rfl, ?_, m / c, ls.length, rfl, rfl, by omega, ?_⟩
                  · rw [List.getElem?_set_ne (Ne.symm hd.1)]; exact en1
                  · rw [List.getElem?_set_ne (Ne.symm hd.2.1)]; exact el1
                  · exact .inl ⟨xl, hxl, rxl.length.symm⟩
                  have gb : (List.set (List.set σ b (some (V.ref p))) a (some (V.int (m / c % (ls.length : Int)))))[b]? = some (some (.ref p)) := by
                    rw [List.getElem?_set_ne hd.2.2.1, List.getElem?_set_self (by omega)]
                  have ga : (List.set (List.set σ b (some (V.ref p))) a (some (V.int (m / c % (ls.length : Int)))))[a]? = some (some (.int (m / c % (ls.length : Int)))) := by
                    rw [List.getElem?_set_self (by rw [List.length_set]; omega)]
                  have ewl : ixN ws.length (m / c % (ls.length : Int)) = some u := by rw [rws.length]; exact eu
                  refine ⟨.ref p, gb, .int _, ga, p, ws, _, .int w, rfl, rfl, .inl (.inl hw), ?_, 1, w, rfl, rfl, .ref p, gb, .int _, ga, p, ws, _, u, rfl, rfl, hw, ewl, ?_⟩
                  · unfold atI
                    rw [ewl]
                    exact hx
                  have h7 := fin (.int (1 - w)) (.int (1 - w)) u fun _ _ => .int _
                  have h8 := h7.put (fun j q => nomatch q) (set_none_get (slotL_get es_)) ev
                  rw [List.set_set] at h8
                  have h9 := (h8.forget (i := b)).anySlot (i := b) (o := some (.ref p)) (by simp [hb]) cl
                  have h10 := (h9.litInt (k := m / c % (ls.length : Int))).set (i := a) (fun j q => nomatch q) cl
                  exact hp _ _ h10
                · exact (pS_stuck hp).elim
              · exact (pS_stuck hp).elim
            · exact (pS_stuck hp).elim
          · exact (pS_stuck hp).elim
        · exact (pS_stuck hp).elim
      · exact (pS_stuck hp).elim
theorem qs_bag {i b a n l : Nat} {c : Int} {s1 s2 s3 : Stmt} (hK : X.K = z.K) (hd : n ≠ b ∧ l ≠ b ∧ a ≠ b ∧ i ≠ b ∧ i ≠ a) (h1 : PS X s1 (tAsg (tOp (rIxL X.K) (tVar i) (tE z fe)) (gName b)))
    (h2 : PS X s2 (tAsg (tOp (rI (fun _ j => 0 < j) fun i j => .int (i % j)) (tOp (rI CDivW fun i j => .int (i / j)) (tVar n) (L2.tC (.int c))) (tCB (rLenX X.K) (L2.tCons (tVar l) L2.tNil))) (gName a)))
    (h3 : PS X s3 (tAsg (tOp (rI0 fun i j => .int (i - j)) (L2.tC (.int 1)) (tOp (rIxL X.K) (tVar b) (tVar a))) (gSub (tVar b) (tVar a) rSetL))) : PSs X [s1, s2, s3] (tS z (fBag i b a n l c fe)) :=
  PSs.imp (pss_cons h1 (pss_cons h2 (pss_one h3))) fun D σ H h => by rw [hK]; exact bag_go hd h
end
end Ab
end
section
/-! plain reasoning over told values: no program in sight -/
namespace Ab
open PySem L2

/-! ### steps -/
section
variable {A A1 A2 : Sl} {f g : FS} {fe fa fb : FE} {ft : FT} {i : Nat} {d e : D}
theorem seq_next (h : f A = .ok .next A1) : fSeq f g A = g A1 := by unfold fSeq; rw [h]; rfl
theorem seq_n {o : Ou Fl} (h : f A = .ok .next A1) (k : g A1 = o) : fSeq f g A = o := (seq_next h).trans k
theorem seq_ret {v : D} (h : f A = .ok (.ret v) A1) : fSeq f g A = .ok (.ret v) A1 := by unfold fSeq; rw [h]; rfl
theorem seq_cont (h : f A = .ok .cont A1) : fSeq f g A = .ok .cont A1 := by unfold fSeq; rw [h]; rfl
theorem seq_exc {c : Str} (h : f A = .exc c A1) : fSeq f g A = .exc c A1 := by unfold fSeq; rw [h]; rfl
theorem fif_t (h : ft A = .ok true A1) : fIf ft f g A = f A1 := by unfold fIf; rw [h]; rfl
theorem fif_f (h : ft A = .ok false A1) : fIf ft f g A = g A1 := by unfold fIf; rw [h]; rfl
end
theorem see_isF {A : Sl} {d : D} (h : isF d = true) : see A d = d := by
  cases d <;> first | rfl | (simp [isF] at h)
/-! ### multiplication's bounds -/
theorem cMul_l {a b : Int} (h : -18446744073709551616 < a ∧ a < 18446744073709551616) : cMul a b = true := by
  unfold cMul
  rw [Bool.or_eq_true, decide_eq_true_iff]
  left
  have : (2 : Nat) ^ 64 = 18446744073709551616 := by decide
  omega
theorem cMul_r {a b : Int} (h : -18446744073709551616 < b ∧ b < 18446744073709551616) : cMul a b = true := by
  unfold cMul
  rw [Bool.or_eq_true, decide_eq_true_iff, decide_eq_true_iff]
  right
  have : (2 : Nat) ^ 64 = 18446744073709551616 := by decide
  omega
/-! ### loops -/
theorem forL_ind {t : Tg} {fb : FS} (I : Nat → Sl → Prop) : ∀ (xs : List D) (k : Nat) (A : Sl), I k A → (∀ j d A, xs[j]? = some d → I (k + j) A → ∃ A1 A2, t.set d A = some A1 ∧ (fb A1 = .ok .next A2 ∨ fb A1 = .ok .cont A2) ∧ I (k + j + 1) A2) →
    ∃ A', forL t fb xs A = .ok .next A' ∧ I (k + xs.length) A'
  | [], k, A, h0, _ => ⟨A, rfl, h0⟩
  | x :: xs, k, A, h0, hs => by
    obtain ⟨A1, A2, h1, h2, h3⟩ := hs 0 x A rfl h0
    obtain ⟨A', h4, h5⟩ := forL_ind I xs (k + 1) A2 h3 fun j d A e h => by
      have := hs (j + 1) d A (by simpa using e) (by rw [show k + (j + 1) = k + 1 + j by omega]; exact h)
      rw [show k + (j + 1) + 1 = k + 1 + j + 1 by omega] at this
      exact this
    refine ⟨A', ?_, by rw [List.length_cons, show k + (xs.length + 1) = k + 1 + xs.length by omega]; exact h5⟩
    unfold forL
    simp only [h1]
    rcases h2 with h2 | h2 <;> simp only [h2] <;> exact h4
/-- a for whose turns all go on -/
theorem for_ind {fi : FI} {t : Tg} {fb : FS} {A A0 : Sl} {xs : List D} (I : Nat → Sl → Prop) (hi : fi A = .ok xs A0) (h0 : I 0 A0) (hs : ∀ j d A, xs[j]? = some d → I j A → ∃ A1 A2, t.set d A = some A1 ∧ (fb A1 = .ok .next A2 ∨ fb A1 = .ok .cont A2) ∧ I (j + 1) A2) :
    ∃ A', fFor fi t fb A = .ok .next A' ∧ I xs.length A' := by
  obtain ⟨A', h1, h2⟩ := forL_ind (t := t) (fb := fb) I xs 0 A0 h0 fun j d A e h => by
    rw [Nat.zero_add] at h ⊢
    exact hs j d A e h
  refine ⟨A', ?_, by simpa using h2⟩
  unfold fFor
  rw [hi]
  exact h1
/-- a comprehension whose turns are all plain -/
theorem compL_ok {t : Tg} {ft : FT} {fe : FE} {A : Sl} (p : D → Bool) (g : D → D) : ∀ (ds acc : List D), acc.length + ds.length ≤ sizeLine → (∀ d ∈ ds, ∃ A1, t.set d A = some A1 ∧ ft A1 = .ok (p d) A1 ∧ (p d = true → fe A1 = .ok (g d) A1 ∧ ∀ i, g d ≠ .al i) ∧ wipeA A1 t.own = A) →
    compL t ft fe ds acc A = .ok (acc ++ (ds.filter p).map g) A
  | [], acc, _, _ => by simp [compL]
  | d :: ds, acc, hl, h => by
    obtain ⟨A1, h1, h2, h3, h4⟩ := h d List.mem_cons_self
    have ih := fun acc' h' => compL_ok p g ds acc' h' (fun d' m => h d' (List.mem_cons_of_mem _ m))
    rw [List.length_cons] at hl
    unfold compL
    rw [h1]
    simp only [h2]
    cases hp : p d with
    | false =>
      simp only [h4]
      rw [ih acc (by omega), List.filter_cons_of_neg (by simp [hp])]
    | true =>
      obtain ⟨h5, h6⟩ := h3 hp
      have ec : closeD (g d) A1 = some (g d, A1) := by
        unfold closeD
        cases hg : g d <;> first | rfl | exact absurd hg (h6 _)
      simp only [h5, ec, h4]
      rw [if_pos (by omega), ih _ (by simp; omega), List.filter_cons_of_pos hp, List.map_cons, List.append_assoc]
      rfl
theorem comp_ok {fi : FI} {t : Tg} {ft : FT} {fe : FE} {A A0 : Sl} {xs : List D} (p : D → Bool) (g : D → D) (hi : fi A = .ok xs A0) (hl : xs.length ≤ sizeLine) (h : ∀ d ∈ xs, ∃ A1, t.set d (wipeA A0 t.own) = some A1 ∧ ft A1 = .ok (p d) A1 ∧ (p d = true → fe A1 = .ok (g d) A1 ∧ ∀ i, g d ≠ .al i) ∧ wipeA A1 t.own = wipeA A0 t.own) :
    fComp fi t ft fe A = .ok (.mu ((xs.filter p).map g)) (wipeA (wipeA A0 t.own) t.own) := by
  unfold fComp
  rw [hi]
  simp only [Ou.bind_ok]
  rw [compL_ok p g xs [] (by simpa using hl) h]
  simp
/-! ### evaluation, rule by rule -/
mutual
theorem fz_isF : ∀ {d : D}, isF d = true → fz d = d
  | .tup ds, h => by rw [isF] at h; rw [fz, fzs_isFs h]
  | .non, _ => by rw [fz]
  | .bl _, _ => by rw [fz]
  | .int _, _ => by rw [fz]
  | .str _, _ => by rw [fz]
  | .ty _, _ => by rw [fz]
  | .lst _, _ => by rw [fz]
  | .fro _, _ => by rw [fz]
  | .mu _, h => by simp [isF] at h
  | .fdi .., _ => by rw [fz]
  | .mdi .., h => by simp [isF] at h
  | .al _, h => by simp [isF] at h
  | .exc _, h => by simp [isF] at h
  | .obj .., _ => by rw [fz]
theorem fzs_isFs : ∀ {ds : List D}, isFs ds = true → fzs ds = ds
  | [], _ => by rw [fzs]
  | d :: ds, h => by
    rw [isFs, Bool.and_eq_true] at h
    rw [fzs, fz_isF h.1, fzs_isFs h.2]
end
theorem isF_al {d : D} (h : isF d = true) : ∀ i, d ≠ .al i := fun i e => by rw [e] at h; simp [isF] at h
theorem closeD_isF {d : D} {A : Sl} (h : isF d = true) : closeD d A = some (d, A) := by
  unfold closeD
  cases d <;> first | rfl | (simp [isF] at h)
theorem closeL_isFs : ∀ {ds : List D} {A : Sl}, isFs ds = true → closeL ds A = some (ds, A)
  | [], _, _ => rfl
  | d :: ds, A, h => by
    rw [isFs, Bool.and_eq_true] at h
    unfold closeL
    rw [closeL_isFs h.2]
    cases d <;> first | rfl | (simp [isF] at h)
section
variable {A A1 A2 A3 : Sl} {f g : FS} {fe fa fb : FE} {ft fu : FT} {fl : FA} {i j : Nat} {d e r : D} {ds es : List D} {F : List D → Ro}
theorem ev_C : fC d A = .ok d A := rfl
theorem ev_var (h : A[i]? = some (some d)) (hf : isF d = true) : fVar i A = .ok d A := by unfold fVar; rw [h]; simp only [hf, if_true]
theorem ev_al (h : A[i]? = some (some d)) (hf : isF d = false) : fVar i A = .ok (.al i) A := by unfold fVar; rw [h]; simp [hf]
theorem ev_bin {g : D → D → Sl → Option D} (h1 : fa A = .ok d A1) (h2 : fb A1 = .ok e A2) (h3 : g d e A2 = some r) : fBin g fa fb A = .ok r A2 := by
  unfold fBin; rw [h1]; simp only [Ou.bind_ok]; rw [h2]; simp only [Ou.bind_ok]; rw [h3]
theorem ev_un {g : D → Sl → Option D} (h1 : fa A = .ok d A1) (h3 : g d A1 = some r) : fUn g fa A = .ok r A1 := by
  unfold fUn; rw [h1]; simp only [Ou.bind_ok]; rw [h3]
theorem ev_nil : fNil A = .ok [] A := rfl
theorem ev_cons (h1 : fe A = .ok d A1) (h2 : fl A1 = .ok ds A2) : fCons fe fl A = .ok (d :: ds) A2 := by
  unfold fCons; rw [h1]; simp only [Ou.bind_ok]; rw [h2]; rfl
theorem ev_tup (h1 : fl A = .ok ds A1) (h2 : isFs ds = true) (h3 : ds.length ≤ sizeLine) : fTup fl A = .ok (.tup ds) A1 := by
  unfold fTup; rw [h1]; simp only [Ou.bind_ok]; rw [closeL_isFs h2]; simp only [h3, if_true]
theorem ev_lst (h1 : fl A = .ok ds A1) (h2 : isFs ds = true) (h3 : ds.length ≤ sizeLine) : fLst fl A = .ok (.mu ds) A1 := by
  unfold fLst; rw [h1]; simp only [Ou.bind_ok]; rw [closeL_isFs h2]; simp only [h3, if_true]
theorem ev_cb {g : List D → Sl → Option D} (h1 : fl A = .ok ds A1) (h2 : g ds A1 = some r) : fCB g fl A = .ok r A1 := by
  unfold fCB; rw [h1]; simp only [Ou.bind_ok]; rw [h2]
theorem ev_call (h1 : fl A = .ok ds A1) (h2 : isFs ds = true) (h3 : F ds = .ok r) : fCall F fl A = .ok r A1 := by
  unfold fCall; rw [h1]; simp only [Ou.bind_ok]; rw [closeL_isFs h2]; simp only [fzs_isFs h2, h3]; split <;> rfl
/-- .. where an argument is what a slot owns: the answer is a scalar -/
theorem ev_callS {es : List D} (h1 : fl A = .ok ds A1) (h2 : closeL ds A1 = some (es, A2)) (h3 : F (fzs es) = .ok r) (h4 : isScal r = true) : fCall F fl A = .ok r A1 := by
  unfold fCall; rw [h1]; simp only [Ou.bind_ok]; rw [h2]; simp only [h3, h4, if_true]
theorem ev_mtl {g : D → List D → Sl → Option D} (h1 : fe A = .ok d A1) (h0 : lsOf (see A1 d) = some es) (h2 : fl A1 = .ok ds A2) (h3 : g d ds A2 = some r) : fMtL g fe fl A = .ok r A2 := by
  unfold fMtL; rw [h1]; simp only [Ou.bind_ok]; rw [h0]; simp only [h2, Ou.bind_ok]; rw [h3]
theorem ev_noPart : fNoPart A = .ok none A := rfl
theorem ev_part {n : Int} (h : fe A = .ok (.int n) A1) : fPart fe A = .ok (some n) A1 := by unfold fPart; rw [h]; rfl
theorem ev_sl {fl fh : FO} {l h : Option Int} (h1 : fe A = .ok d A1) (h2 : fl A1 = .ok l A2) (h3 : fh A2 = .ok h A3) (h4 : gSl d l h A3 = some r) : fSl fe fl fh A = .ok r A3 := by
  unfold fSl; rw [h1]; simp only [Ou.bind_ok]; rw [h2]; simp only [Ou.bind_ok]; rw [h3]; simp only [Ou.bind_ok]; rw [h4]
theorem ev_B {b : Bool} (h : fe A = .ok (.bl b) A1) : fB fe A = .ok b A1 := by unfold fB; rw [h]; rfl
theorem ev_not {b : Bool} (h : ft A = .ok b A1) : fNot ft A = .ok (!b) A1 := by unfold fNot; rw [h]; rfl
theorem ev_and {a b : Bool} (h : ft A = .ok a A1) (k : a = true → fu A1 = .ok b A1) (k2 : a = false → b = false) : fAnd ft fu A = .ok b A1 := by
  unfold fAnd; rw [h]; simp only [Ou.bind_ok]
  cases a with
  | true => rw [if_pos rfl]; exact k rfl
  | false => rw [if_neg Bool.false_ne_true, k2 rfl]
theorem ev_or {a b : Bool} (h : ft A = .ok a A1) (k : a = false → fu A1 = .ok b A1) (k2 : a = true → b = true) : fOr ft fu A = .ok b A1 := by
  unfold fOr; rw [h]; simp only [Ou.bind_ok]
  cases a with
  | true => rw [if_pos rfl, k2 rfl]
  | false => rw [if_neg Bool.false_ne_true]; exact k rfl
/-- and, or whose parts change nothing: the answers -/
theorem ev_and2 {a b : Bool} (h : ft A = .ok a A1) (k : a = true → fu A1 = .ok b A1) : fAnd ft fu A = .ok (a && b) A1 := by
  cases a with
  | true => exact ev_and h k (fun z => nomatch z)
  | false => exact ev_and h (fun z => nomatch z) (fun _ => rfl)
theorem ev_or2 {a b : Bool} (h : ft A = .ok a A1) (k : a = false → fu A1 = .ok b A1) : fOr ft fu A = .ok (a || b) A1 := by
  cases a with
  | true => exact ev_or h (fun z => nomatch z) (fun _ => rfl)
  | false => exact ev_or h k (fun z => nomatch z)
theorem ev_andV {a b : Bool} (h : fa A = .ok (.bl a) A1) (k : a = true → fb A1 = .ok (.bl b) A1) : fAndV fa fb A = .ok (.bl (a && b)) A1 := by
  unfold fAndV; rw [h]; simp only [Ou.bind_ok]
  cases a with
  | true => rw [if_pos rfl]; exact k rfl
  | false => rw [if_neg Bool.false_ne_true]; rfl
theorem ev_orV {a b : Bool} (h : fa A = .ok (.bl a) A1) (k : a = false → fb A1 = .ok (.bl b) A1) : fOrV fa fb A = .ok (.bl (a || b)) A1 := by
  unfold fOrV; rw [h]; simp only [Ou.bind_ok]
  cases a with
  | true => rw [if_pos rfl]; rfl
  | false => rw [if_neg Bool.false_ne_true]; exact k rfl
theorem ev_notV {a : Bool} (h : fa A = .ok (.bl a) A1) : fNotV fa A = .ok (.bl (!a)) A1 := by unfold fNotV; rw [h]; rfl
/-! statements -/
theorem ev_asgF (h : fe A = .ok d A1) (hf : isF d = true) : fAsgF i fe A = .ok .next (A1.set i (some d)) := by
  unfold fAsgF; rw [h]; simp only [Ou.bind_ok]; rw [closeD_isF hf]; simp only [fz_isF hf]
theorem ev_asgF_mu (h : fe A = .ok (.mu ds) A1) (hf : isFs ds = true) : fAsgF i fe A = .ok .next (A1.set i (some (.lst ds))) := by
  unfold fAsgF; rw [h]; simp only [Ou.bind_ok, closeD, fz, fzs_isFs hf]
theorem ev_asgF_al (h : A[j]? = some (some (.mu ds))) (hf : isFs ds = true) : fAsgF i (fVar j) A = .ok .next ((A.set j (some (.lst ds))).set i (some (.lst ds))) := by
  unfold fAsgF
  rw [ev_al h (by simp [isF])]
  simp only [Ou.bind_ok, closeD, h, fz, fzs_isFs hf]
theorem ev_asg (h : fe A = .ok d A1) (hd : ∀ j, d ≠ .al j) : fAsg i fe A = .ok .next (A1.set i (some d)) := by
  unfold fAsg; rw [h]
  cases d <;> first | rfl | exact absurd rfl (hd _)
theorem ev_asgM (h : A[j]? = some (some (.mu ds))) : fAsgM i (fVar j) A = .ok .next ((A.set j none).set i (some (.mu ds))) := by
  unfold fAsgM
  rw [ev_al h (by simp [isF])]
  simp only [Ou.bind_ok, h]
theorem ev_drop (h : fe A = .ok d A1) : fDrop fe A = .ok .next A1 := by unfold fDrop; rw [h]; rfl
theorem ev_app (hs : A[i]? = some (some (.mu ds))) (h : fe A = .ok e A) (hf : isF e = true) (hl : ds.length < sizeLine) : fApp i fe A = .ok .non (A.set i (some (.mu (ds ++ [e])))) := by
  have s : slotL i A = some ds := by unfold slotL; rw [hs]
  unfold fApp
  simp only [s, h, Ou.bind_ok, closeD_isF hf, hl, if_true]
theorem ev_ext_mu (hs : A[i]? = some (some (.mu ds))) (h : fe A = .ok (.mu es) A1) (hs1 : A1[i]? = some (some (.mu ds))) (hf : isFs es = true) (hl : ds.length + es.length ≤ sizeLine) : fExt i fe A = .ok .non (A1.set i (some (.mu (ds ++ es)))) := by
  have s : slotL i A = some ds := by unfold slotL; rw [hs]
  have s1 : slotL i A1 = some ds := by unfold slotL; rw [hs1]
  unfold fExt
  simp only [s, h, Ou.bind_ok, closeD, fz, fzs_isFs hf, s1, hl, if_true]
theorem ev_clr (hs : A[i]? = some (some (.mu ds))) : fClr i A = .ok .non (A.set i (some (.mu []))) := by
  have s : slotL i A = some ds := by unfold slotL; rw [hs]
  unfold fClr
  simp only [s]
theorem ev_ret (h : fe A = .ok d A1) (hd : ∀ j, d ≠ .al j) : fRet fe A = .ok (.ret d) A1 := by
  unfold fRet; rw [h]
  cases d <;> first | rfl | exact absurd rfl (hd _)
theorem ev_ret_al (h : A[i]? = some (some (.mu ds))) : fRet (fVar i) A = .ok (.ret (.mu ds)) (A.set i none) := by
  unfold fRet
  rw [ev_al h (by simp [isF])]
  simp only [Ou.bind_ok, h]
theorem if_t {b : Bool} {o : Ou Fl} (h : ft A = .ok b A1) (hb : b = true) (k : f A1 = o) : fIf ft f g A = o := by
  subst hb; rw [fif_t h]; exact k
theorem if_f {b : Bool} {o : Ou Fl} (h : ft A = .ok b A1) (hb : b = false) (k : g A1 = o) : fIf ft f g A = o := by
  subst hb; rw [fif_f h]; exact k
/-! what is walked -/
theorem ev_range {n : Int} (h : fe A = .ok (.int n) A1) (hn : n.natAbs < 4611686018427387904) : fRange fe A = .ok ((List.range n.toNat).map fun i => .int (i : Nat)) A1 := by
  have : (2 : Nat) ^ 62 = 4611686018427387904 := by decide
  unfold fRange; rw [h]; simp only [Ou.bind_ok, this, hn, if_true]
theorem ev_it (h : fe A = .ok d A1) (hf : isF d = true) (hi : iterOf d = some ds) : fIt fe A = .ok ds A1 := by
  unfold fIt; rw [h]; simp only [Ou.bind_ok, closeD_isF hf, fz_isF hf, hi]
theorem ev_it_mu (h : fe A = .ok (.mu ds) A1) (hf : isFs ds = true) : fIt fe A = .ok ds A1 := by
  unfold fIt; rw [h]; simp only [Ou.bind_ok, closeD, fz, fzs_isFs hf, iterOf]
/-! a def -/
theorem def_ret (A0 : Sl) {k n : Nat} {fs : FS} (hA : ds.map some ++ List.replicate (n - ds.length) none = A0) (hk : ds.length = k) (hd : ∀ i, d ≠ .al i) (h : ∃ A', fs A0 = .ok (.ret d) A') : defF k n fs ds = .ok d := by
  obtain ⟨A', h⟩ := h
  unfold defF runF
  rw [if_pos hk, hA, h]
  cases d <;> first | rfl | exact absurd rfl (hd _)
/-! operators -/
theorem gMinus_ok {a b : Int} : gMinus (.int a) (.int b) A = some (.int (a - b)) := rfl
theorem gAdd_ok {a b : Int} : gAdd (.int a) (.int b) A = some (.int (a + b)) := rfl
theorem gMul_l {a b : Int} (h : -18446744073709551616 < a ∧ a < 18446744073709551616) : gMulA (.int a) (.int b) A = some (.int (a * b)) := by unfold gMulA; simp only [cMul_l h, if_true]
theorem gMul_r {a b : Int} (h : -18446744073709551616 < b ∧ b < 18446744073709551616) : gMulA (.int a) (.int b) A = some (.int (a * b)) := by unfold gMulA; simp only [cMul_r h, if_true]
theorem gMod_ok {a b : Int} (h : 0 < b) : gMod (.int a) (.int b) A = some (.int (a % b)) := by unfold gMod g2I cMod; simp [h]
set_option exponentiation.threshold 500 in
theorem gDiv_ok {a b : Int} (h : 0 < b) (h2 : b ≤ 1000000000000000000000000000000000000000000000000000000000000000000000) : gDiv (.int a) (.int b) A = some (.int (a / b)) := by
  have : b.natAbs < 2 ^ 400 := by
    have : (1000000000000000000000000000000000000000000000000000000000000000000000 : Nat) < 2 ^ 400 := by decide
    omega
  unfold gDiv g2I cDiv; simp [h, this]
theorem gPow_ok {a : Int} {b : Nat} (h : b ≤ 1000) (h2 : a.natAbs < 1000000) : gPow (.int a) (.int (b : Nat)) A = some (.int (a ^ b)) := by
  have h3 : a.natAbs < 2 ^ 64 := by omega
  have h4 : ((b : Nat) : Int) ≤ 1000000 := by omega
  unfold gPow g2I cPow
  simp [h3, h4]
theorem gLt_ok {a b : Int} : gLt (.int a) (.int b) A = some (.bl (decide (a < b))) := rfl
theorem gLe_ok {a b : Int} : gLe (.int a) (.int b) A = some (.bl (decide (a ≤ b))) := rfl
theorem gGt_ok {a b : Int} : gGt (.int a) (.int b) A = some (.bl (decide (b < a))) := rfl
theorem gGe_ok {a b : Int} : gGe (.int a) (.int b) A = some (.bl (decide (b ≤ a))) := rfl
theorem eqv_int (a b : Int) : PyData.eqv (.int a) (.int b) = decide (a = b) := by rw [PyData.eqv]; exact Bool.beq_eq_decide_eq a b
theorem okD_int (a : Int) : okD (.int a) = true := by simp [okD, dat, SeqAt.shaped, PyData.canLay0, PyData.depth]
theorem gEq_int {a b : Int} : gEq (.int a) (.int b) A = some (.bl (decide (a = b))) := by
  unfold gEq; simp only [see, okD_int, Bool.and_self, if_true, dat, eqv_int]
theorem gNe_int {a b : Int} : gNe (.int a) (.int b) A = some (.bl (!decide (a = b))) := by
  unfold gNe; simp only [see, okD_int, Bool.and_self, if_true, dat, eqv_int]
end
end Ab
end
section
namespace Ab
open PySem PySem.Spec PyProof.Rows L2

/-! ### zip of a list and a tuple; c: how many turns -/
def ItM (K : PySem.W.Frag) (a b : Addr) (c : Nat) : It :=
  ⟨fun i H => i < c ∧ ∃ (xs ys : List V) (x y : V), (SqL K H a xs ∧ xs[i]? = some x) ∧ SqT K H b ys ∧ ys[i]? = some y,
    fun i H v H' => ∃ T x y, (v = .ref T ∧ H T = none) ∧ H' = upd H T (.tup [x, y]) ∧ (∀ xs, SqL K H a xs → xs[i]? = some x) ∧ (∀ ys, SqT K H b ys → ys[i]? = some y),
    fun i H => c ≤ i ∧ ∃ xs ys : List V, (SqL K H a xs ∧ SqT K H b ys) ∧ min xs.length ys.length = c⟩
def MSt (z TI TO i1 i2 a b : Addr) (c : Nat) (i : Nat) (h : Heap) : Prop := (IsZip h z TI TO .none ∧ IsPair h TI (.ref i1) (.ref i2) ∧ ∃ x y, IsPair h TO x y) ∧ (h.IsListIter i1 a i ∧ h.IsTupleIter i2 b i) ∧ i ≤ c
theorem msep {z TI TO i1 i2 a b : Addr} (D : ZipApart z TI TO i1 i2 a b) : ZipSep2 z TI TO i1 i2 [i1, a] [i2, b] where
  TIz := D.TIz
  TOz := D.TOz
  TITO := D.TITO
  TIi1 := D.TIi1
  mem1 := by simp
  zf1 := by simp [D.i1z.symm, D.l1z.symm]
  Tf1 := by simp [D.TOi1, D.l1TO.symm]
  TIi2 := D.TIi2
  mem2 := by simp
  zf2 := by simp [D.i2z.symm, D.l2z.symm]
  Tf2 := by simp [D.TOi2, D.l2TO.symm]
  sep1_2 := by simp [D.i12, D.l2i1.symm]
  sep2_1 := by simp [D.i12.symm, D.l1i2.symm]
theorem five {z TI TO i1 i2 q : Addr} (h : q ∈ [z, TI, TO, i1, i2]) : q = z ∨ q = TI ∨ q = TO ∨ q = i1 ∨ q = i2 := by simpa using h
theorem turnM {P : Program} {w : World} {K : PySem.W.Frag} {elts : List Expr} {kk : Nat} {tpos : Pos} {a b z TI TO i1 i2 : Addr} {c : Nat} (D : ZipApart z TI TO i1 i2 a b) :
    Turn P w K (.Tuple elts kk tpos) (ItM K a b c) [z, TI, TO, i1, i2] z (MSt z TI TO i1 i2 a b c) where
  mem := List.mem_cons_self
  obj := fun i h st q hq => by
    obtain ⟨⟨m1, m2, x, y, m3⟩, ⟨⟨o1, e1, _, d1⟩, ⟨o2, e2, _, d2⟩⟩, _⟩ := st
    rcases five hq with rfl | rfl | rfl | rfl | rfl
    · exact ⟨_, m1, fun v u => nomatch u⟩
    · exact ⟨_, m2, fun v u => nomatch u⟩
    · exact ⟨_, m3, fun v u => nomatch u⟩
    · exact ⟨o1, e1, fun v u => by rw [d1] at u; cases u⟩
    · exact ⟨o2, e2, fun v u => by rw [d2] at u; cases u⟩
  keep := fun i h h' st k => by
    obtain ⟨⟨m1, m2, x, y, m3⟩, ⟨m4, m5⟩, m6⟩ := st
    exact ⟨⟨k _ (by simp) _ m1, k _ (by simp) _ m2, x, y, k _ (by simp) _ m3⟩, ⟨m4.at fun o => k _ (by simp) o, m5.at fun o => k _ (by simp) o⟩, m6⟩
  item := by
    intro X e1 e2 e3 hcalm i pins s σ H E I hf st hg
    subst e1; subst e2; subst e3
    obtain ⟨⟨m1, m2, x0, y0, m3⟩, ⟨m4, m5⟩, m6⟩ := st
    obtain ⟨hic, xs, ys, x, y, ⟨sx, gx⟩, sy, gy⟩ := hg
    obtain ⟨its, rv, p, _⟩ := I.list sx
    obtain ⟨jts, rw_, p2, _⟩ := I.tuple sy
    obtain ⟨u, hu, ru⟩ := rv.get gx
    obtain ⟨u2, hu2, ru2⟩ := rw_.get gy
    have zl : z < s.heap.objs.size := Heap.lt_size m1
    have hh : X.A.in1.handled = none := I.ok.hd hcalm
    have lt1 : i < its.toArray.size := by rw [List.size_toArray]; exact (List.getElem?_eq_some_iff.mp hu).1
    have lt2 : i < jts.toArray.size := by rw [List.size_toArray]; exact (List.getElem?_eq_some_iff.mp hu2).1
    refine wpAny_pyNext_zipD2_item (msep D) (Draws.list hh i1 a D.l1i1 its.toArray) (Draws.tuple hh i2 b D.l2i2 jts.toArray) m1 m2 m3 ⟨m4, p.isList⟩ ⟨m5, p2⟩ lt1 lt2 fun w1 w2 h' tk y1 y2 z' TO' st1 st2 hT hsz hk => ?_
    have y1' : its[i]? = some w1 := by simpa using y1
    have y2' : jts[i]? = some w2 := by simpa using y2
    obtain rfl : u = w1 := Option.some.inj (hu.symm.trans y1')
    obtain rfl : u2 = w2 := Option.some.inj (hu2.symm.trans y2')
    refine ⟨_, rfl, wpAny_letOwnedTupleGo_zip (s := { s with heap := h', toks := tk }) z' fun h2 z2 sb => ?_⟩
    have T2 : IsPair h2 s.heap.objs.size u u2 := (sb.2 _ (Nat.ne_of_gt zl)).trans hT
    have fr : ∀ q o, q ∉ [z, TI, TO, i1, i2] → s.heap.get? q = some o → h2.get? q = some o := fun q o nq e => by
      simp only [List.mem_cons, List.not_mem_nil, or_false, not_or] at nq
      exact (sb.2 q nq.1).trans (hk q o nq.1 nq.2.2.1 nq.2.2.2.1 nq.2.2.2.2 e)
    have obj : ObjOk X.prog X.w (upd H s.heap.objs.size (.tup [x, y])) h2 s.heap.objs.size (.tup [x, y]) := by
      refine ⟨?_, [u, u2], .cons ru (.cons ru2 .nil), ⟨_, T2, rfl, _, rfl⟩⟩
      show 2 ≤ sizeLine
      decide
    have I2 : Inv X pins σ (upd H s.heap.objs.size (.tup [x, y])) { s with heap := h2, toks := tk } := I.turnedNew fr hf (Nat.le_refl _) obj
    refine ⟨.ref s.heap.objs.size, _, I2, rfl, ⟨_, x, y, ⟨rfl, I.hok.fresh (Nat.le_refl _)⟩, rfl, fun l hl => ?_, fun l hl => ?_⟩, ⟨⟨z2, ?_, u, u2, ?_⟩, ⟨?_, ?_⟩, hic⟩, fun q hq => ?_⟩
    · rw [I.list_inj hl sx]; exact gx
    · rw [I.tuple_inj hl sy]; exact gy
    · exact (sb.2 _ D.TIz).trans (hk _ _ D.TIz D.TITO D.TIi1 D.TIi2 m2)
    · exact (sb.2 _ D.TOz).trans TO'
    · exact st1.1.at fun o e => (sb.2 _ D.i1z).trans e
    · exact st2.1.at fun o e => (sb.2 _ D.i2z).trans e
    · have old : q < s.heap.objs.size := by
        rcases five hq with rfl | rfl | rfl | rfl | rfl
        · exact zl
        · exact Heap.lt_size m2
        · exact Heap.lt_size m3
        · obtain ⟨_, e1, _⟩ := m4; exact Heap.lt_size e1
        · obtain ⟨_, e2, _⟩ := m5; exact Heap.lt_size e2
      rw [upd_ne (Nat.ne_of_lt old)]
      exact (hf q hq).1
  done := by
    intro X e1 e2 e3 hcalm i pins s σ H E I hf st hg
    subst e1; subst e2; subst e3
    obtain ⟨⟨m1, m2, x0, y0, m3⟩, ⟨m4, m5⟩, m6⟩ := st
    obtain ⟨hic, xs, ys, ⟨sx, sy⟩, hmin⟩ := hg
    obtain ⟨its, rv, p, _⟩ := I.list sx
    obtain ⟨jts, rw_, p2, _⟩ := I.tuple sy
    have hh : X.A.in1.handled = none := I.ok.hd hcalm
    have l1 : its.toArray.size = xs.length := by rw [List.size_toArray]; exact rv.length.symm
    have l2 : jts.toArray.size = ys.length := by rw [List.size_toArray]; exact rw_.length.symm
    refine wpAny_pyNext_zipD2_end (msep D) (Draws.list hh i1 a D.l1i1 its.toArray) (Draws.tuple hh i2 b D.l2i2 jts.toArray) m1 m2 m3 ⟨m4, p.isList⟩ ⟨m5, p2⟩ (by omega) (by omega) (by omega) fun h' tk hk => ⟨rfl, I.turnedL (fun q o nq e => ?_) hf⟩
    simp only [List.mem_cons, List.not_mem_nil, or_false, not_or] at nq
    exact hk q o nq.1 nq.2.2.1 nq.2.2.2.1 nq.2.2.2.2 e
  self := fun A i s Q E st h => wpAny_pyIter_zip st.1.1 h
def iZipM (K : PySem.W.Frag) (ta : TA) : TI := fun σ H R => ta σ H fun vs H1 => ∃ a b xs ys, vs = [.ref a, .ref b] ∧ (SqL K H1 a xs ∧ SqT K H1 b ys) ∧ R (ItM K a b (min xs.length ys.length)) H1
theorem pi_zipM {X : Cx} {e e2 : Expr} {ta : TA} {p pos tpos : Pos} {elts : List Expr} {kk : Nat} (hg : Gl X "zip") (hm : X.mg "zip" = none) (ha : PA X [e, e2] ta)
    (hs : starEach [e, e2] X.env = (false, eval e X.env) :: starEach [e2] X.env := by rfl) (hpl : (backTo pos (starEach [e2] X.env)).any (·.1) = false := by rfl) :
    PI X (.Tuple elts kk tpos) (.Call (.Name "zip" p) [e, e2] [] pos) (iZipM X.K ta) := by
  refine ⟨fun pins s σ H R I h => Call_ (ld_blt I hg hm PyProof.Rows.boot_zip (PyProof.Rows.callWith_type1 (thn (ha.run pos pins s σ H _ I h) fun us s1 ⟨vs, H1, I1, r1, q1⟩ => ?_) hs hpl))⟩
  obtain ⟨a, b, xs, ys, rfl, ⟨sx, sy⟩, q⟩ := q1
  obtain ⟨v1, v2, rfl, ra, rb⟩ := vals2 r1
  cases ra
  cases rb
  obtain ⟨its, rv, p1, _⟩ := I1.list sx
  obtain ⟨jts, rw_, p2, _⟩ := I1.tuple sy
  obtain ⟨o2, ho2, _⟩ := id p2
  have la : a < s1.heap.objs.size := p1.lt
  have lb : b < s1.heap.objs.size := Heap.lt_size ho2
  refine zip_begins2 (begins_list a its.toArray) (begins_tuple b jts.toArray) p1.isList p2 fun h' hz hTI hTO g1 g2 hsz hk => wpAny_pyIter_zip hz ?_
  have I2 : Inv X pins σ H1 { s1 with heap := h' } := I1.kept (t' := s1.toks) hk
  refine ⟨s1.heap.objs.size + 4, [s1.heap.objs.size + 4, s1.heap.objs.size + 2, s1.heap.objs.size + 3, s1.heap.objs.size, s1.heap.objs.size + 1], _, _, H1, rfl, I2, turnM (PySem.W.ktu_apart s1.heap.objs.size a b la lb), ⟨⟨hz, hTI, _, _, hTO⟩, ⟨⟨_, g1, rfl, rfl⟩, ⟨_, g2, rfl, rfl⟩⟩, Nat.zero_le _⟩, fun q hq => ?_, q⟩
  have up : s1.heap.objs.size ≤ q := by rcases five hq with rfl | rfl | rfl | rfl | rfl <;> first | exact Nat.le_refl _ | exact Nat.le_add_right _ _
  exact I1.fpOk up (I1.hok.fresh up)
/-- zip(a list that is new, a tuple) -/
def fZip (fa fb : FE) : FI := fun A => (fCons fa (fCons fb fNil) A).bind fun ds A1 => match ds with
  | [.mu xs, .tup ys] => if isFs xs = true ∧ isFs ys = true then .ok (List.zipWith (fun x y => .tup [x, y]) xs ys) A1 else .stuck
  | _ => .stuck
section
variable {z : Z} {X : Cx} {fa fb : FE}
theorem itd_zip {a b : Addr} {xs ys : List D} (hx : isFs xs = true) (hy : isFs ys = true) : ItD z (ItM z.K a b (min xs.length ys.length)) [(.ref a, .lst xs), (.ref b, .tup ys)] (List.zipWith (fun x y => .tup [x, y]) xs ys) := by
  have key : ∀ (σ : L2.St) (A : Sl) (ts : Ts) (H : Hp), z.A σ A ([(.ref a, .lst xs), (.ref b, .tup ys)] ++ ts) H → ∃ G vs us, Same G H ∧ SqL z.K H a vs ∧ SqT z.K H b us ∧ Rs z.K G H vs xs [] ∧ Rs z.K G H us ys [] ∧ Fin z.K z.B σ A ([(.ref a, .lst xs), (.ref b, .tup ys)] ++ ts) H G := by
    intro σ A ts H h
    obtain ⟨G, L1, L2, gd, tm, sl, nd, ow⟩ := id h
    have f : Fin z.K z.B σ A ([(.ref a, .lst xs), (.ref b, .tup ys)] ++ ts) H G := fun w e H' G' L' he g1 g2 g3 r rn rf => step_core gd tm sl nd ow he g1 g2 g3 r rn rf
    have gh := gd.gh
    cases tm with
    | cons r1 t1 =>
      cases r1 with
      | lst q1 s1 =>
        cases t1 with
        | cons r2 t2 =>
          cases r2 with
          | tup q2 s2 =>
            have e2 := s2.isFs hy
            subst e2
            exact ⟨G, _, _, gh, .inl (.inl (gh _ _ q1)), .inl (.inl (gh _ _ q2)), s1, s2, f⟩
  refine ⟨fun σ A ts H i h hi => ?_, fun σ A ts H i x H' e h he hyl => ?_, fun σ A ts H i h hi => ?_⟩
  · obtain ⟨G, vs, us, gh, k1, k2, s1, s2, f⟩ := key σ A ts H h
    rw [List.length_zipWith] at hi
    have l1 := s1.length
    have l2 := s2.length
    have i1 : i < vs.length := by omega
    have i2 : i < us.length := by omega
    exact ⟨hi, vs, us, vs[i], us[i], ⟨k1, List.getElem?_eq_getElem i1⟩, k2, List.getElem?_eq_getElem i2⟩
  · obtain ⟨G, vs, us, gh, k1, k2, s1, s2, f⟩ := key σ A ts H h
    obtain ⟨T, x1, y1, ⟨rfl, hT⟩, rfl, g1, g2⟩ := hyl
    have h1 := g1 vs k1
    have h2 := g2 us k2
    rw [List.getElem?_zipWith] at he
    obtain ⟨d1, _, j1, ra, sa⟩ := s1.get h1
    obtain ⟨d2, _, j2, rb, sb⟩ := s2.get h2
    rw [j1, j2] at he
    obtain rfl : D.tup [d1, d2] = e := Option.some.inj he
    have ea := List.sublist_nil.mp sa
    subst ea
    have eb := List.sublist_nil.mp sb
    subst eb
    exact f.tup gh (.cons (L := []) (L' := []) ra (.cons (L := []) (L' := []) rb .nil)) hT
  · obtain ⟨G, vs, us, gh, k1, k2, s1, s2, f⟩ := key σ A ts H h
    rw [List.length_zipWith] at hi
    refine ⟨hi, vs, us, ⟨k1, k2⟩, ?_⟩
    rw [s1.length, s2.length]
theorem qi_zip {e e2 : Expr} {p pos tpos : Pos} {elts : List Expr} {kk : Nat} (hK : X.K = z.K) (hg : Gl X "zip") (hm : X.mg "zip" = none) (ha : PE X e (tE z fa)) (hb : PE X e2 (tE z fb))
    (hs : starEach [e, e2] X.env = (false, eval e X.env) :: starEach [e2] X.env := by rfl) (hs2 : starEach [e2] X.env = (false, eval e2 X.env) :: starEach [] X.env := by rfl) (hpl : (backTo pos (starEach [e2] X.env)).any (·.1) = false := by rfl) :
    PI X (.Tuple elts kk tpos) (.Call (.Name "zip" p) [e, e2] [] pos) (tI z (fZip fa fb)) := by
  refine ⟨fun pins s σ H R I w => (pi_zipM hg hm (qa_cons ha (qa_cons hb qa_nil hs2) hs) hs hpl).run pins s σ H R I ?_⟩
  obtain ⟨A, ts, hA, hp⟩ := w
  refine ⟨A, ts, hA, ?_⟩
  unfold fZip at hp
  cases ea : fCons fa (fCons fb fNil) A with
  | stuck => rw [ea] at hp; exact (show False from hp).elim
  | exc c A1 => rw [ea] at hp; exact hp
  | ok ds A1 =>
    rw [ea] at hp
    simp only [Ou.bind_ok] at hp
    intro vs H1 hl h1
    split at hp
    · rename_i xs ys
      split at hp
      · rename_i hf
        obtain ⟨hx, hy⟩ := hf
        match vs, hl with
        | [v1, v2], _ =>
          have h2 : z.A σ A1 ((v1, fz (.mu xs)) :: (v2, .tup ys) :: ts) H1 := Abs.fz h1 (fun i q => nomatch q)
          rw [fz, fzs_isFs hx] at h2
          obtain ⟨G, L, L', gh, r1, r2, f⟩ := Abs.open2 h2 (fun j q => nomatch q) (fun j q => nomatch q)
          have r1 : Ab.R z.K G H1 v1 (.lst xs) L := r1
          have r2 : Ab.R z.K G H1 v2 (.tup ys) L' := r2
          cases r1 with
          | lst q1 s1 =>
            cases r2 with
            | tup q2 s2 =>
              refine ⟨_, _, _, _, rfl, ⟨.inl (.inl (gh _ _ q1)), .inl (.inl (gh _ _ q2))⟩, ?_⟩
              rw [s1.length, s2.length, hK]
              exact hp _ [(_, .lst xs), (_, .tup ys)] _ (fun p m j e => by
                rcases List.mem_cons.mp m with rfl | m
                · cases e
                · rw [List.mem_singleton.mp m] at e; cases e) (itd_zip hx hy) h2
      · exact (show False from hp).elim
    · exact (show False from hp).elim
end
end Ab
end
section
namespace Ab
open PySem PySem.Spec PyProof.Rows L2

/-! ### sorted(a list of pairs of ints) -/
def pd (p : Int × Int) : D := .tup [.int p.1, .int p.2]
def prOf : D → Option (Int × Int)
  | .tup [.int a, .int b] => some (a, b)
  | _ => none
def prsOf : List D → Option (List (Int × Int))
  | [] => some []
  | e :: es => match prOf e, prsOf es with
    | some p, some ps => some (p :: ps)
    | _, _ => none
theorem prOf_eq {e : D} {p : Int × Int} (h : prOf e = some p) : e = pd p := by
  unfold prOf at h
  split at h
  · cases h; rfl
  · cases h
theorem prsOf_eq : ∀ {es : List D} {ps : List (Int × Int)}, prsOf es = some ps → es = ps.map pd
  | [], ps, h => by simp only [prsOf, Option.some.injEq] at h; subst h; rfl
  | e :: es, ps, h => by
    unfold prsOf at h
    split at h
    · rename_i p qs h1 h2
      cases h
      rw [prOf_eq h1, prsOf_eq h2]
      rfl
    · cases h
theorem prsOf_map : ∀ ps : List (Int × Int), prsOf (ps.map pd) = some ps
  | [] => rfl
  | p :: ps => by
    rw [List.map_cons, prsOf, prsOf_map ps]
    rfl
def leP (p q : Int × Int) : Bool := !SrtO.lexB q p
def sortP (ps : List (Int × Int)) : List (Int × Int) := ps.mergeSort leP
theorem leP_iff {p q : Int × Int} : leP p q = true ↔ ¬ (q.1 < p.1 ∨ (q.1 = p.1 ∧ q.2 < p.2)) := by
  unfold leP
  rw [Bool.not_eq_true', SrtO.lexB_no]
theorem sortP_uniq {qs ps : List (Int × Int)} (h1 : qs.Pairwise fun p q => leP p q = true) (h2 : qs.Perm ps) : qs = sortP ps := by
  refine List.Perm.eq_of_pairwise (le := fun p q => leP p q = true) (fun a b _ _ x y => ?_) h1 (List.pairwise_mergeSort (fun a b c x y => ?_) (fun a b => ?_) ps) (h2.trans (List.mergeSort_perm ps leP).symm)
  · rw [leP_iff] at x y
    exact Prod.ext (by omega) (by omega)
  · rw [leP_iff] at x y ⊢
    omega
  · rw [Bool.or_eq_true, leP_iff, leP_iff]
    omega
def kf (G : Hp) (x : V) : Int × Int := match x with
  | .ref t => match G t with
    | some (.tup [.int a, .int b]) => (a, b)
    | _ => (0, 0)
  | _ => (0, 0)
section
variable {K : Fw} {G H : Hp}
theorem r_pd {x : V} {p : Int × Int} {L : List Addr} (r : R K G H x (pd p) L) : L = [] ∧ kf G x = p ∧ ∃ t, x = .ref t ∧ G t = some (.tup [.int p.1, .int p.2]) := by
  unfold pd at r
  cases r with
  | tup q s =>
    cases s with
    | cons r1 t1 =>
      cases r1
      cases t1 with
      | cons r2 t2 =>
        cases r2
        cases t2
        exact ⟨rfl, by unfold kf; simp only [q], _, rfl, q⟩
theorem rs_pd : ∀ {xs : List V} {ps : List (Int × Int)} {L : List Addr}, Rs K G H xs (ps.map pd) L → xs.map (kf G) = ps ∧ ∀ x ∈ xs, R K G H x (pd (kf G x)) [] ∧ ∃ t, x = .ref t ∧ G t = some (.tup [.int (kf G x).1, .int (kf G x).2])
  | [], [], _, _ => ⟨rfl, fun x m => nomatch m⟩
  | [], _ :: _, _, s => nomatch s
  | _ :: _, [], _, s => nomatch s
  | x :: xs, p :: ps, _, .cons r s => by
    obtain ⟨e0, e1, t, e2, e3⟩ := r_pd r
    subst e0
    obtain ⟨f1, f2⟩ := rs_pd s
    refine ⟨by rw [List.map_cons, e1, f1], fun y m => ?_⟩
    rcases List.mem_cons.mp m with rfl | m
    · rw [e1]
      exact ⟨r, t, e2, e3⟩
    · exact f2 y m
theorem rs_of {ys : List V} (h : ∀ y ∈ ys, R K G H y (pd (kf G y)) []) : Rs K G H ys ((ys.map (kf G)).map pd) [] := by
  induction ys with
  | nil => exact .nil
  | cons y ys ih => exact .cons (L := []) (L' := []) (h y List.mem_cons_self) (ih fun z m => h z (List.mem_cons_of_mem _ m))
end
def gSorted (ds : List D) (A : Sl) : Option D := match ds with
  | [d] => match lsOf (see A d) with
    | some es => match prsOf es with
      | some ps => some (.mu ((sortP ps).map pd))
      | none => none
    | none => none
  | _ => none
section
variable {z : Z} {X : Cx}
theorem cd_sorted : CallD z (rSortedPO z.K) gSorted := by
  intro σ A ts H vs ds d' hl h hg Q q
  unfold gSorted at hg
  split at hg
  · rename_i d
    obtain ⟨v, rfl⟩ := call1 hl rfl
    have h : z.A σ A ((v, d) :: ts) H := h
    split at hg
    · rename_i es hs
      split at hg
      · rename_i ps hp
        cases hg
        have e1 := prsOf_eq hp
        subst e1
        obtain ⟨G, L, gh, r, f⟩ := h.open (lsOf_al hs)
        obtain ⟨a, xs, M, rfl, k1, s1⟩ := r.list gh hs
        obtain ⟨m1, m2⟩ := rs_pd s1
        refine ⟨a, xs, kf G, rfl, k1, fun x m => ?_, fun ys p hs hb hn => q _ _ (f.lst gh ?_ hn)⟩
        · obtain ⟨_, t, e2, e3⟩ := m2 x m
          exact ⟨t, e2, gh _ _ e3⟩
        · have pm := hb.perm
          have e4 : ys.map (kf G) = sortP ps := by
            refine sortP_uniq ?_ (by rw [← m1]; exact pm.map _)
            rw [List.pairwise_map]
            exact hs.imp fun {x y} u => by
              have u2 : SrtO.lexB (kf G y) (kf G x) = false := u
              unfold leP
              rw [u2]
              rfl
          rw [← e4]
          exact rs_of fun y m => (m2 y (pm.mem_iff.mp m)).1
      · cases hg
    · cases hg
  · cases hg

/-! ### is not True -/
def gNotB (d e : D) (A : Sl) : Option D := match d, e with
  | .bl b, .bl c => some (.bl (!(b == c)))
  | _, _ => none
def rNotB : R2 := fun x y H Q => ∃ b c, x = .bl b ∧ y = .bl c ∧ Q (.bl (!(b == c))) H
theorem op_notB : OpR X (compareOp .IsNot) rNotB := by
  intro pins s σ H x y v u Q I rx ry h
  obtain ⟨b, c, rfl, rfl, q⟩ := h
  cases rx
  cases ry
  exact wpAny_isNot_plain rfl (fin_bl I q (by cases b <;> cases c <;> rfl))
theorem opd_notB : OpD z rNotB gNotB := by
  intro σ A ts H v u d e d' h hg Q q
  unfold gNotB at hg
  split at hg
  · rename_i b c
    cases hg
    have e1 := h.bl
    have e2 := h.drop.bl
    exact ⟨b, c, e2, e1, q _ _ (h.drop.drop.pbl _)⟩
  · cases hg
end
end Ab
end
section
namespace Ab
open PySem PySem.Spec PyProof.Rows L2

/-! ### raise of an own class -/
def fRaise (c : Str) : FS := fun A => .exc c A
/-- what the text must say of an own class over ValueError, at C, to raise it -/
structure OwnX (K : PySem.W.Frag) (mg : Str → Option Value) (x : Str) (C : Addr) (bm : List Value) : Prop where
  g : mg x = some (.ref C)
  k : PySem.W.keepIn K (.ref C) = true
  b : PySem.W.subIn K (.ref C) (.type "BaseException") = some true
  t : PySem.W.typeIn K (.ref C) = some (.type "type")
section
variable {z : Z} {X : Cx}
theorem qs_raise {x m : Str} {C : Addr} {j : Nat} {p p2 pos pos' : Pos} {bm : List Value} {newId initId B : String} (F : ExcBaseFacts B newId initId bm) (hc : X.calm = true) (tk : Takes X z.W) (q : PySem.W.excIn X.K C bm newId = true)
    (gC : X.mg x = some (.ref C)) (kC : PySem.W.keepIn X.K (.ref C) = true) (hb : PySem.W.subIn X.K (.ref C) (.type "BaseException") = some true) (ht : PySem.W.typeIn X.K (.ref C) = some (.type "type")) (hg : Gl X x) (hcl : z.cl x = .ref C)
    (hdb : (x == ("__debug__" : Str)) = false := by decide) :
    PS X (.Raise (some (.Call (.Name x p) [.Constant (.str m) j p2] [] pos)) none pos') (tS z (fRaise x)) := by
  refine PS.imp (ps_raise hc tk (pmk_own F q gC kC (raises_own hb ht) hg hdb)) fun D σ H ⟨A, ts, hA, cl, hp⟩ => ?_
  have hw : z.W (z.cl x) none σ H := hp σ H hA
  rw [hcl] at hw
  exact hw
end
end Ab
namespace Ab
open PySem PySem.Spec PyProof.Rows L2
/-! ### zip of two lists -/
/-- frozen lists only -/
def frOf : D → Option (List D)
  | .lst ds => some ds
  | .fro ds => some ds
  | _ => none
def fZipL (fa fb : FE) : FI := fun A => (fCons fa (fCons fb fNil) A).bind fun ds A1 => match closeL ds A1 with
  | some ([d1, d2], A2) => match frOf (fz d1), frOf (fz d2) with
    | some xs, some ys => if isFs xs = true ∧ isFs ys = true then .ok (List.zipWith (fun x y => .tup [x, y]) xs ys) A2 else .stuck
    | _, _ => .stuck
  | _ => .stuck
section
variable {z : Z} {X : Cx} {fa fb : FE}
theorem R.fro2 {K : Fw} {G H : Hp} {v : V} {d : D} {L : List Addr} {ds : List D} (g : Same G H) (r : R K G H v d L) (h : frOf d = some ds) : L = [] ∧ ∃ a xs, v = .ref a ∧ SqL K H a xs ∧ Rs K G H xs ds [] := by
  cases r <;> simp only [frOf] at h <;> try cases h
  · rename_i q s; exact ⟨rfl, _, _, rfl, .inl (.inl (g _ _ q)), s⟩
  · rename_i q s; exact ⟨rfl, _, _, rfl, sq_l g q, s⟩
theorem frOf_al {d : D} {ds : List D} (h : frOf d = some ds) : ∀ j, d ≠ .al j := fun j e => by rw [e] at h; cases h
theorem itd_zipL {a b : Addr} {d1 d2 : D} {xs ys : List D} (hx : frOf d1 = some xs) (hy : frOf d2 = some ys) : ItD z (Itz z.K a b) [(.ref a, d1), (.ref b, d2)] (List.zipWith (fun x y => .tup [x, y]) xs ys) := by
  have key : ∀ (σ : L2.St) (A : Sl) (ts : Ts) (H : Hp), z.A σ A ([(.ref a, d1), (.ref b, d2)] ++ ts) H → ∃ G vs us, Same G H ∧ SqL z.K H a vs ∧ SqL z.K H b us ∧ Rs z.K G H vs xs [] ∧ Rs z.K G H us ys [] ∧ Fin z.K z.B σ A ([(.ref a, d1), (.ref b, d2)] ++ ts) H G := by
    intro σ A ts H h
    obtain ⟨G, L1, L2, gd, tm, sl, nd, ow⟩ := id h
    have f : Fin z.K z.B σ A ([(.ref a, d1), (.ref b, d2)] ++ ts) H G := fun w e H' G' L' he g1 g2 g3 r rn rf => step_core gd tm sl nd ow he g1 g2 g3 r rn rf
    have gh := gd.gh
    cases tm with
    | al e t => exact absurd rfl (frOf_al hx _)
    | cons r1 t1 =>
      cases t1 with
      | al e t => exact absurd rfl (frOf_al hy _)
      | cons r2 t2 =>
        obtain ⟨_, a1, vs, e1, k1, s1⟩ := R.fro2 gh r1 hx
        obtain ⟨_, b1, us, e2, k2, s2⟩ := R.fro2 gh r2 hy
        cases e1
        cases e2
        exact ⟨G, vs, us, gh, k1, k2, s1, s2, f⟩
  refine ⟨fun σ A ts H i h hi => ?_, fun σ A ts H i x H' e h he hyl => ?_, fun σ A ts H i h hi => ?_⟩
  · obtain ⟨G, vs, us, gh, k1, k2, s1, s2, f⟩ := key σ A ts H h
    rw [List.length_zipWith] at hi
    have l1 := s1.length
    have l2 := s2.length
    have i1 : i < vs.length := by omega
    have i2 : i < us.length := by omega
    exact ⟨vs, us, vs[i], us[i], k1, k2, List.getElem?_eq_getElem i1, List.getElem?_eq_getElem i2⟩
  · obtain ⟨G, vs, us, gh, k1, k2, s1, s2, f⟩ := key σ A ts H h
    obtain ⟨T, x1, y1, rfl, hT, rfl, g1, g2⟩ := hyl
    have h1 := g1 vs k1
    have h2 := g2 us k2
    rw [List.getElem?_zipWith] at he
    obtain ⟨e1, _, j1, ra, sa⟩ := s1.get h1
    obtain ⟨e2, _, j2, rb, sb⟩ := s2.get h2
    rw [j1, j2] at he
    obtain rfl : D.tup [e1, e2] = e := Option.some.inj he
    have ea := List.sublist_nil.mp sa
    subst ea
    have eb := List.sublist_nil.mp sb
    subst eb
    exact f.tup gh (.cons (L := []) (L' := []) ra (.cons (L := []) (L' := []) rb .nil)) hT
  · obtain ⟨G, vs, us, gh, k1, k2, s1, s2, f⟩ := key σ A ts H h
    rw [List.length_zipWith] at hi
    have l1 := s1.length
    have l2 := s2.length
    exact ⟨vs, us, k1, k2, by omega⟩
end
end Ab
namespace Ab
open PySem PySem.Spec PyProof.Rows L2
section
variable {z : Z} {X : Cx} {fa fb : FE}
theorem noAl_two {d1 d2 : D} (h : noAl [d1, d2] = true) : (∀ i, d1 ≠ .al i) ∧ ∀ i, d2 ≠ .al i := by
  constructor <;> intro i e <;> subst e <;> simp [noAl] at h
theorem qi_zipL {e e2 : Expr} {p pos tpos : Pos} {elts : List Expr} {kk : Nat} (hK : X.K = z.K) (hg : Gl X "zip") (hm : X.mg "zip" = none) (ha : PE X e (tE z fa)) (hb : PE X e2 (tE z fb))
    (hs : starEach [e, e2] X.env = (false, eval e X.env) :: starEach [e2] X.env := by rfl) (hs2 : starEach [e2] X.env = (false, eval e2 X.env) :: starEach [] X.env := by rfl) (hpl : (backTo pos (starEach [e2] X.env)).any (·.1) = false := by rfl) :
    PI X (.Tuple elts kk tpos) (.Call (.Name "zip" p) [e, e2] [] pos) (tI z (fZipL fa fb)) := by
  refine ⟨fun pins s σ H R I w => (pi_zip hg hm (qa_cons ha (qa_cons hb qa_nil hs2) hs) hs hpl).run pins s σ H R I ?_⟩
  obtain ⟨A, ts, hA, hp⟩ := w
  refine ⟨A, ts, hA, ?_⟩
  unfold fZipL at hp
  cases ea : fCons fa (fCons fb fNil) A with
  | stuck => rw [ea] at hp; exact (show False from hp).elim
  | exc c A1 => rw [ea] at hp; exact hp
  | ok ds A1 =>
    rw [ea] at hp
    simp only [Ou.bind_ok] at hp
    intro vs H1 hl h1
    split at hp
    · rename_i d1 d2 A2 ec
      obtain ⟨h2, l2, n2⟩ := h1.close hl ec
      split at hp
      · rename_i xs ys e1 e2
        split at hp
        · match vs, l2 with
          | [v1, v2], _ =>
            obtain ⟨m1, m2⟩ := noAl_two n2
            have h3 : z.A σ A2 ((v1, fz d1) :: (v2, d2) :: ts) H1 := Abs.fz h2 m1
            have h4 : z.A σ A2 ((v2, fz d2) :: (v1, fz d1) :: ts) H1 := Abs.fz (h3.perm (List.Perm.swap _ _ _)) m2
            have h5 : z.A σ A2 ((v1, fz d1) :: (v2, fz d2) :: ts) H1 := h4.perm (List.Perm.swap _ _ _)
            have n1 := fz_al d1 m1
            have n2' := fz_al d2 m2
            generalize fz d1 = f1 at h5 e1 n1
            generalize fz d2 = f2 at h5 e2 n2'
            obtain ⟨G, L1, L2, gd, tm, sl, nd, ow⟩ := id h5
            cases tm with
            | al e t => exact absurd rfl (n1 _)
            | cons r1 t1 =>
              cases t1 with
              | al e t => exact absurd rfl (n2' _)
              | cons r2 t2 =>
                obtain ⟨_, a1, us, e3, k1, s1⟩ := Ab.R.fro2 gd.gh r1 e1
                obtain ⟨_, b1, ws, e4, k2, s2⟩ := Ab.R.fro2 gd.gh r2 e2
                subst e3
                subst e4
                rw [hK]
                exact ⟨_, _, _, _, rfl, k1, k2, hp _ [(_, f1), (_, f2)] _ (fun p m j e => by
                  rcases List.mem_cons.mp m with rfl | m
                  · exact n1 j e
                  · rw [List.mem_singleton.mp m] at e; exact n2' j e) (itd_zipL e1 e2) h5⟩
        · exact (show False from hp).elim
      · exact (show False from hp).elim
    · exact (show False from hp).elim
end
end Ab
namespace Ab
open PySem PySem.Spec PyProof.Rows L2
/-- a def's promise, whatever places the classes have -/
def spAny (f : PySem.W.Frag) (w : World) (n : Nat) (F : List D → Ro) : Sp := fun vs H Q E => ∀ cl : Str → Value, spF ⟨f, w, cl⟩ cl n F vs H Q E
theorem spAny_to {f : PySem.W.Frag} {w : World} {n : Nat} {F : List D → Ro} (cl : Str → Value) : ∀ vs H Q E, spAny f w n F vs H Q E → spF ⟨f, w, cl⟩ cl n F vs H Q E := fun _ _ _ _ h => h cl
theorem law_any {f : PySem.W.Frag} {w : World} {F : List D → Ro} {H : Hp} {a : Addr} {ns : List Int} (hF : F [.fro (ns.map D.int)] = .ok (.bl true)) (hS : SqL f H a (ns.map V.int)) : spAny f w 1 F [.ref a] H (fun v _ => v = .bl true) fun _ _ _ => False := fun cl => law_sp hF hS
end Ab
end
section
namespace Ab
open PySem PySem.Spec PyProof.Rows L2

/-! ### enumerate(a tuple) -/
theorem newEnumT (l : Addr) (items : Array Value) :
    Meets (Builtin.«enumerate.__new__» ⟨[.type "enumerate", .ref l], []⟩) (fun _ R s => s.heap.IsTuple l items ∧
      R (.ok (.ret (.ref (s.heap.push { cls := .type "tuple_iterator", data := .fields #[.ref l, .int 0 0] }).objs.size)))
        { s with heap := (s.heap.push { cls := .type "tuple_iterator", data := .fields #[.ref l, .int 0 0] }).push { cls := .type "enumerate", data := .fields #[.none, .bool false, .ref s.heap.objs.size, rawInt 0, .none, .none] } }) :=
  .of_wp fun prog w A R s h => by
    obtain ⟨hp, g, d, tk, os⟩ := s; obtain ⟨tl, h⟩ := h
    have hsub := sub_enumerate
    have tl2 : Heap.IsTuple (Shared.heap ⟨hp, g, d, tk, os⟩) l items := tl
    obtain ⟨⟨oc, od, odt, osl⟩, el, ec, n, ed⟩ := id tl
    dsimp only at ec ed
    subst ec
    subst ed
    wp_walk using AutoSeq1.wpAny_loadPart' el
    refine wpAny_stack_any fun st => wpAny_pure ?_
    split
    · rename_i c _ _ _ _ _
      cases (c == Value.type "enumerate") <;> (wp_walk using AutoSeq1.wpAny_loadPart' el, wpAny_pyIter_tuple tl2; exact ⟨_, rfl, h⟩)
    · wp_walk using AutoSeq1.wpAny_loadPart' el, wpAny_pyIter_tuple tl2
      exact ⟨_, rfl, h⟩
section
variable {prog : Program} {w : World} {A : Around} {E : Value → Shared → Prop} {s : Shared}
theorem callEnumT {l : Addr} {items : Array Value} {Q : Value → Shared → Prop} (tl : s.heap.IsTuple l items)
    (h : ∀ h', IsEnum h' (s.heap.objs.size + 1) s.heap.objs.size 0 .none → h'.IsTupleIter s.heap.objs.size l 0 → (∀ b o, s.heap.get? b = some o → h'.get? b = some o) → Q (.ref (s.heap.objs.size + 1)) { s with heap := h' }) :
    wpAny (model prog w) A (call (.type "enumerate") [.ref l]) Q E s := by
  refine callType_new F.called_enumerate (by decide) (F.typeCall_enumerate_1 _) (F.newCall_enumerate_1 _) (fun obj => F.args_object_init_2 obj _) F.entry_enumerate_new (newEnumT l items) ⟨tl, ?_⟩
  generalize ho : ({ cls := .type "tuple_iterator", data := .fields #[.ref l, .int 0 0] } : Obj) = o
  have fo : o.isFreed = false := by rw [← ho]; rfl
  have sz : (s.heap.push o).objs.size = s.heap.objs.size + 1 := Heap.size_push ..
  show _ ∧ _
  rw [sz]
  have en : IsEnum ((s.heap.push o).push { cls := .type "enumerate", data := .fields #[.none, .bool false, .ref s.heap.objs.size, rawInt 0, .none, .none] }) (s.heap.objs.size + 1) s.heap.objs.size 0 .none := by
    have q := Heap.get?_push_size (s.heap.push o) (o := { cls := .type "enumerate", data := .fields #[.none, .bool false, .ref s.heap.objs.size, rawInt 0, .none, .none] }) rfl
    rw [sz] at q
    exact q
  refine ⟨⟨_, en, rfl⟩, h _ en ⟨o, Heap.get?_push_of_some _ (Heap.get?_push_size _ fo), ?_, ?_⟩ fun b ob x => Heap.get?_push_of_some _ (Heap.get?_push_of_some _ x)⟩
  · rw [← ho]
  · rw [← ho]; rfl
end
def ItN (K : PySem.W.Frag) (a : Addr) (c : Nat) : It :=
  ⟨fun i H => i < c ∧ ∃ (xs : List V) (x : V), SqT K H a xs ∧ xs[i]? = some x,
    fun i H v H' => ∃ T x, (v = .ref T ∧ H T = none) ∧ H' = upd H T (.tup [.int (i : Nat), x]) ∧ ∀ xs, SqT K H a xs → xs[i]? = some x,
    fun i H => c ≤ i ∧ ∃ xs : List V, SqT K H a xs ∧ xs.length = c⟩
def NSt (e it a : Addr) (c : Nat) (i : Nat) (h : Heap) : Prop := (∃ old, IsEnum h e it ((i : Nat) : Int) old) ∧ h.IsTupleIter it a i ∧ i ≤ c
theorem two_ {e it q : Addr} (h : q ∈ [e, it]) : q = e ∨ q = it := by simpa using h
theorem turnN {P : Program} {w : World} {K : PySem.W.Frag} {elts : List Expr} {kk : Nat} {tpos : Pos} {a e it : Addr} {c : Nat} (h1 : e ≠ it) (h2 : a ≠ e) (h3 : a ≠ it) :
    Turn P w K (.Tuple elts kk tpos) (ItN K a c) [e, it] e (NSt e it a c) where
  mem := List.mem_cons_self
  obj := fun i h st q hq => by
    obtain ⟨⟨old, m1⟩, ⟨o, m2, _, d2⟩, _⟩ := st
    rcases two_ hq with rfl | rfl
    · exact ⟨_, m1, fun v u => nomatch u⟩
    · exact ⟨o, m2, fun v u => by rw [d2] at u; cases u⟩
  keep := fun i h h' st k => by
    obtain ⟨⟨old, m1⟩, m2, m3⟩ := st
    exact ⟨⟨old, k _ (by simp) _ m1⟩, m2.at fun o => k _ (by simp) o, m3⟩
  item := by
    intro X e1 e2 e3 hcalm i pins s σ H E I hf st hg
    subst e1; subst e2; subst e3
    obtain ⟨⟨old, m1⟩, m2, m3⟩ := st
    obtain ⟨hic, xs, x, sx, gx⟩ := hg
    obtain ⟨its, rv, p, _⟩ := I.tuple sx
    obtain ⟨u, hu, ru⟩ := rv.get gx
    have zl : e < s.heap.objs.size := Heap.lt_size m1
    have hh : X.A.in1.handled = none := I.ok.hd hcalm
    have lt1 : i < its.toArray.size := by rw [List.size_toArray]; exact (List.getElem?_eq_some_iff.mp hu).1
    refine wpAny_pyNext_enum_itemD (Draws.tuple hh it a h3 its.toArray) m1 ⟨m2, p⟩ lt1 h1 (by simp [h1, h2.symm]) fun w1 h' tk y1 eo st1 hT hsz hk => ?_
    have y1' : its[i]? = some w1 := by simpa using y1
    obtain rfl : u = w1 := Option.some.inj (hu.symm.trans y1')
    refine ⟨_, rfl, wpAny_letOwnedTupleGo_enum (s := { s with heap := h', toks := tk + 1 }) eo fun h2 z2 sb => ?_⟩
    have T2 : IsPair h2 s.heap.objs.size (.int i tk) u := (sb.2 _ (Nat.ne_of_gt zl)).trans hT
    have fr : ∀ q o, q ∉ [e, it] → s.heap.get? q = some o → h2.get? q = some o := fun q o nq g => by
      simp only [List.mem_cons, List.not_mem_nil, or_false, not_or] at nq
      exact (sb.2 q nq.1).trans (hk q o nq.1 nq.2 g)
    have obj : ObjOk X.prog X.w (upd H s.heap.objs.size (.tup [.int (i : Nat), x])) h2 s.heap.objs.size (.tup [.int (i : Nat), x]) := by
      refine ⟨?_, [.int i tk, u], .cons ⟨_, rfl⟩ (.cons ru .nil), ⟨_, T2, rfl, _, rfl⟩⟩
      show 2 ≤ sizeLine
      decide
    have I2 : Inv X pins σ (upd H s.heap.objs.size (.tup [.int (i : Nat), x])) { s with heap := h2, toks := tk + 1 } := I.turnedNew fr hf (Nat.le_refl _) obj
    refine ⟨.ref s.heap.objs.size, _, I2, rfl, ⟨_, x, ⟨rfl, I.hok.fresh (Nat.le_refl _)⟩, rfl, fun l hl => ?_⟩, ⟨⟨u, ?_⟩, ?_, hic⟩, fun q hq => ?_⟩
    · rw [I.tuple_inj hl sx]; exact gx
    · rw [show ((i + 1 : Nat) : Int) = (i : Int) + 1 by omega]; exact z2
    · exact st1.1.at fun o g => (sb.2 _ h1.symm).trans g
    · have old : q < s.heap.objs.size := by
        rcases two_ hq with rfl | rfl
        · exact zl
        · obtain ⟨_, e1, _⟩ := m2; exact Heap.lt_size e1
      rw [upd_ne (Nat.ne_of_lt old)]
      exact (hf q hq).1
  done := by
    intro X e1 e2 e3 hcalm i pins s σ H E I hf st hg
    subst e1; subst e2; subst e3
    obtain ⟨⟨old, m1⟩, m2, m3⟩ := st
    obtain ⟨hic, xs, sx, hlen⟩ := hg
    obtain ⟨its, rv, p, _⟩ := I.tuple sx
    have hh : X.A.in1.handled = none := I.ok.hd hcalm
    have l1 : its.toArray.size = i := by rw [List.size_toArray, ← rv.length]; omega
    refine wpAny_pyNext_enum_endD (Draws.tuple hh it a h3 its.toArray) m1 (by rw [l1]; exact ⟨m2, p⟩) fun h' eb => ⟨rfl, I.turnedL (t' := s.toks) (fun q o nq g => ?_) hf⟩
    simp only [List.mem_cons, List.not_mem_nil, or_false, not_or] at nq
    exact eb q o nq.2 g
  self := fun A i s Q E st h => let ⟨⟨_, he⟩, _⟩ := st; wpAny_pyIter_enum he h
def iEnumT (K : PySem.W.Frag) (ta : TA) : TI := fun σ H R => ta σ H fun vs H1 => ∃ a xs, vs = [.ref a] ∧ SqT K H1 a xs ∧ R (ItN K a xs.length) H1
theorem pi_enumT {X : Cx} {e : Expr} {ta : TA} {p pos tpos : Pos} {elts : List Expr} {kk : Nat} (hg : Gl X "enumerate") (hm : X.mg "enumerate" = none) (ha : PA X [e] ta) (hs : starEach [e] X.env = [(false, eval e X.env)] := by rfl) :
    PI X (.Tuple elts kk tpos) (.Call (.Name "enumerate" p) [e] [] pos) (iEnumT X.K ta) := by
  refine ⟨fun pins s σ H R I h => Call_ (ld_blt I hg hm boot_enumerate (PyProof.Rows.callWith_type1 (thn (ha.run pos pins s σ H _ I h) fun us s1 ⟨vs, H1, I1, r1, q1⟩ => ?_) hs rfl))⟩
  obtain ⟨a, xs, rfl, sx, q⟩ := q1
  obtain ⟨v1, rfl, ra⟩ := vals1 r1
  cases ra
  obtain ⟨its, rv, p1, _⟩ := I1.tuple sx
  obtain ⟨o1, ho1, _⟩ := id p1
  have la : a < s1.heap.objs.size := Heap.lt_size ho1
  refine callEnumT p1 fun h' he hit hk => wpAny_pyIter_enum he ?_
  have I2 : Inv X pins σ H1 { s1 with heap := h' } := I1.kept (t' := s1.toks) hk
  refine ⟨s1.heap.objs.size + 1, [s1.heap.objs.size + 1, s1.heap.objs.size], _, _, H1, rfl, I2, turnN (Nat.succ_ne_self _) (Nat.ne_of_lt (Nat.lt_succ_of_lt la)) (Nat.ne_of_lt la), ⟨⟨.none, he⟩, hit, Nat.zero_le _⟩, fun q hq => ?_, q⟩
  have up : s1.heap.objs.size ≤ q := by rcases two_ hq with rfl | rfl <;> first | exact Nat.le_refl _ | exact Nat.le_add_right _ _
  exact I1.fpOk up (I1.hok.fresh up)
end Ab
namespace Ab
open PySem PySem.Spec PyProof.Rows L2
def enumD (ds : List D) : List D := List.zipWith (fun (i : Nat) d => D.tup [.int (i : Nat), d]) (List.range ds.length) ds
theorem enumD_len (ds : List D) : (enumD ds).length = ds.length := by unfold enumD; simp
theorem enumD_get {ds : List D} {i : Nat} {e : D} (h : (enumD ds)[i]? = some e) : ∃ d, ds[i]? = some d ∧ e = .tup [.int (i : Nat), d] := by
  have hi : i < ds.length := by rw [← enumD_len ds]; exact (List.getElem?_eq_some_iff.mp h).1
  unfold enumD at h
  rw [List.getElem?_zipWith, List.getElem?_range hi, List.getElem?_eq_getElem hi] at h
  exact ⟨ds[i], List.getElem?_eq_getElem hi, (Option.some.inj h).symm⟩
def fEnum (fa : FE) : FI := fun A => (fa A).bind fun d A1 => match closeD d A1 with
  | some (e, A2) => match fz e with
    | .tup ds => if isFs ds = true then .ok (enumD ds) A2 else .stuck
    | .lst ds => .ok (enumD ds) A2
    | .fro ds => .ok (enumD ds) A2
    | _ => .stuck
  | none => .stuck
section
variable {z : Z} {X : Cx} {fa : FE}
theorem itd_enumT {a : Addr} {ds : List D} (hf : isFs ds = true) : ItD z (ItN z.K a ds.length) [(.ref a, .tup ds)] (enumD ds) := by
  have key : ∀ (σ : L2.St) (A : Sl) (ts : Ts) (H : Hp), z.A σ A ([(.ref a, .tup ds)] ++ ts) H → ∃ G xs, Same G H ∧ SqT z.K H a xs ∧ Rs z.K G H xs ds [] ∧ Fin z.K z.B σ A ([(.ref a, .tup ds)] ++ ts) H G := by
    intro σ A ts H h
    obtain ⟨G, L1, L2, gd, tm, sl, nd, ow⟩ := id h
    have f : Fin z.K z.B σ A ([(.ref a, .tup ds)] ++ ts) H G := fun w e H' G' L' he g1 g2 g3 r rn rf => step_core gd tm sl nd ow he g1 g2 g3 r rn rf
    cases tm with
    | cons r t =>
      cases r with
      | tup q rs =>
        have e1 := rs.isFs hf
        subst e1
        exact ⟨G, _, gd.gh, .inl (.inl (gd.gh _ _ q)), rs, f⟩
  refine ⟨fun σ A ts H i h hi => ?_, fun σ A ts H i x H' e h he hyl => ?_, fun σ A ts H i h hi => ?_⟩
  · obtain ⟨G, xs, gh, k, s, f⟩ := key σ A ts H h
    rw [enumD_len] at hi
    have i1 : i < xs.length := by rw [s.length]; exact hi
    exact ⟨hi, xs, xs[i], k, List.getElem?_eq_getElem i1⟩
  · obtain ⟨G, xs, gh, k, s, f⟩ := key σ A ts H h
    obtain ⟨T, x1, ⟨rfl, hT⟩, rfl, g1⟩ := hyl
    obtain ⟨d, hd, rfl⟩ := enumD_get he
    have r := s.nil_get (g1 xs k) hd
    exact f.tup gh (.cons (L := []) (L' := []) (.int _) (.cons (L := []) (L' := []) r .nil)) hT
  · obtain ⟨G, xs, gh, k, s, f⟩ := key σ A ts H h
    rw [enumD_len] at hi
    exact ⟨hi, xs, k, s.length⟩
theorem itd_enumL {a : Addr} {d : D} {ds : List D} (hd : frOf d = some ds) : ItD z (Ite z.K a) [(.ref a, d)] (enumD ds) := by
  have key : ∀ (σ : L2.St) (A : Sl) (ts : Ts) (H : Hp), z.A σ A ([(.ref a, d)] ++ ts) H → ∃ G xs, Same G H ∧ SqL z.K H a xs ∧ Rs z.K G H xs ds [] ∧ Fin z.K z.B σ A ([(.ref a, d)] ++ ts) H G := by
    intro σ A ts H h
    obtain ⟨G, L1, L2, gd, tm, sl, nd, ow⟩ := id h
    have f : Fin z.K z.B σ A ([(.ref a, d)] ++ ts) H G := fun w e H' G' L' he g1 g2 g3 r rn rf => step_core gd tm sl nd ow he g1 g2 g3 r rn rf
    cases tm with
    | al e t => exact absurd rfl (frOf_al hd _)
    | cons r t =>
      obtain ⟨_, a1, vs, e1, k1, s1⟩ := Ab.R.fro2 gd.gh r hd
      cases e1
      exact ⟨G, vs, gd.gh, k1, s1, f⟩
  refine ⟨fun σ A ts H i h hi => ?_, fun σ A ts H i x H' e h he hyl => ?_, fun σ A ts H i h hi => ?_⟩
  · obtain ⟨G, xs, gh, k, s, f⟩ := key σ A ts H h
    rw [enumD_len] at hi
    have i1 : i < xs.length := by rw [s.length]; exact hi
    exact ⟨xs, xs[i], k, List.getElem?_eq_getElem i1⟩
  · obtain ⟨G, xs, gh, k, s, f⟩ := key σ A ts H h
    obtain ⟨T, x1, rfl, hT, rfl, g1⟩ := hyl
    obtain ⟨d2, hd2, rfl⟩ := enumD_get he
    have r := s.nil_get (g1 xs k) hd2
    exact f.tup gh (.cons (L := []) (L' := []) (.int _) (.cons (L := []) (L' := []) r .nil)) hT
  · obtain ⟨G, xs, gh, k, s, f⟩ := key σ A ts H h
    rw [enumD_len] at hi
    exact ⟨xs, k, by rw [s.length]; exact hi⟩
theorem qi_enum {e : Expr} {p pos tpos : Pos} {elts : List Expr} {kk : Nat} (hK : X.K = z.K) (hg : Gl X "enumerate") (hm : X.mg "enumerate" = none) (ha : PE X e (tE z fa)) (hs : starEach [e] X.env = [(false, eval e X.env)] := by rfl) (hs2 : starEach [e] X.env = (false, eval e X.env) :: starEach [] X.env := by rfl) :
    PI X (.Tuple elts kk tpos) (.Call (.Name "enumerate" p) [e] [] pos) (tI z (fEnum fa)) := by
  have hA1 : PA X [e] (L2.tCons (tE z fa) L2.tNil) := pa_cons ha pa_nil hs2
  refine ⟨fun pins s σ H R I w => ?_⟩
  obtain ⟨A, ts, hA, hp⟩ := w
  unfold fEnum at hp
  cases ea : fa A with
  | stuck => rw [ea] at hp; exact (show False from hp).elim
  | exc c A1 =>
    rw [ea] at hp
    refine (pi_enum hg hm hA1 hs).run pins s σ H R I ⟨A, ts, hA, ?_⟩
    rw [ea]; exact hp
  | ok d A1 =>
    rw [ea] at hp
    simp only [Ou.bind_ok] at hp
    split at hp
    · rename_i e1 A2 ec
      have fin : ∀ v H1, z.A σ A1 ((v, d) :: ts) H1 → z.A σ A2 ((v, fz e1) :: ts) H1 := fun v H1 h1 => by
        obtain ⟨h2, n2⟩ := h1.closeD ec
        exact h2.fz n2
      split at hp
      · rename_i ds ef
        rw [ef] at fin
        split at hp
        · rename_i hf
          refine (pi_enumT hg hm hA1 hs).run pins s σ H R I ⟨A, ts, hA, ?_⟩
          rw [ea]
          intro v H1 h1
          have h2 := fin v H1 h1
          obtain ⟨G, L, gh, r, _⟩ := h2.open (fun j q => nomatch q)
          have r : Ab.R z.K G H1 v (.tup ds) L := r
          cases r with
          | tup q rs =>
            refine ⟨_, _, rfl, .inl (.inl (gh _ _ q)), ?_⟩
            rw [rs.length, hK]
            exact hp _ [(_, .tup ds)] _ (fun p m j e => by rw [List.mem_singleton.mp m] at e; cases e) (itd_enumT hf) h2
        · exact (show False from hp).elim
      · rename_i ds ef
        rw [ef] at fin
        refine (pi_enum hg hm hA1 hs).run pins s σ H R I ⟨A, ts, hA, ?_⟩
        rw [ea]
        intro v H1 h1
        have h2 := fin v H1 h1
        obtain ⟨G, L, gh, r, _⟩ := h2.open (fun j q => nomatch q)
        have r : Ab.R z.K G H1 v (.lst ds) L := r
        obtain ⟨_, a1, vs, e2, k1, s1⟩ := Ab.R.fro2 gh r rfl
        subst e2
        rw [hK]
        exact ⟨_, _, rfl, k1, hp _ [(_, .lst ds)] _ (fun p m j e => by rw [List.mem_singleton.mp m] at e; cases e) (itd_enumL rfl) h2⟩
      · rename_i ds ef
        rw [ef] at fin
        refine (pi_enum hg hm hA1 hs).run pins s σ H R I ⟨A, ts, hA, ?_⟩
        rw [ea]
        intro v H1 h1
        have h2 := fin v H1 h1
        obtain ⟨G, L, gh, r, _⟩ := h2.open (fun j q => nomatch q)
        have r : Ab.R z.K G H1 v (.fro ds) L := r
        obtain ⟨_, a1, vs, e2, k1, s1⟩ := Ab.R.fro2 gh r rfl
        subst e2
        rw [hK]
        exact ⟨_, _, rfl, k1, hp _ [(_, .fro ds)] _ (fun p m j e => by rw [List.mem_singleton.mp m] at e; cases e) (itd_enumL rfl) h2⟩
      · exact (show False from hp).elim
    · exact (show False from hp).elim
end
end Ab
end
section
/-! dicts: keys that are tuples (by their entries), keys that are whole numbers -/
namespace Ab
open PySem PySem.Spec PyProof.Rows L2

/- a key's value, by what is tracked -/
mutual
inductive NkV (H : Hp) : V → NestedKey → Prop
  | non : NkV H .non .none
  | bl (b : Bool) : NkV H (.bl b) (.num (if b = true then 1 else 0))
  | int (i : Int) : NkV H (.int i) (.num i)
  | str (x : Str) : NkV H (.str x) (.text x)
  | tup {a : Addr} {xs : List V} {ks : List NestedKey} : H a = some (.tup xs) → NkVs H xs ks → NkV H (.ref a) (.tup ks)
inductive NkVs (H : Hp) : List V → List NestedKey → Prop
  | nil : NkVs H [] []
  | cons {v : V} {k : NestedKey} {vs : List V} {ks : List NestedKey} : NkV H v k → NkVs H vs ks → NkVs H (v :: vs) (k :: ks)
end
section
variable {K : Fw} {G H H' : Hp}
mutual
theorem R.nk (g : Same G H) : ∀ {v : V} {d : D} {L : List Addr} {k : NestedKey}, R K G H v d L → nkD d = some k → NkV H v k
  | _, _, _, _, .non, e => by rw [nkD] at e; cases e; exact .non
  | _, _, _, _, .bl b, e => by rw [nkD] at e; cases e; exact .bl b
  | _, _, _, _, .int i, e => by rw [nkD] at e; cases e; exact .int i
  | _, _, _, _, .str x, e => by rw [nkD] at e; cases e; exact .str x
  | _, _, _, _, .ty x, e => by rw [nkD] at e; cases e
  | _, _, _, _, .tup (ds := ds) q r, e => by
    rw [nkD] at e
    cases h : nkDs ds with
    | none => rw [h] at e; cases e
    | some ks => rw [h] at e; cases e; exact .tup (g _ _ q) (Rs.nk g r h)
  | _, _, _, _, .lst q r, e => by rw [nkD] at e; cases e
  | _, _, _, _, .fro q r, e => by rw [nkD] at e; cases e
  | _, _, _, _, .mu _ n r, e => by rw [nkD] at e; cases e
  | _, _, _, _, .fdi q o k r, e => by rw [nkD] at e; cases e
  | _, _, _, _, .mdi _ n o k r, e => by rw [nkD] at e; cases e
theorem Rs.nk (g : Same G H) : ∀ {vs : List V} {ds : List D} {L : List Addr} {ks : List NestedKey}, Rs K G H vs ds L → nkDs ds = some ks → NkVs H vs ks
  | _, _, _, _, .nil, e => by rw [nkDs] at e; cases e; exact .nil
  | _, _, _, _, .cons (d := d) (ds := ds) r t, e => by
    rw [nkDs] at e
    cases h1 : nkD d with
    | none => rw [h1] at e; cases e
    | some k =>
      cases h2 : nkDs ds with
      | none => rw [h1, h2] at e; cases e
      | some ks => rw [h1, h2] at e; cases e; exact .cons (R.nk g r h1) (Rs.nk g t h2)
end
mutual
theorem NkV.mono (g : ∀ a xs, H a = some (.tup xs) → H' a = some (.tup xs)) : ∀ {v : V} {k : NestedKey}, NkV H v k → NkV H' v k
  | _, _, .non => .non
  | _, _, .bl b => .bl b
  | _, _, .int i => .int i
  | _, _, .str x => .str x
  | _, _, .tup q r => .tup (g _ _ q) (NkVs.mono g r)
theorem NkVs.mono (g : ∀ a xs, H a = some (.tup xs) → H' a = some (.tup xs)) : ∀ {vs : List V} {ks : List NestedKey}, NkVs H vs ks → NkVs H' vs ks
  | _, _, .nil => .nil
  | _, _, .cons r t => .cons (NkV.mono g r) (NkVs.mono g t)
end
mutual
theorem NkV.is {P : Program} {w : World} {h : Heap} (ok : HOk P w H h) : ∀ {v : V} {k : NestedKey} {u : Value}, NkV H v k → RelV v u → NestedIs h k u
  | _, _, u, .non, r => by cases (show u = Value.none from r); exact .none
  | _, _, u, .bl b, r => by cases (show u = Value.bool b from r); exact .bool rfl
  | _, _, u, .int i, r => by obtain ⟨t, rfl⟩ := (show ∃ t, u = Value.int i t from r); exact .int i t
  | _, _, u, .str x, r => by obtain ⟨t, rfl⟩ := (show ∃ t, u = Value.str x t from r); exact .text x t
  | _, _, u, .tup (a := a) (xs := xs) q n, r => by
    cases (show u = Value.ref a from r)
    obtain ⟨_, its, rv, o, e, hc, n1, ed⟩ := ok a _ q
    exact .tup e hc ed (NkVs.is ok n (by simpa using rv))
theorem NkVs.is {P : Program} {w : World} {h : Heap} (ok : HOk P w H h) : ∀ {vs : List V} {ks : List NestedKey} {us : List Value}, NkVs H vs ks → Vals vs us → NestedAll h ks us
  | _, _, _, .nil, .nil => .nil
  | _, _, _, .cons n t, .cons r s => .cons (NkV.is ok n r) (NkVs.is ok t s)
end
end
/-- at p stands, tracked, a dict with these entries -/
structure NdAt (w : World) (H : Hp) (p : Addr) (xs : List (NestedKey × Addr × Value)) : Prop where
  hp : ∃ ep, H p = some (ndHO w p ep xs)
  sys : (p == sysModules) = false
  len : xs.length ≤ sizeLine
  nd : (xs.map (·.1)).Nodup
  ks : ∀ x ∈ xs, x.1.depth ≤ 8 ∧ NkV H (.ref x.2.1) x.1
section
variable {X : Cx} {pins : List (Addr × Obj)} {σ : L2.St} {H : Hp} {s : Shared} {p b : Addr} {xs : List (NestedKey × Addr × Value)} {k : NestedKey}
theorem NdAt.of (I : Inv X pins σ H s) (h : NdAt X.w H p xs) : s.heap.DictOfH (nestedKind X.prog X.w) p xs := by
  obtain ⟨ep, hep⟩ := h.hp
  obtain ⟨⟨o, es, h1, h2, h3, h4⟩, _, _⟩ := I.hok p _ hep
  refine ⟨o, es, ep, h1, h2, h3, h4, fun x hx => ?_, h.nd⟩
  obtain ⟨hd, hk⟩ := h.ks x hx
  exact ⟨hk.is I.hok rfl, hd⟩
theorem nk_is (I : Inv X pins σ H s) (h : NkV H (.ref b) k) (hd : k.depth ≤ 8) : (nestedKind X.prog X.w).is s.heap k b := ⟨h.is I.hok rfl, hd⟩
theorem nk_room {A : Around} (hu : A.units + 65 < cLine) : (nestedKind X.prog X.w).room A.in1 := by show A.units + 1 + 8 < cLine; omega
theorem nd_obj {P : Program} {w : World} {h : Heap} {p : Addr} {xs : List (NestedKey × Addr × Value)} (hd : h.DictOfH (nestedKind P w) p xs) : ∃ ep, ∀ H : Hp, ObjOk P w H h p (ndHO w p ep xs) := by
  obtain ⟨o, es, ep, h1, h2, h3, h4, _, _⟩ := hd
  exact ⟨ep, fun _ => ⟨⟨o, es, h1, h2, h3, h4⟩, ⟨o, h1⟩, fun g1 g2 ⟨o1, es1, q1, q2, q3, q4⟩ k => ⟨o1, es1, k _ q1, q2, q3, q4⟩⟩⟩
/-! k in d, k not in d, d[k] -/
def rInN (w : World) : R2 := fun x y H Q => ∃ p b xs k, y = .ref p ∧ x = .ref b ∧ NdAt w H p xs ∧ NkV H (.ref b) k ∧ k.depth ≤ 8 ∧ Q (.bl (atKey xs k).isSome) H
def rNotInN (w : World) : R2 := fun x y H Q => ∃ p b xs k, y = .ref p ∧ x = .ref b ∧ NdAt w H p xs ∧ NkV H (.ref b) k ∧ k.depth ≤ 8 ∧ Q (.bl (!(atKey xs k).isSome)) H
theorem op_inN (hu : X.A.units + 65 < cLine) : OpR X (compareOp .In) (rInN X.w) := by
  intro pins s σ H x y v u Q I rx ry ⟨p, b, xs, k, e1, e2, nd, nk, hd, q⟩
  subst e1; subst e2
  cases (show v = Value.ref b from rx)
  cases (show u = Value.ref p from ry)
  exact wpAny_in_heap (nk_room hu) (nk_is I nk hd) nd.sys (nd.of I) ⟨.bl _, H, I.tok _, rfl, q⟩
theorem op_notInN (hu : X.A.units + 65 < cLine) : OpR X (compareOp .NotIn) (rNotInN X.w) := by
  intro pins s σ H x y v u Q I rx ry ⟨p, b, xs, k, e1, e2, nd, nk, hd, q⟩
  subst e1; subst e2
  cases (show v = Value.ref b from rx)
  cases (show u = Value.ref p from ry)
  exact wpAny_notIn_heap (nk_room hu) (nk_is I nk hd) nd.sys (nd.of I) ⟨.bl _, H, I.tok _, rfl, q⟩
def rInK : R2 := fun x y H Q => ∃ p kvs k, y = .ref p ∧ x = kV k ∧ H p = some (.dK kvs) ∧ Q (.bl (valV kvs k).isSome) H
def rNotInK : R2 := fun x y H Q => ∃ p kvs k, y = .ref p ∧ x = kV k ∧ H p = some (.dK kvs) ∧ Q (.bl (!(valV kvs k).isSome)) H
theorem op_inK (hu : X.A.units + 65 < cLine) : OpR X (compareOp .In) rInK := by
  intro pins s σ H x y v u Q I rx ry ⟨p, kvs, k, e1, e2, h, q⟩
  subst e1; subst e2
  cases (show u = Value.ref p from ry)
  exact d_in (by omega) I (DGet.k h) rx fun s' I' => ⟨.bl _, H, I', rfl, q⟩
theorem op_notInK (hu : X.A.units + 65 < cLine) : OpR X (compareOp .NotIn) rNotInK := by
  intro pins s σ H x y v u Q I rx ry ⟨p, kvs, k, e1, e2, h, q⟩
  subst e1; subst e2
  cases (show u = Value.ref p from ry)
  exact d_notIn (by omega) I (DGet.k h) rx fun s' I' => ⟨.bl _, H, I', rfl, q⟩
def rInX (K : PySem.W.Frag) (w : World) : R2 := fun x y H Q => rInA K x y H Q ∨ rInN w x y H Q ∨ rInK x y H Q
def rNotInX (K : PySem.W.Frag) (w : World) : R2 := fun x y H Q => rNotInA K x y H Q ∨ rNotInN w x y H Q ∨ rNotInK x y H Q
theorem op_inX (hu : X.A.units + 65 < cLine) : OpR X (compareOp .In) (rInX X.K X.w) := (op_inA hu).or ((op_inN hu).or (op_inK hu))
theorem op_notInX (hu : X.A.units + 65 < cLine) : OpR X (compareOp .NotIn) (rNotInX X.K X.w) := (op_notInA hu).or ((op_notInN hu).or (op_notInK hu))
end
/-! ### told keys looked up -/
def ixD (ks : List D) (k : NestedKey) : Option Nat := ks.findIdx? fun d => decide (nkD d = some k)
def isTupK : D → Bool
  | .tup _ => true
  | _ => false
/-- is it a key for a dict of this kind -/
def keyOk (n : Bool) (d : D) : Option NestedKey := match n, d with
  | true, .tup ds => match nkD (.tup ds) with
    | some k => if k.depth ≤ 8 then some k else none
    | none => none
  | false, .int i => some (.num i)
  | _, _ => none
theorem ixD_nd {xs : List (NestedKey × Addr × Value)} {ks : List D} (h : ks.map nkD = xs.map fun x => some x.1) (k : NestedKey) : ixD ks k = xs.findIdx? fun x => decide (x.1 = k) := by
  unfold ixD
  have e1 : (fun d => decide (nkD d = some k)) = (fun o : Option NestedKey => decide (o = some k)) ∘ nkD := rfl
  have e2 : (fun x : NestedKey × Addr × Value => decide (x.1 = k)) = (fun o : Option NestedKey => decide (o = some k)) ∘ fun x => some x.1 := by
    funext x; simp
  rw [e1, ← List.findIdx?_map, h, e2, List.findIdx?_map]
theorem find_ix {α : Type} (f : α → Bool) : ∀ xs : List α, xs.find? f = (xs.findIdx? f).bind fun j => xs[j]?
  | [] => rfl
  | x :: xs => by
    rw [List.find?_cons, List.findIdx?_cons, find_ix f xs]
    cases f x with
    | true => rfl
    | false =>
      cases h : xs.findIdx? f with
      | none => simp [h]
      | some j => simp [h]
theorem atKey_ix (xs : List (NestedKey × Addr × Value)) (k : NestedKey) : atKey xs k = ((xs.findIdx? fun x => decide (x.1 = k)).bind fun j => xs[j]?).map (·.2) := by
  unfold atKey
  rw [find_ix]
def putL {α : Type} (o : Option Nat) (l : List α) (v : α) : List α := match o with
  | some j => l.set j v
  | none => l ++ [v]
def addL {α : Type} (o : Option Nat) (l : List α) (v : α) : List α := match o with
  | some _ => l
  | none => l ++ [v]
def cutL {α : Type} (o : Option Nat) (l : List α) : List α := match o with
  | some j => l.eraseIdx j
  | none => l
theorem findIx_lt {α : Type} {f : α → Bool} {xs : List α} {j : Nat} (h : xs.findIdx? f = some j) : ∃ x, xs[j]? = some x ∧ f x = true := by
  rw [List.findIdx?_eq_some_iff_getElem] at h
  obtain ⟨hj, h1, _⟩ := h
  exact ⟨xs[j], List.getElem?_eq_getElem hj, h1⟩
theorem storedH_ix {xs : List (NestedKey × Addr × Value)} {k : NestedKey} {a : Addr} {v : Value} (nd : (xs.map (·.1)).Nodup) : storedH xs k a v = match xs.findIdx? fun x => decide (x.1 = k) with
    | some j => xs.modify j fun x => (x.1, x.2.1, v)
    | none => xs ++ [(k, a, v)] := by
  have e := atKey_ix xs k
  cases h : xs.findIdx? fun x => decide (x.1 = k) with
  | none =>
    rw [h] at e
    exact storedH_new e a v
  | some j =>
    rw [h] at e
    obtain ⟨x, h1, h2⟩ := findIx_lt h
    have h2 : x.1 = k := of_decide_eq_true h2
    have e2 : atKey xs k = some x.2 := by rw [e]; show (xs[j]?).map (·.2) = _; rw [h1]; rfl
    rw [storedH_old e2]
    show xs.map (putAt k v) = xs.modify j _
    apply List.ext_getElem?
    intro i
    rw [List.getElem?_map, List.getElem?_modify]
    cases hi : xs[i]? with
    | none => simp
    | some y =>
      by_cases q : j = i
      · subst q
        rw [h1] at hi
        cases hi
        simp [putAt, h2]
      · have ne : y.1 ≠ k := fun e3 => q (idxH_unique nd (k := k) (p := x.2) (q := y.2) (by rw [h1, ← h2]) (by rw [hi, ← e3]))
        simp [putAt, ne, q]
theorem map_modify_same {α β : Type} {f : α → β} {g : α → α} (h : ∀ x, f (g x) = f x) (xs : List α) (j : Nat) : (xs.modify j g).map f = xs.map f := by
  apply List.ext_getElem?
  intro i
  rw [List.getElem?_map, List.getElem?_modify, List.getElem?_map]
  cases xs[i]? with
  | none => rfl
  | some y => by_cases q : j = i <;> simp [q, h]
theorem map_modify_set {α β : Type} {f : α → β} {g : α → α} {v : β} (h : ∀ x, f (g x) = v) (xs : List α) (j : Nat) : (xs.modify j g).map f = (xs.map f).set j v := by
  apply List.ext_getElem?
  intro i
  rw [List.getElem?_map, List.getElem?_modify, List.getElem?_set, List.getElem?_map]
  cases hi : xs[i]? with
  | none =>
    have : xs.length ≤ i := List.getElem?_eq_none_iff.mp hi
    by_cases q : j = i
    · subst q; simp; omega
    · simp [q]
  | some y =>
    have : i < xs.length := (List.getElem?_eq_some_iff.mp hi).1
    by_cases q : j = i
    · subst q; simp [h, this]
    · simp [q]
section
variable {xs : List (NestedKey × Addr × Value)} {k : NestedKey} {a : Addr} {v : Value}
theorem storedH_keys (nd : (xs.map (·.1)).Nodup) : (storedH xs k a v).map (·.1) = addL (xs.findIdx? fun x => decide (x.1 = k)) (xs.map (·.1)) k := by
  rw [storedH_ix nd]
  cases xs.findIdx? fun x => decide (x.1 = k) with
  | none => simp [addL]
  | some j => simp only [addL]; exact map_modify_same (f := fun x : NestedKey × Addr × Value => x.1) (g := fun x : NestedKey × Addr × Value => (x.1, x.2.1, v)) (fun _ => rfl) xs j
theorem storedH_adrs (nd : (xs.map (·.1)).Nodup) : (storedH xs k a v).map (·.2.1) = addL (xs.findIdx? fun x => decide (x.1 = k)) (xs.map (·.2.1)) a := by
  rw [storedH_ix nd]
  cases xs.findIdx? fun x => decide (x.1 = k) with
  | none => simp [addL]
  | some j => simp only [addL]; exact map_modify_same (f := fun x : NestedKey × Addr × Value => x.2.1) (g := fun x : NestedKey × Addr × Value => (x.1, x.2.1, v)) (fun _ => rfl) xs j
theorem storedH_vals (nd : (xs.map (·.1)).Nodup) : (storedH xs k a v).map (·.2.2) = putL (xs.findIdx? fun x => decide (x.1 = k)) (xs.map (·.2.2)) v := by
  rw [storedH_ix nd]
  cases xs.findIdx? fun x => decide (x.1 = k) with
  | none => simp [putL]
  | some j => simp only [putL]; exact map_modify_set (f := fun x : NestedKey × Addr × Value => x.2.2) (g := fun x : NestedKey × Addr × Value => (x.1, x.2.1, v)) (fun _ => rfl) xs j
theorem storedH_mem (nd : (xs.map (·.1)).Nodup) {y : NestedKey × Addr × Value} (h : y ∈ storedH xs k a v) : (y.1 = k ∧ y.2.1 = a) ∨ ∃ x ∈ xs, x.1 = y.1 ∧ x.2.1 = y.2.1 := by
  rw [storedH_ix nd] at h
  cases q : xs.findIdx? fun x => decide (x.1 = k) with
  | none =>
    rw [q] at h
    rcases List.mem_append.mp h with h | h
    · exact .inr ⟨y, h, rfl, rfl⟩
    · rw [List.mem_singleton.mp h]; exact .inl ⟨rfl, rfl⟩
  | some j =>
    rw [q] at h
    obtain ⟨i, hi⟩ := List.mem_iff_getElem?.mp h
    rw [List.getElem?_modify] at hi
    cases hx : xs[i]? with
    | none => rw [hx] at hi; cases hi
    | some x =>
      rw [hx] at hi
      refine .inr ⟨x, List.mem_of_getElem? hx, ?_⟩
      by_cases e : j = i
      · simp [e] at hi; rw [← hi]; exact ⟨rfl, rfl⟩
      · simp [e] at hi; rw [← hi]; exact ⟨rfl, rfl⟩
theorem withoutH_ix (nd : (xs.map (·.1)).Nodup) : withoutH xs k = cutL (xs.findIdx? fun x => decide (x.1 = k)) xs := by
  induction xs with
  | nil => rfl
  | cons x xs ih =>
    rw [List.map_cons, List.nodup_cons] at nd
    unfold withoutH at ih ⊢
    rw [List.findIdx?_cons]
    by_cases e : x.1 = k
    · rw [List.filter_cons_of_neg (by simp [e])]
      simp only [e, decide_true, if_true, cutL]
      have : k ∉ xs.map (·.1) := e ▸ nd.1
      show _ = xs
      rw [List.filter_eq_self]
      intro y hy
      simp only [ne_eq, decide_not, Bool.not_eq_eq_eq_not, Bool.not_true, decide_eq_false_iff_not]
      exact fun e2 => this (List.mem_map.mpr ⟨y, hy, e2⟩)
    · rw [List.filter_cons_of_pos (by simp [e]), ih nd.2]
      simp only [e, decide_false, Bool.false_eq_true, if_false]
      cases xs.findIdx? fun x => decide (x.1 = k) with
      | none => rfl
      | some j => rfl
end
theorem cutL_map {α β : Type} (f : α → β) (o : Option Nat) (l : List α) : (cutL o l).map f = cutL o (l.map f) := by
  cases o with
  | none => rfl
  | some j => simp only [cutL]; rw [List.eraseIdx_eq_take_drop_succ, List.eraseIdx_eq_take_drop_succ, List.map_append, List.map_take, List.map_drop]
theorem putL_map {α β : Type} (f : α → β) (o : Option Nat) (l : List α) (v : α) : (putL o l v).map f = putL o (l.map f) (f v) := by
  cases o with
  | none => simp [putL]
  | some j => simp [putL]
theorem addL_map {α β : Type} (f : α → β) (o : Option Nat) (l : List α) (v : α) : (addL o l v).map f = addL o (l.map f) (f v) := by
  cases o with
  | none => simp [addL]
  | some j => simp [addL]
theorem putL_len {α : Type} (o : Option Nat) (l : List α) (v : α) : (putL o l v).length ≤ l.length + 1 := by
  cases o with
  | none => simp [putL]
  | some j => simp [putL]
theorem addL_len {α β : Type} (o : Option Nat) (l : List α) (v : α) (l2 : List β) (v2 : β) (h : l.length = l2.length) : (addL o l v).length = (putL o l2 v2).length := by
  cases o with
  | none => simp [addL, putL, h]
  | some j => simp [addL, putL, h]
/-! int keys -/
theorem ixD_ik (is : List Int) (i : Int) : ixD (is.map D.int) (.num i) = is.findIdx? fun x => decide (x = i) := by
  unfold ixD
  rw [List.findIdx?_map]
  congr 1
  funext x
  simp [nkD, Function.comp_def]
theorem any_ix {α : Type} (f : α → Bool) (xs : List α) : xs.any f = (xs.findIdx? f).isSome := by
  rw [List.findIdx?_isSome]
theorem findIx_zip {is : List Int} {vs : List V} (hl : is.length = vs.length) (i : Int) : ((is.map (Sum.inl : Int → Key)).zip vs).findIdx? (fun kv => decide (kv.1 = Sum.inl i)) = is.findIdx? fun x => decide (x = i) := by
  induction is generalizing vs with
  | nil => cases vs with
    | nil => rfl
    | cons v vs => simp at hl
  | cons x is ih => cases vs with
    | nil => simp at hl
    | cons v vs =>
      rw [List.map_cons, List.zip_cons_cons, List.findIdx?_cons, List.findIdx?_cons, ih (by simpa using hl)]
      simp
theorem valV_zip {is : List Int} {vs : List V} (hl : is.length = vs.length) (i : Int) : valV ((is.map (Sum.inl : Int → Key)).zip vs) (.inl i) = (is.findIdx? fun x => decide (x = i)).bind fun j => vs[j]? := by
  unfold valV
  rw [find_ix, findIx_zip hl]
  cases h : is.findIdx? fun x => decide (x = i) with
  | none => rfl
  | some j =>
    show Option.map _ _ = vs[j]?
    obtain ⟨x, h1, _⟩ := findIx_lt h
    have hj : j < is.length := (List.getElem?_eq_some_iff.mp h1).1
    show Option.map (·.2) (((is.map (Sum.inl : Int → Key)).zip vs)[j]?) = _
    rw [List.getElem?_eq_getElem (by simp; omega), List.getElem?_eq_getElem (by omega)]
    simp
theorem putK_zip {is : List Int} {vs : List V} (hn : is.Nodup) (hl : is.length = vs.length) (i : Int) (v : V) : putK ((is.map (Sum.inl : Int → Key)).zip vs) (.inl i) v = ((addL (is.findIdx? fun x => decide (x = i)) is i).map (Sum.inl : Int → Key)).zip (putL (is.findIdx? fun x => decide (x = i)) vs v) := by
  cases h : is.findIdx? fun x => decide (x = i) with
  | none =>
    have e : valV ((is.map (Sum.inl : Int → Key)).zip vs) (.inl i) = none := by rw [valV_zip hl, h]; rfl
    rw [putK_new v e]
    simp only [addL, putL]
    rw [List.map_append, List.zip_append (by simpa using hl)]
    rfl
  | some j =>
    obtain ⟨x, h1, h2⟩ := findIx_lt h
    have h2 : x = i := of_decide_eq_true h2
    subst h2
    have hj : j < is.length := (List.getElem?_eq_some_iff.mp h1).1
    unfold putK
    rw [any_ix, findIx_zip hl, h]
    simp only [Option.isSome_some, if_true, addL, putL]
    apply List.ext_getElem?
    intro m
    rw [List.getElem?_map]
    by_cases hm : m < is.length
    · rw [List.getElem?_eq_getElem (by simp; omega), List.getElem?_eq_getElem (by simp; omega)]
      by_cases q : m = j
      · subst q
        have : is[m] = x := by rw [List.getElem?_eq_getElem hm] at h1; exact Option.some.inj h1
        simp [this]
      · have ne : is[m] ≠ x := fun e => q ((List.getElem?_inj hm hn).mp (by rw [h1, List.getElem?_eq_getElem hm, e]))
        simp [ne, Ne.symm q]
    · rw [List.getElem?_eq_none (by simp; omega), List.getElem?_eq_none (by simp; omega)]; rfl
end Ab

namespace Ab
open PySem PySem.Spec PyProof.Rows L2
/-! ### a told dict opened -/
def dicOf : D → Option (Bool × List D × List D)
  | .fdi n ks vs => some (n, ks, vs)
  | .mdi n ks vs => some (n, ks, vs)
  | _ => none
section
variable {K : Fw} {G H H' : Hp} {v : V} {d : D} {L : List Addr} {n : Bool} {ks ds : List D}
theorem dicOf_al {A : Sl} {d : D} {r : Bool × List D × List D} (h : dicOf (see A d) = some r) : ∀ j, see A d ≠ .al j := fun j e => by rw [e] at h; cases h
theorem R.dic (g : Same G H) (r : R K G H v d L) (h : dicOf d = some (n, ks, ds)) : ∃ p o kv ws L', v = .ref p ∧ H p = some o ∧ DicO K.w p n o ks kv ws ∧ Rs K G H kv ks [] ∧ Rs K G H ws ds L' ∧ ((d = .fdi n ks ds ∧ L' = []) ∨ d = .mdi n ks ds) := by
  cases r <;> simp only [dicOf] at h <;> try cases h
  · rename_i q k o r; exact ⟨_, _, _, _, [], rfl, g _ _ q, o, k, r, .inl ⟨rfl, rfl⟩⟩
  · rename_i e n k o r; exact ⟨_, _, _, _, _, rfl, e, o, k, r, .inr rfl⟩
theorem Rs.at {vs : List V} {ds : List D} (r : Rs K G H vs ds []) {i : Nat} {v : V} (h : vs[i]? = some v) : ∃ d, ds[i]? = some d ∧ R K G H v d [] := by
  obtain ⟨d, Li, h1, h2, h3⟩ := r.get h
  rw [List.sublist_nil.mp h3] at h2
  exact ⟨d, h1, h2⟩
/-- tuple keys -/
theorem DicO.nds {p : Addr} {o : HO} {kv ws : List V} (g : Same G H) (hp : H p = some o) (rk : Rs K G H kv ks []) (h : DicO K.w p true o ks kv ws) : ∃ xs, (∃ ep, o = ndHO K.w p ep xs) ∧ NdAt K.w H p xs ∧ kv = xs.map (fun x => V.ref x.2.1) ∧ Vals ws (xs.map (·.2.2)) ∧ ks.map nkD = xs.map (fun x => some x.1) := by
  cases h with
  | nd hs hl hn hd hv hk =>
    rename_i xs
    refine ⟨xs, ⟨_, rfl⟩, ⟨⟨_, hp⟩, hs, hl, hn, fun x hx => ⟨hd x hx, ?_⟩⟩, rfl, hv, hk⟩
    obtain ⟨i, hi⟩ := List.mem_iff_getElem?.mp hx
    obtain ⟨d, h1, h2⟩ := rk.at (i := i) (v := .ref x.2.1) (by rw [List.getElem?_map, hi]; rfl)
    have : (ks.map nkD)[i]? = some (some x.1) := by rw [hk, List.getElem?_map, hi]; rfl
    rw [List.getElem?_map, h1] at this
    exact h2.nk g (Option.some.inj this)
theorem DicO.iks {p : Addr} {o : HO} {kv ws : List V} (h : DicO K.w p false o ks kv ws) : ∃ is : List Int, o = .dK ((is.map Sum.inl).zip ws) ∧ ks = is.map D.int ∧ kv = is.map V.int ∧ is.Nodup ∧ is.length = ws.length := by
  cases h with
  | ik hn hl => exact ⟨_, rfl, rfl, rfl, hn, hl⟩
theorem keyOk_nd {d : D} {k : NestedKey} (h : keyOk true d = some k) (g : Same G H) (r : R K G H v d L) : ∃ b, v = .ref b ∧ NkV H (.ref b) k ∧ k.depth ≤ 8 ∧ nkD d = some k := by
  cases d <;> simp only [keyOk] at h <;> try cases h
  rename_i es
  split at h
  · rename_i k' hk
    split at h
    · rename_i hd
      cases h
      have n := r.nk g hk
      cases r with
      | tup q s => exact ⟨_, rfl, n, hd, hk⟩
    · cases h
  · cases h
theorem keyOk_ik {d : D} {k : NestedKey} (h : keyOk false d = some k) (r : R K G H v d L) : ∃ i, d = .int i ∧ v = .int i ∧ k = .num i := by
  cases d <;> simp only [keyOk] at h <;> try cases h
  cases r
  exact ⟨_, rfl, rfl, rfl⟩
end
/-! ### in, not in, an item -/
def gInX (d e : D) (A : Sl) : Option D := match dicOf (see A e) with
  | some (n, ks, _) => match keyOk n (see A d) with
    | some k => some (.bl (ixD ks k).isSome)
    | none => none
  | none => gIn d e A
def gNotInX (d e : D) (A : Sl) : Option D := match dicOf (see A e) with
  | some (n, ks, _) => match keyOk n (see A d) with
    | some k => some (.bl (!(ixD ks k).isSome))
    | none => none
  | none => gNotIn d e A
def gIxX (d e : D) (A : Sl) : Option D := match dicOf (see A d) with
  | some (n, ks, vs) => match keyOk n (see A e) with
    | some k => match ixD ks k with
      | some j => match vs[j]? with
        | some r => if isF r = true then some r else none
        | none => none
      | none => none
    | none => none
  | none => gIx d e A
theorem keyOk_al {A : Sl} {n : Bool} {d : D} {k : NestedKey} (h : keyOk n (see A d) = some k) : ∀ j, see A d ≠ .al j := fun j e => by
  rw [e] at h; cases n <;> simp [keyOk] at h
section
variable {z : Z}
theorem dic_in {σ : L2.St} {A : Sl} {ts : Ts} {H : Hp} {v u : V} {d e : D} {n : Bool} {ks vs : List D} {k : NestedKey} (h : z.A σ A ((u, e) :: (v, d) :: ts) H) (he : dicOf (see A e) = some (n, ks, vs)) (hk : keyOk n (see A d) = some k) :
    (∃ p b xs, u = .ref p ∧ v = .ref b ∧ NdAt z.K.w H p xs ∧ NkV H (.ref b) k ∧ k.depth ≤ 8 ∧ (atKey xs k).isSome = (ixD ks k).isSome) ∨ ∃ p kvs i, u = .ref p ∧ v = kV i ∧ H p = some (.dK kvs) ∧ (valV kvs i).isSome = (ixD ks k).isSome := by
  obtain ⟨G, L, L', gh, r1, r2, f⟩ := h.open2 (dicOf_al he) (keyOk_al hk)
  obtain ⟨p, o, kv, ws, L2, rfl, hp, dc, rk, rv, _⟩ := r1.dic gh he
  cases n with
  | true =>
    obtain ⟨xs, ⟨_, rfl⟩, nd, rfl, hv, hks⟩ := dc.nds gh hp rk
    obtain ⟨b, rfl, nk, hd, _⟩ := keyOk_nd hk gh r2
    refine .inl ⟨p, b, xs, rfl, rfl, nd, nk, hd, ?_⟩
    rw [ixD_nd hks, atKey_ix, Option.isSome_map]
    cases q : xs.findIdx? fun x => decide (x.1 = k) with
    | none => rfl
    | some j =>
      obtain ⟨x, h1, _⟩ := findIx_lt q
      show (xs[j]?).isSome = true
      rw [h1]; rfl
  | false =>
    obtain ⟨is, rfl, rfl, rfl, hn, hl⟩ := dc.iks
    obtain ⟨i, hd, rfl, rfl⟩ := keyOk_ik hk r2
    refine .inr ⟨p, _, .inl i, rfl, rfl, hp, ?_⟩
    rw [ixD_ik, valV_zip hl]
    cases q : is.findIdx? fun x => decide (x = i) with
    | none => rfl
    | some j =>
      obtain ⟨x, h1, _⟩ := findIx_lt q
      have hj : j < is.length := (List.getElem?_eq_some_iff.mp h1).1
      show (ws[j]?).isSome = true
      rw [List.getElem?_eq_getElem (by omega)]; rfl
theorem opd_inX : OpD z (rInX z.K z.K.w) gInX := by
  intro σ A ts H v u d e d' h hg Q q
  unfold gInX at hg
  split at hg
  · rename_i n ks vs he
    split at hg
    · rename_i k hk
      cases hg
      have fin := q _ _ (h.drop.drop.pbl (ixD ks k).isSome)
      rcases dic_in h he hk with ⟨p, b, xs, rfl, rfl, nd, nk, hd, e1⟩ | ⟨p, kvs, i, rfl, rfl, hp, e1⟩
      · exact .inr (.inl ⟨p, b, xs, k, rfl, rfl, nd, nk, hd, by rw [e1]; exact fin⟩)
      · exact .inr (.inr ⟨p, kvs, i, rfl, rfl, hp, by rw [e1]; exact fin⟩)
    · cases hg
  · exact .inl (opd_in σ A ts H v u d e d' h hg Q q)
theorem opd_notInX : OpD z (rNotInX z.K z.K.w) gNotInX := by
  intro σ A ts H v u d e d' h hg Q q
  unfold gNotInX at hg
  split at hg
  · rename_i n ks vs he
    split at hg
    · rename_i k hk
      cases hg
      have fin := q _ _ (h.drop.drop.pbl (!(ixD ks k).isSome))
      rcases dic_in h he hk with ⟨p, b, xs, rfl, rfl, nd, nk, hd, e1⟩ | ⟨p, kvs, i, rfl, rfl, hp, e1⟩
      · exact .inr (.inl ⟨p, b, xs, k, rfl, rfl, nd, nk, hd, by rw [e1]; exact fin⟩)
      · exact .inr (.inr ⟨p, kvs, i, rfl, rfl, hp, by rw [e1]; exact fin⟩)
    · cases hg
  · exact .inl (opd_notIn σ A ts H v u d e d' h hg Q q)
end
/-! an item by a rule of the layer -/
section
variable {X : Cx}
theorem tailX {prog : Program} {w : World} {A : Around} {E : Value → Shared → Prop} {s : Shared} {value slice : Expr} {o i : Value} {T id : String} {Q : Value → Shared → Prop}
    (hl : typeLookup (.type T) "__getitem__" = pure (some (.builtin id))) (hs : subscripted slice false o i = operate [o, i] (getItem o i)) (hT : s.TypeIs o T) (h : wpAny (model prog w) A (getItem o i) Q E s) :
    wpAny (model prog w) A (subscriptTail value slice o i) Q E s := by
  unfold subscriptTail
  refine wpAny_bind ?_
  rw [getitemInPython_of_ne hT.not_modules]
  refine wpAny_bind (wpAny_specialOf hT hl ?_)
  have fin : wpAny (model prog w) A (subscripted slice false o i) (fun r s₃ => wpAny (model prog w) A (letTemporaryGo value o r >>= fun _ => pure r) Q E s₃) E s := by
    rw [hs]
    exact wpAny_operating (wpAny_mono h (fun r s₃ h₃ => wpAny_bind (wpAny_letTemporaryGo (wpAny_pure h₃))) fun _ _ x => x)
  first
    | exact wpAny_pure (wpAny_bind fin)
    | exact wpAny_bind (wpAny_pure (wpAny_bind fin))
    | exact wpAny_bind fin
def rIxN (w : World) : R2 := fun x y H Q => ∃ p b xs k a v r, x = .ref p ∧ y = .ref b ∧ NdAt w H p xs ∧ NkV H (.ref b) k ∧ k.depth ≤ 8 ∧ atKey xs k = some (a, r) ∧ RelV v r ∧ Q v H
def rIxK : R2 := fun x y H Q => ∃ p kvs i v, x = .ref p ∧ y = kV i ∧ H p = some (.dK kvs) ∧ valV kvs i = some v ∧ Q v H
theorem ix_N (hu : X.A.units + 65 < cLine) : IxR X (rIxN X.w) := by
  intro value slice pins s σ H x y v u Q I rx ry ⟨p, b, xs, k, a, w', r, e1, e2, nd, nk, hd, hat, rr, q⟩ hs
  subst e1; subst e2
  cases (show v = Value.ref p from rx)
  cases (show u = Value.ref b from ry)
  have of := nd.of I
  exact tailX PySem.F.slot_dict_getitem.lookup hs of.typeIs (wpAny_getItem_heap (nk_room hu) (nk_is I nk hd) of hat ⟨w', H, I.tok _, rr, q⟩)
theorem ix_K (hu : X.A.units + 65 < cLine) : IxR X rIxK := by
  intro value slice pins s σ H x y v u Q I rx ry ⟨p, kvs, i, w', e1, e2, hp, hat, q⟩ hs
  subst e1; subst e2
  cases (show v = Value.ref p from rx)
  have g : DGet H p (kV i) (some w') := by rw [← hat]; exact DGet.k hp
  exact tailX PySem.F.slot_dict_getitem.lookup hs (dict_typeIs I g) (d_getItem (by omega) I g ry fun w2 s' I' rw' => ⟨w', H, I', rw', q⟩)
def rIxX (K : PySem.W.Frag) (w : World) : R2 := fun x y H Q => rIx K x y H Q ∨ rIxN w x y H Q ∨ rIxK x y H Q
theorem ix_X (hu : X.A.units + 65 < cLine) : IxR X (rIxX X.K X.w) := ix_seq.or ((ix_N hu).or (ix_K hu))
variable {z : Z}
theorem opd_ixX : OpD z (rIxX z.K z.K.w) gIxX := by
  intro σ A ts H v u d e d' h hg Q q
  unfold gIxX at hg
  split at hg
  · rename_i n ks vs he
    split at hg
    · rename_i k hk
      split at hg
      · rename_i j hj
        split at hg
        · rename_i r hr
          split at hg
          · rename_i hf
            cases hg
            obtain ⟨G, L, L', gh, r1, r2, f⟩ := h.open2 (keyOk_al hk) (dicOf_al he)
            obtain ⟨p, o, kv, ws, L2, rfl, hp, dc, rk, rv, _⟩ := r2.dic gh he
            obtain ⟨w', Li, hw, rw', _⟩ := rv.getD hr
            rw [rw'.isF hf] at rw'
            have fin := q _ _ (f.known gh rw')
            cases n with
            | true =>
              obtain ⟨xs, ⟨_, rfl⟩, nd, rfl, hv, hks⟩ := dc.nds gh hp rk
              obtain ⟨b, rfl, nk, hd, _⟩ := keyOk_nd hk gh r1
              rw [ixD_nd hks] at hj
              obtain ⟨x, h1, _⟩ := findIx_lt hj
              obtain ⟨r', hr', rr⟩ := hv.get hw
              rw [List.getElem?_map, h1] at hr'
              cases hr'
              refine .inr (.inl ⟨p, b, xs, k, x.2.1, w', x.2.2, rfl, rfl, nd, nk, hd, ?_, rr, fin⟩)
              rw [atKey_ix, hj]
              show (xs[j]?).map (·.2) = _
              rw [h1]; rfl
            | false =>
              obtain ⟨is, rfl, rfl, rfl, hn, hl⟩ := dc.iks
              obtain ⟨i, hd, rfl, rfl⟩ := keyOk_ik hk r1
              rw [ixD_ik] at hj
              exact .inr (.inr ⟨p, _, .inl i, w', rfl, rfl, hp, by rw [valV_zip hl, hj]; exact hw, fin⟩)
          · cases hg
        · cases hg
      · cases hg
    · cases hg
  · exact .inl (opd_ix σ A ts H v u d e d' h hg Q q)
end
end Ab
end
section
namespace Ab
open PySem PySem.Spec PyProof.Rows L2
/-! ### an owned dict rewritten -/
mutual
theorem nkD_isF : ∀ {d : D} {k : NestedKey}, nkD d = some k → isF d = true
  | .non, _, _ => by simp [isF]
  | .bl b, _, _ => by simp [isF]
  | .int i, _, _ => by simp [isF]
  | .str x, _, _ => by simp [isF]
  | .tup ds, k, h => by
    rw [nkD] at h
    rw [isF]
    cases e : nkDs ds with
    | none => rw [e] at h; cases h
    | some ks => exact nkDs_isFs e
  | .lst _, _, h => by rw [nkD] at h; cases h
  | .mu _, _, h => by rw [nkD] at h; cases h
  | .fro _, _, h => by rw [nkD] at h; cases h
  | .fdi .., _, h => by rw [nkD] at h; cases h
  | .mdi .., _, h => by rw [nkD] at h; cases h
  | .al _, _, h => by rw [nkD] at h; cases h
  | .exc _, _, h => by rw [nkD] at h; cases h
  | .obj .., _, h => by rw [nkD] at h; cases h
  | .ty _, _, h => by rw [nkD] at h; cases h
theorem nkDs_isFs : ∀ {ds : List D} {ks : List NestedKey}, nkDs ds = some ks → isFs ds = true
  | [], _, _ => by simp [isFs]
  | d :: ds, _, h => by
    rw [nkDs] at h
    rw [isFs]
    cases e1 : nkD d with
    | none => rw [e1] at h; cases h
    | some k =>
      cases e2 : nkDs ds with
      | none => rw [e1, e2] at h; cases h
      | some ks => rw [nkD_isF e1, nkDs_isFs e2]; rfl
end
theorem keyOk_isF {n : Bool} {d : D} {k : NestedKey} (h : keyOk n d = some k) : isF d = true := by
  cases n <;> cases d <;> simp only [keyOk] at h <;> try cases h
  · simp [isF]
  · split at h
    · rename_i hk; exact nkD_isF hk
    · cases h
section
variable {K : Fw} {B : Bs} {G H : Hp} {σ : L2.St} {A : Sl} {ts : Ts} {p : Addr} {v y u : V} {o' : HO} {ks ds : List D} {d' e kd : D} {Lt L2 L' : List Addr} {n : Bool}
theorem dmut_core (gd : Gd B G H) (tm : Tms K σ G H ts Lt) (sl : Sls K G H σ A L2) (hp : H p ≠ none) (gp : G p = none) (hL : ∀ a ∈ L', G a = none) (mk : R K G (upd H p o') (.ref p) d' (p :: L')) (nd : (((p :: L') ++ Lt) ++ L2).Nodup) (ow : ∀ a ∈ ((p :: L') ++ Lt) ++ L2, Own B a) :
    Abs K B σ A ((.ref p, d') :: ts) (upd H p o') := by
  have np : p ∉ (L' ++ Lt) ++ L2 := (List.nodup_cons.mp nd).1
  have old : ∀ a ∈ (L' ++ Lt) ++ L2, G a = none := fun a ha => by
    rcases List.mem_append.mp ha with m | m
    · exact (List.mem_append.mp m).elim (hL a) (fun m => (tm.own a m).1)
    · exact (sl.own a m).1
  have keep : ∀ a ∈ (L' ++ Lt) ++ L2, upd H p o' a = H a ∧ G a = none := fun a ha => ⟨upd_ne (fun q => np (by rw [← q]; exact ha)), old a ha⟩
  have ownp : Own B p := ow p List.mem_cons_self
  refine ⟨G, (p :: L') ++ Lt, L2, ⟨fun a o h => ?_, gd.bg, fun a o hx h => ?_, gd.sep, fun a ha => ?_⟩, .cons mk (tm.mono (fun _ _ e => e) fun a ha => keep a (by simp [ha])), sl.mono (fun _ _ e => e) fun a ha => keep a (by simp [ha]), nd, ow⟩
  · have : a ≠ p := fun q => by rw [q, gp] at h; cases h
    rw [upd_ne this]; exact gd.gh a o h
  · have : a ≠ p := fun q => by
      subst q
      rcases ownp with n | n
      · rw [n] at h; cases h
      · exact hx n
    rw [upd_ne this]; exact gd.bh a o hx h
  · by_cases q : a = p
    · rw [q, upd_same]; exact fun z => nomatch z
    · rw [upd_ne q]; exact gd.alive a ha
theorem Rs.addL {us : List V} {ds : List D} {u : V} {d : D} (r : Rs K G H us ds []) (r1 : R K G H u d []) (o : Option Nat) : Rs K G H (Ab.addL o us u) (Ab.addL o ds d) [] := by
  cases o with
  | some j => exact r
  | none => exact (r.app (by simpa using Rs.one r1) : Rs K G H (us ++ [u]) (ds ++ [d]) ([] ++ []))
theorem Rs.putL {us : List V} {ds : List D} {u : V} {d : D} {L Le : List Addr} (r : Rs K G H us ds L) (r1 : R K G H u d Le) (o : Option Nat) (ho : ∀ j, o = some j → j < ds.length) : ∃ M N, Rs K G H (Ab.putL o us u) (Ab.putL o ds d) M ∧ M.Perm (Le ++ N) ∧ N.Sublist L := by
  cases o with
  | some j => exact r.setAt r1 (ho j rfl)
  | none => exact ⟨L ++ Le, L, r.app (by simpa using Rs.one r1), List.perm_append_comm, .refl _⟩
theorem Vals.putL {xs : List V} {us : List Value} {x : V} {u : Value} (r : Vals xs us) (r1 : RelV x u) (o : Option Nat) : Vals (Ab.putL o xs x) (Ab.putL o us u) := by
  cases o with
  | some j => exact r.set r1 j
  | none => exact r.append (.cons r1 .nil)
theorem nodup_addL {α : Type} [DecidableEq α] {l : List α} {k : α} (h : l.Nodup) : (Ab.addL (l.findIdx? fun x => decide (x = k)) l k).Nodup := by
  cases q : l.findIdx? fun x => decide (x = k) with
  | some j => exact h
  | none =>
    simp only [Ab.addL]
    rw [List.findIdx?_eq_none_iff] at q
    exact List.nodup_append.mpr ⟨h, by simp, fun a ha b hb e => by
      rw [List.mem_singleton] at hb
      have := q a ha
      rw [e, hb] at this
      simp at this⟩
theorem nd_addL {xs : List (NestedKey × Addr × Value)} {k : NestedKey} (h : (xs.map (·.1)).Nodup) : (Ab.addL (xs.findIdx? fun x => decide (x.1 = k)) (xs.map (·.1)) k).Nodup := by
  have := nodup_addL (k := k) h
  rw [List.findIdx?_map] at this
  exact this
/-- d[k] = e -/
theorem Abs.dput {k : NestedKey} (h : Abs K B σ A ((u, kd) :: (y, e) :: (v, .mdi n ks ds) :: ts) H) (hk : keyOk n kd = some k) (he : ∀ i, e ≠ .al i) (hl : ks.length < sizeLine) :
    ∃ p, v = .ref p ∧ ((∃ xs b, n = true ∧ xs.length = ks.length ∧ u = .ref b ∧ NdAt K.w H p xs ∧ NkV H (.ref b) k ∧ k.depth ≤ 8 ∧ xs.length < sizeLine ∧ ∀ r ep, RelV y r → Abs K B σ A ((v, .mdi n (addL (ixD ks k) ks kd) (putL (ixD ks k) ds e)) :: ts) (upd H p (ndHO K.w p ep (storedH xs k b r)))) ∨
      ∃ kvs i, n = false ∧ u = kV i ∧ H p = some (.dK kvs) ∧ kvs.length < sizeLine ∧ Abs K B σ A ((v, .mdi n (addL (ixD ks k) ks kd) (putL (ixD ks k) ds e)) :: ts) (upd H p (.dK (putK kvs i y)))) := by
  have hf := keyOk_isF hk
  obtain ⟨G, L1, L2, gd, tm, sl, nd, ow⟩ := h
  cases tm with
  | al _ _ => cases n <;> simp [keyOk] at hk
  | cons r1 tm =>
    cases tm with
    | al _ _ => exact absurd rfl (he _)
    | cons r2 tm =>
      cases tm with
      | cons r3 t =>
        rename_i Lk Le Lp Lt
        have ek := r1.isF hf
        subst ek
        cases r3 with
        | mdi q gp dc rk rv =>
          rename_i p o kv ws L
          have hlen := rv.length
          have hklen := rk.length
          have step : ∀ (o' : HO) (dc' : DicO K.w p n o' (addL (ixD ks k) ks kd) (addL (ixD ks k) kv u) (putL (ixD ks k) ws y)) (hj : ∀ j, ixD ks k = some j → j < ds.length), Abs K B σ A ((.ref p, .mdi n (addL (ixD ks k) ks kd) (putL (ixD ks k) ds e)) :: ts) (upd H p o') := by
            intro o' dc' hj
            obtain ⟨M, N, m1, m2, m3⟩ := rv.putL r2 (ixD ks k) hj
            have pp : ((([] : List Addr) ++ (Le ++ ((p :: L) ++ Lt))) ++ L2).Perm ((((p :: (Le ++ L))) ++ Lt) ++ L2) := by
              refine List.Perm.append_right _ ?_
              rw [List.nil_append, List.cons_append, List.cons_append]
              refine List.perm_middle.trans (List.Perm.cons _ ?_)
              rw [List.append_assoc]
            have sb : (((p :: (Le ++ N)) ++ Lt) ++ L2).Sublist (((p :: (Le ++ L)) ++ Lt) ++ L2) := List.Sublist.append_right (List.Sublist.append_right ((List.Sublist.append_left m3 _).cons₂ p) _) _
            have p2 : (((p :: M) ++ Lt) ++ L2).Perm (((p :: (Le ++ N)) ++ Lt) ++ L2) := List.Perm.append_right _ (List.Perm.append_right _ (List.Perm.cons _ m2))
            have nd' := nodup_perm p2.symm (sb.nodup (nodup_perm pp nd))
            have np : p ∉ M := fun hm => (List.nodup_cons.mp nd').1 (List.mem_append_left _ (List.mem_append_left _ hm))
            have own := m1.own
            refine dmut_core gd t sl (by rw [q]; exact fun z => nomatch z) gp (fun a ha => (own a ha).1) (.mdi upd_same gp dc' ((rk.addL r1 _).mono (fun _ _ e => e) fun _ z => nomatch z) (m1.mono (fun _ _ e => e) fun a ha => ⟨upd_ne (fun e => np (by rw [← e]; exact ha)), (own a ha).1⟩)) nd' fun a ha => ow a ?_
            have := sb.subset (p2.mem_iff.mp ha)
            exact pp.mem_iff.mpr this
          cases n with
          | true =>
            obtain ⟨xs, ⟨_, rfl⟩, nda, rfl, hv, hks⟩ := dc.nds gd.gh q rk
            obtain ⟨b, rfl, nk, hd, hnk⟩ := keyOk_nd hk gd.gh r1
            have hxl : xs.length = ks.length := by have := congrArg List.length hks; simpa using this.symm
            have hvl : ws.length = xs.length := by have := hv.length; simpa using this
            have ix := ixD_nd hks k
            refine ⟨p, rfl, .inl ⟨xs, b, rfl, hxl, rfl, nda, nk, hd, by omega, fun r ep rr => step _ ?_ fun j hj => ?_⟩⟩
            · have e1 : addL (ixD ks k) (xs.map fun x => V.ref x.2.1) (V.ref b) = (storedH xs k b r).map fun x => V.ref x.2.1 := by
                have := storedH_adrs (k := k) (a := b) (v := r) nda.nd
                rw [show (fun x : NestedKey × Addr × Value => V.ref x.2.1) = V.ref ∘ (fun x => x.2.1) from rfl, ← List.map_map, ← List.map_map, this, addL_map, ix]
              rw [e1]
              refine .nd nda.sys ?_ ?_ ?_ ?_ ?_
              · have := congrArg List.length (storedH_keys (k := k) (a := b) (v := r) nda.nd)
                have h2 : (addL (xs.findIdx? fun x => decide (x.1 = k)) (xs.map (·.1)) k).length ≤ xs.length + 1 := by
                  cases xs.findIdx? fun x => decide (x.1 = k) <;> simp [addL]
                simp only [List.length_map] at this
                omega
              · rw [storedH_keys nda.nd]; exact nd_addL nda.nd
              · intro x hx
                rcases storedH_mem nda.nd hx with ⟨h1, _⟩ | ⟨x', hx', h1, _⟩
                · rw [h1]; exact hd
                · rw [← h1]; exact (nda.ks x' hx').1
              · rw [storedH_vals nda.nd, ix]; exact Vals.putL hv rr _
              · have h1 := storedH_keys (k := k) (a := b) (v := r) nda.nd
                rw [addL_map, hks, ix, hnk]
                rw [show (fun x : NestedKey × Addr × Value => some x.1) = some ∘ (fun x => x.1) from rfl, ← List.map_map, ← List.map_map, h1, addL_map]
            · rw [ix] at hj
              obtain ⟨x, h1, _⟩ := findIx_lt hj
              have := (List.getElem?_eq_some_iff.mp h1).1
              omega
          | false =>
            obtain ⟨is, rfl, rfl, rfl, hn, hl2⟩ := dc.iks
            obtain ⟨i, rfl, rfl, rfl⟩ := keyOk_ik hk r1
            refine ⟨p, rfl, .inr ⟨_, .inl i, rfl, rfl, q, by simp at hl ⊢; omega, step _ ?_ fun j hj => ?_⟩⟩
            · rw [putK_zip hn hl2, ixD_ik]
              have e1 : addL (is.findIdx? fun x => decide (x = i)) (is.map D.int) (D.int i) = (addL (is.findIdx? fun x => decide (x = i)) is i).map D.int := (addL_map D.int _ _ _).symm
              have e2 : addL (is.findIdx? fun x => decide (x = i)) (is.map V.int) (V.int i) = (addL (is.findIdx? fun x => decide (x = i)) is i).map V.int := (addL_map V.int _ _ _).symm
              rw [e1, e2]
              exact .ik (nodup_addL hn) (addL_len _ _ _ _ _ hl2)
            · rw [ixD_ik] at hj
              obtain ⟨x, h1, _⟩ := findIx_lt hj
              have := (List.getElem?_eq_some_iff.mp h1).1
              omega
end
/-! ### d[k] = e by the layer -/
def rPutX (w : World) : TSet := fun o i v H Q => (∃ p b xs k, o = .ref p ∧ i = .ref b ∧ NdAt w H p xs ∧ NkV H (.ref b) k ∧ k.depth ≤ 8 ∧ xs.length < sizeLine ∧ ∀ r ep, RelV v r → Q (upd H p (ndHO w p ep (storedH xs k b r)))) ∨
  ∃ p kvs i', o = .ref p ∧ i = kV i' ∧ H p = some (.dK kvs) ∧ kvs.length < sizeLine ∧ Q (upd H p (.dK (putK kvs i' v)))
theorem set_dic {X : Cx} (hu : X.A.units + 65 < cLine) : PSet X (rPutX X.w) := by
  intro pins s σ H o i v ov iv u Q I ro ri ru h
  rcases h with ⟨p, b, xs, k, e1, e2, nd, nk, hd, hl, q⟩ | ⟨p, kvs, i', e1, e2, hp, hl, q⟩
  · subst e1; subst e2
    cases (show ov = Value.ref p from ro)
    cases (show iv = Value.ref b from ri)
    refine wpAny_setItem_heap (hsz := nd.len) (nk_room hu) (nk_is I nk hd) (nd.of I) fun h' dd hs => ?_
    have he : ∃ q, h'.get? p = some q := let ⟨q, _, _, hq, _⟩ := dd; ⟨q, hq⟩
    obtain ⟨ep, ob⟩ := nd_obj dd
    obtain ⟨e0, hep⟩ := nd.hp
    exact ⟨_, d_write I (by rw [hep]; exact True.intro) hs he (ob _), q u ep ru⟩
  · subst e1; subst e2
    cases (show ov = Value.ref p from ro)
    exact d_setItem (by omega) I (DPut.k hp hl) ri ru fun s' I' => ⟨_, I', q⟩
def slotD (i : Nat) (A : Sl) : Option (Bool × List D × List D) := match A[i]? with
  | some (some (.mdi n ks vs)) => some (n, ks, vs)
  | _ => none
theorem slotD_get {i : Nat} {A : Sl} {n : Bool} {ks vs : List D} (h : slotD i A = some (n, ks, vs)) : A[i]? = some (some (.mdi n ks vs)) := by
  unfold slotD at h
  split at h
  · rename_i e; cases h; exact e
  · cases h
def fSetD (i : Nat) (fk fe : FE) : FS := fun A => (fe A).bind fun e A1 => match closeD e A1 with
  | none => .stuck
  | some (e', A2) => match slotD i A2 with
    | none => .stuck
    | some _ => (fk A2).bind fun kd A3 => match slotD i A3 with
      | some (n, ks, ds) => match keyOk n kd with
        | some k => if ks.length < sizeLine then .ok .next (A3.set i (some (.mdi n (addL (ixD ks k) ks kd) (putL (ixD ks k) ds e')))) else .stuck
        | none => .stuck
      | none => .stuck
section
variable {z : Z} {X : Cx} {fk fe : FE}
/-- the owned dict of a slot -/
theorem Abs.slotAlD {K : Fw} {B : Bs} {σ : L2.St} {A : Sl} {ts : Ts} {H : Hp} {i n : _} {ks ds : List D} (h : Abs K B σ A ts H) (e : A[i]? = some (some (.mdi n ks ds))) : ∃ p, σ[i]? = some (some (.ref p)) ∧ Abs K B σ A ((.ref p, .al i) :: ts) H := by
  obtain ⟨v, ev, h1⟩ := h.var e
  have h2 : Abs K B σ A ((v, .al i) :: ts) H := by simpa [isF] using h1
  have this : see A (.al i) = .mdi n ks ds := by simp [see, e]
  obtain ⟨G, L, gh, r, _⟩ := h2.open (d := .al i) (by rw [this]; exact fun j q => nomatch q)
  rw [this] at r
  cases r with
  | mdi q _ _ _ _ => exact ⟨_, ev, h2⟩
theorem setD_go {i : Nat} {D : Ends} {σ : L2.St} {H : Hp} (h : tS z (fSetD i fk fe) D σ H) : tAsg (tE z fe) (gSub (tVar i) (tE z fk) (rPutX z.K.w)) D σ H := by
  obtain ⟨A, ts, hA, c, hp⟩ := h
  refine ⟨A, ts, hA, ?_⟩
  unfold fSetD at hp
  cases ea : fe A with
  | stuck => rw [ea] at hp; exact (pS_stuck hp).elim
  | exc c A1 => rw [ea] at hp; exact fun H' h' => hp σ H' h'
  | ok e A1 =>
    rw [ea] at hp
    simp only [Ou.bind_ok] at hp
    intro y H1 h1
    split at hp
    · exact (pS_stuck hp).elim
    · rename_i e' A2 ec
      obtain ⟨h2, n2⟩ := h1.closeD ec
      split at hp
      · exact (pS_stuck hp).elim
      · rename_i q0 e0
        obtain ⟨n0, ks0, ds0⟩ := q0
        obtain ⟨p0, ev, h3⟩ := h2.slotAlD (slotD_get e0)
        refine ⟨.ref p0, ev, A2, (.ref p0, .al i) :: (y, e') :: ts, h3, ?_⟩
        cases ek : fk A2 with
        | stuck => rw [ek] at hp; exact (pS_stuck hp).elim
        | exc c A3 => rw [ek] at hp; exact fun H' h' => hp σ H' h'.drop.drop
        | ok kd A3 =>
          rw [ek] at hp
          simp only [Ou.bind_ok] at hp
          intro u H3 h4
          split at hp
          · rename_i n ks ds es
            split at hp
            · rename_i k hk
              split at hp
              · rename_i hl
                have h5 : z.A σ A3 ((.ref p0, .al i) :: (u, kd) :: (y, e') :: ts) H3 := h4.perm (List.Perm.swap _ _ _)
                have h6 := h5.move (slotD_get es)
                have h7 : z.A σ (A3.set i none) ((u, kd) :: (y, e') :: (.ref p0, .mdi n ks ds) :: ts) H3 := h6.perm ((List.Perm.swap _ _ _).trans (List.Perm.cons _ (List.Perm.swap _ _ _)))
                obtain ⟨p, ep, hq⟩ := h7.dput hk n2 hl
                cases ep
                have back : ∀ H5, z.A σ (A3.set i none) ((.ref p0, .mdi n (addL (ixD ks k) ks kd) (putL (ixD ks k) ds e')) :: ts) H5 → D.nx σ H5 := fun H5 h8 => by
                  have h9 := h8.put (fun j q => nomatch q) (set_none_get (slotD_get es)) ev
                  rw [List.set_set] at h9
                  exact hp σ _ h9
                rcases hq with ⟨xs, b, _, _, rfl, nd, nk, hd, hl2, q⟩ | ⟨kvs, i', _, rfl, hp2, hl2, q⟩
                · exact .inl ⟨p0, b, xs, k, rfl, rfl, nd, nk, hd, hl2, fun r ep rr => back _ (q r ep rr)⟩
                · exact .inr ⟨p0, kvs, i', rfl, rfl, hp2, hl2, back _ q⟩
              · exact (pS_stuck hp).elim
            · exact (pS_stuck hp).elim
          · exact (pS_stuck hp).elim
theorem qs_setD {i : Nat} {o k e : Expr} {p pos : Pos} (hu : X.A.units + 65 < cLine) (hW : X.w = z.K.w) (ho : PE X o (tVar i)) (hk : PE X k (tE z fk)) (he : PE X e (tE z fe))
    (ha : ∀ v, assign (.Subscript o k p) X.env v = (do
      let ov ← holding [v] (eval o X.env)
      let iv ← holding [v, ov] (eval k X.env)
      standAt p
      holding [v, ov, iv] (setItem ov iv v)
      release [v, ov, iv] []) := by intro _; rfl)
    (hs : swapsWithSole [.Subscript o k p] e pos.line X.env = pure false := by rfl) (hw : swappedStores [.Subscript o k p] e X.env = pure none := by rfl)
    (h1 : (assignEach [.Subscript o k p] X.env).map (·.2) = [assign (.Subscript o k p) X.env] := by rfl) : PS X (.Assign [.Subscript o k p] e pos) (tS z (fSetD i fk fe)) :=
  PS.imp (ps_asg he (pg_sub ho hk (set_dic hu) ha) hs hw h1) fun _ _ _ h => by rw [hW]; exact setD_go h
/-! ### {} -/
def fDic0 (n : Bool) : FE := fun A => .ok (.mdi n [] []) A
theorem dic0_put {K : Fw} {B : Bs} {σ : L2.St} {A : Sl} {ts : Ts} {H : Hp} {p : Addr} {n : Bool} {o : HO} (h : Abs K B σ A ts H) (hp : H p = none) (dc : DicO K.w p n o [] [] []) : Abs K B σ A ((.ref p, .mdi n [] []) :: ts) (upd H p o) := by
  obtain ⟨G, g, f⟩ := h.fin
  exact f _ _ _ G [p] (same_new hp) (fun _ _ e => e) (g.trans (same_new hp)) (fun _ _ hn => hn) (.mdi upd_same (gp_none g hp) dc .nil .nil) (by simp) fun a ha => by rw [List.mem_singleton.mp ha]; exact hp
theorem qe_dic0K {pos : Pos} : PE X (.Dict [] [] pos) (tE z (fDic0 false)) := PE.imp pe_dnewK fun σ H Q ⟨A, ts, hA, hp⟩ p hn => hp _ _ (dic0_put hA hn (.ik (is := []) (vs := []) List.nodup_nil rfl))
def tDNewN (w : World) : TE := fun _ H Q => ∀ p, H p = none → (p == sysModules) = false → ∀ ep, Q (.ref p) (upd H p (ndHO w p ep []))
theorem pe_dnewN {pos : Pos} : PE X (.Dict [] [] pos) (tDNewN X.w) := ⟨fun pins s σ H Q I h => by
  obtain ⟨ep, ob⟩ := nd_obj (P := X.prog) (w := X.w) (Heap.DictOfH.new (knd := nestedKind X.prog X.w) s.heap)
  exact wpAny_Dict_empty ⟨.ref s.heap.objs.size, _, I.laid (a := s.heap.objs.size) (o := ndHO X.w s.heap.objs.size ep []) (t' := s.toks) (fun _ _ q => Heap.get?_push_of_some _ q) (Nat.le_refl _) (ob _), rfl, h _ (I.hok.fresh (Nat.le_refl _)) (beq_eq_false_iff_ne.mpr (Ne.symm (Nat.ne_of_lt I.big))) ep⟩⟩
theorem qe_dic0N {pos : Pos} (hW : X.w = z.K.w) : PE X (.Dict [] [] pos) (tE z (fDic0 true)) := PE.imp pe_dnewN fun σ H Q ⟨A, ts, hA, hp⟩ p hn hs ep => hp _ _ (dic0_put hA hn (by rw [hW]; exact .nd (xs := []) hs (Nat.zero_le _) List.nodup_nil (fun _ z => nomatch z) .nil rfl))
end
end Ab
end
section
namespace Ab
open PySem PySem.Spec PyProof.Rows L2
/-! ### {k: v} -/
def tDisp1N (w : World) (tk tv : TE) : TE := fun σ H Q => ∀ p, H p = none → (p == sysModules) = false → ∀ ep0, tk σ (upd H p (ndHO w p ep0 [])) fun x H1 => tv σ H1 fun y H2 => ∃ b k, x = .ref b ∧ NdAt w H2 p [] ∧ NkV H2 (.ref b) k ∧ k.depth ≤ 8 ∧ ∀ r ep, RelV y r → Q (.ref p) (upd H2 p (ndHO w p ep (storedH [] k b r)))
section
variable {prog : Program} {w : World} {K : Type} [DecidableEq K] {knd : HeapKind prog w K} {A : Around} {E : Value → Shared → Prop} {s : Shared}
theorem wpAny_Dict_x {env : Env} {keys : List (Option Expr)} {values : List Expr} {pos : Pos} {pairs : List (Sem Value × Sem Value)} {Q : Value → Shared → Prop} (hu : knd.room A)
    (hshape : (evalEachOpt keys env).zip ((evalEach values env).map fun v => do let x ← v; standAt pos; pure x) = pairs.map fun p => (some p.1, p.2)) (h0 : pairs ≠ []) (hlen : pairs.length ≤ 15)
    (h : wpAny (model prog w) A (evalPairs pairs) (fun vs s₁ => ∃ ps, CarriesH knd s₁.heap vs ps ∧ s₁.heap.DictOfH knd s.heap.objs.size [] ∧
      ∀ h' tk, h'.DictOfH knd s.heap.objs.size (storedAllH [] ps) → Heap.SameBut s.heap.objs.size s₁.heap h' → Q (.ref s.heap.objs.size) { s₁ with heap := h', toks := tk }) E
      { s with heap := s.heap.push { cls := .type "dict", data := .dict #[] } }) :
    wpAny (model prog w) A (eval (.Dict keys values pos) env) Q E s := by
  rw [arm_eval_Dict, hshape, dictDisplay_pairs pairs h0 (by omega)]
  exact wpAny_bind (wpAny_standAt (wpAny_bind (wpAny_subDictH (knd := knd) (Q := fun d s' => wpAny (model prog w) A (pure (Value.ref d)) Q E s') hu hlen
    (wpAny_mono h (fun vs s₁ h₁ => by obtain ⟨ps, hc, hm, hq⟩ := h₁; exact ⟨ps, hc, hm, fun h' tk a b => wpAny_pure (hq h' tk a b)⟩) fun _ _ e => e))))
end
section
variable {X : Cx}
theorem pe_disp1N {k v : Expr} {pos : Pos} {tk tv : TE} (hu : X.A.units + 65 < cLine) (hk : PE X k tk) (hv : PE X v tv) : PE X (.Dict [some k] [v] pos) (tDisp1N X.w tk tv) := by
  refine ⟨fun pins s σ H Q I q => ?_⟩
  have hn := I.hok.fresh (Nat.le_refl s.heap.objs.size)
  have hs : (s.heap.objs.size == sysModules) = false := beq_eq_false_iff_ne.mpr (Ne.symm (Nat.ne_of_lt I.big))
  obtain ⟨ep0, ob0⟩ := nd_obj (P := X.prog) (w := X.w) (Heap.DictOfH.new (knd := nestedKind X.prog X.w) s.heap)
  have I1 := I.laid (a := s.heap.objs.size) (o := ndHO X.w s.heap.objs.size ep0 []) (h' := s.heap.push { cls := .type "dict", data := .dict #[] }) (t' := s.toks) (fun _ _ q => Heap.get?_push_of_some _ q) (Nat.le_refl _) (ob0 _)
  refine wpAny_Dict_x (knd := nestedKind X.prog X.w) (pairs := pairTrees [some k] [v] X.env pos) (by show X.A.units + 8 < cLine; omega) (zip_pairTrees _ _ _ _ rfl rfl) (fun z => nomatch z) (by show 1 ≤ 15; decide) ?_
  refine pairTrees_cons_walk (thn (hk.run pins _ σ _ _ I1 (q _ hn hs ep0)) fun u s1 ⟨x, H1, I2, rx, q1⟩ => thn (hv.run pins s1 σ H1 _ I2 q1) fun w2 s2 ⟨y, H2, I3, ry, b, kk, e1, nd, nk, hd, q2⟩ => pairTrees_nil_walk ?_)
  subst e1
  cases (show u = Value.ref b from rx)
  have of := nd.of I3
  refine ⟨[(kk, b, w2)], ⟨rfl, rfl, nk_is I3 nk hd, True.intro⟩, of, fun h' tk' dd hs' => ?_⟩
  have he : ∃ q, h'.get? s.heap.objs.size = some q := let ⟨q, _, _, hq, _⟩ := dd; ⟨q, hq⟩
  obtain ⟨ep, ob⟩ := nd_obj (P := X.prog) (xs := storedH [] kk b w2) dd
  obtain ⟨e0, hep⟩ := nd.hp
  exact ⟨.ref s.heap.objs.size, _, d_write I3 (by rw [hep]; exact True.intro) hs' he (ob _), rfl, q2 w2 ep ry⟩
end
/-- {k: e} -/
def fDic1 (n : Bool) (fk fe : FE) : FE := fun A => (fk A).bind fun kd A1 => match keyOk n kd with
  | none => .stuck
  | some k => (fe A1).bind fun e A2 => match closeD e A2 with
    | some (e', A3) => .ok (.mdi n (addL (ixD [] k) [] kd) (putL (ixD [] k) [] e')) A3
    | none => .stuck
section
variable {z : Z} {X : Cx} {fk fe : FE}
theorem Abs.sw3 {K : Fw} {B : Bs} {σ : L2.St} {A : Sl} {ts : Ts} {H : Hp} {a b c : V × D} (h : Abs K B σ A (a :: b :: c :: ts) H) : Abs K B σ A (b :: a :: c :: ts) H := h.perm (List.Perm.swap _ _ _)
theorem qe_dic1N {k e : Expr} {pos : Pos} (hu : X.A.units + 65 < cLine) (hW : X.w = z.K.w) (hk : PE X k (tE z fk)) (he : PE X e (tE z fe)) : PE X (.Dict [some k] [e] pos) (tE z (fDic1 true fk fe)) := by
  refine PE.imp (pe_disp1N hu hk he) fun σ H Q ⟨A, ts, hA, hp⟩ p hn hs ep0 => ?_
  have h0 : z.A σ A ((.ref p, .mdi true [] []) :: ts) (upd H p (ndHO X.w p ep0 [])) := dic0_put hA hn (by rw [hW]; exact .nd (xs := []) hs (Nat.zero_le _) List.nodup_nil (fun _ z => nomatch z) .nil rfl)
  refine ⟨A, _, h0, ?_⟩
  unfold fDic1 at hp
  cases ek : fk A with
  | stuck => rw [ek] at hp; exact (show False from hp).elim
  | exc c A1 => rw [ek] at hp; exact fun H' h' => hp H' h'.drop
  | ok kd A1 =>
    rw [ek] at hp
    simp only [Ou.bind_ok] at hp
    intro u H1 h1
    split at hp
    · exact (show False from hp).elim
    · rename_i kk hkk
      refine ⟨A1, _, h1, ?_⟩
      cases ee : fe A1 with
      | stuck => rw [ee] at hp; exact (show False from hp).elim
      | exc c A2 => rw [ee] at hp; exact fun H' h' => hp H' h'.drop.drop
      | ok e A2 =>
        rw [ee] at hp
        simp only [Ou.bind_ok] at hp
        intro y H2 h2
        split at hp
        · rename_i e' A3 ec
          obtain ⟨h3, n3⟩ := h2.closeD ec
          obtain ⟨p2, ep, hq⟩ := h3.sw3.dput hkk n3 (by rw [sizeLine_eq]; decide)
          cases ep
          rcases hq with ⟨xs, b, _, hx, rfl, nd, nk, hd, hl2, q⟩ | ⟨kvs, i', e0, _⟩
          · have hx : xs = [] := List.length_eq_zero_iff.mp hx
            subst hx
            exact ⟨b, kk, rfl, by rw [hW]; exact nd, nk, hd, fun r ep rr => hp _ _ (by rw [hW]; exact q r ep rr)⟩
          · cases e0
        · exact (show False from hp).elim
theorem qe_dic1K {k e : Expr} {pos : Pos} (hk : PE X k (tE z fk)) (he : PE X e (tE z fe)) : PE X (.Dict [some k] [e] pos) (tE z (fDic1 false fk fe)) := by
  refine PE.imp (pe_disp (pps_cons hk he pps_nil) rfl rfl (fun q => nomatch q) (by show 1 ≤ 15; decide)) fun σ H Q ⟨A, ts, hA, hp⟩ p hn => ?_
  have h0 : z.A σ A ((.ref p, .mdi false [] []) :: ts) (upd H p (.dK [])) := dic0_put hA hn (.ik (is := []) (vs := []) List.nodup_nil rfl)
  refine ⟨A, _, h0, ?_⟩
  unfold fDic1 at hp
  cases ek : fk A with
  | stuck => rw [ek] at hp; exact (show False from hp).elim
  | exc c A1 => rw [ek] at hp; exact fun H' h' => hp H' h'.drop
  | ok kd A1 =>
    rw [ek] at hp
    simp only [Ou.bind_ok] at hp
    intro u H1 h1
    split at hp
    · exact (show False from hp).elim
    · rename_i kk hkk
      refine ⟨A1, _, h1, ?_⟩
      cases ee : fe A1 with
      | stuck => rw [ee] at hp; exact (show False from hp).elim
      | exc c A2 => rw [ee] at hp; exact fun H' h' => hp H' h'.drop.drop
      | ok e A2 =>
        rw [ee] at hp
        simp only [Ou.bind_ok] at hp
        intro y H2 h2
        split at hp
        · rename_i e' A3 ec
          obtain ⟨h3, n3⟩ := h2.closeD ec
          have h4 := h3.sw3
          obtain ⟨p2, ep, hq⟩ := h4.dput hkk n3 (by rw [sizeLine_eq]; decide)
          cases ep
          rcases hq with ⟨xs, b, e0, _⟩ | ⟨kvs, i', _, rfl, hp2, hl2, q⟩
          · cases e0
          · have hkv : kvs = [] := by
              obtain ⟨G, L1, L2, gd, tm, sl, _, _⟩ := id h4
              cases tm with
              | al _ _ => simp [keyOk] at hkk
              | cons r1 tm =>
                cases tm with
                | al _ _ => exact absurd rfl (n3 _)
                | cons r2 tm =>
                  cases tm with
                  | cons r3 t =>
                    cases r3 with
                    | mdi q0 gp dc rk rv =>
                      obtain ⟨is, e1, e2, e3, _, e4⟩ := dc.iks
                      have e5 : is = [] := by cases is with
                        | nil => rfl
                        | cons a b => simp at e2
                      have e6 := q0.symm.trans hp2
                      rw [e1, e5] at e6
                      have e7 := Option.some.inj e6
                      simp at e7
                      exact e7
            subst hkv
            exact ⟨hp2, [(i', y)], rfl, (by show 1 ≤ 15; decide), hp _ _ q⟩
        · exact (show False from hp).elim
end
end Ab
end
section
namespace Ab
open PySem PySem.Spec PyProof.Rows L2
/- hash values that lean on no text -/
mutual
def nkH : NestedKey → Option Int
  | .none => some (reduceHash 0xFCA86420)
  | .num i => some (hashInt i)
  | .text _ => none
  | .tup ks => (nkHs ks).map fun hs => reduceHash (Builtin.Tuple.tupleHashOf hs)
def nkHs : List NestedKey → Option (List Int)
  | [] => some []
  | k :: ks => match nkH k, nkHs ks with
    | some h, some hs => some (h :: hs)
    | _, _ => none
end
mutual
theorem nkH_hash (w : World) : ∀ {k : NestedKey} {i : Int}, nkH k = some i → NestedKey.hash w k = i
  | .none, _, h => by rw [nkH] at h; cases h; rw [NestedKey.hash]
  | .num i, _, h => by rw [nkH] at h; cases h; rw [NestedKey.hash]
  | .text _, _, h => by rw [nkH] at h; cases h
  | .tup ks, _, h => by
    rw [nkH] at h
    cases e : nkHs ks with
    | none => rw [e] at h; cases h
    | some hs => rw [e] at h; cases h; rw [NestedKey.hash, nkHs_hash w e]
theorem nkHs_hash (w : World) : ∀ {ks : List NestedKey} {hs : List Int}, nkHs ks = some hs → NestedKey.hashes w ks = hs
  | [], _, h => by rw [nkHs] at h; cases h; rw [NestedKey.hashes]
  | k :: ks, _, h => by
    rw [nkHs] at h
    cases e1 : nkH k with
    | none => rw [e1] at h; cases h
    | some a =>
      cases e2 : nkHs ks with
      | none => rw [e1, e2] at h; cases h
      | some b => rw [e1, e2] at h; cases h; rw [NestedKey.hashes, nkH_hash w e1, nkHs_hash w e2]
end
def hashesD : List D → Option (List Int)
  | [] => some []
  | d :: ds => match (nkD d).bind nkH, hashesD ds with
    | some h, some hs => some (h :: hs)
    | _, _ => none
def hashOk (ks : List D) : Bool := match hashesD ks with
  | some hs => decide hs.Nodup
  | none => false
theorem hashes_of {w : World} : ∀ {ks : List D} {xs : List (NestedKey × Addr × Value)} {hs : List Int}, ks.map nkD = xs.map (fun x => some x.1) → hashesD ks = some hs → xs.map (fun x => NestedKey.hash w x.1) = hs
  | [], [], _, _, h => by cases h; rfl
  | [], _ :: _, _, e, _ => by simp at e
  | _ :: _, [], _, e, _ => by simp at e
  | d :: ds, x :: xs, _, e, h => by
    rw [List.map_cons, List.map_cons] at e
    injection e with e1 e2
    unfold hashesD at h
    rw [e1] at h
    cases q : nkH x.1 with
    | none => simp only [Option.bind_some, q] at h; cases h
    | some a =>
      cases q2 : hashesD ds with
      | none => simp only [Option.bind_some, q, q2] at h; cases h
      | some b =>
        simp only [Option.bind_some, q, q2] at h
        cases h
        rw [List.map_cons, nkH_hash w q, hashes_of e2 q2]
theorem hashOk_of {w : World} {ks : List D} {xs : List (NestedKey × Addr × Value)} (e : ks.map nkD = xs.map (fun x => some x.1)) (h : hashOk ks = true) : (xs.map fun x => NestedKey.hash w x.1).Nodup := by
  unfold hashOk at h
  split at h
  · rename_i hs hq
    rw [hashes_of e hq]; exact of_decide_eq_true h
  · cases h
/-! ### dict(d) -/
section
variable {prog : Program} {w : World} {K : Type} [DecidableEq K] {knd : HeapKind prog w K} {A : Around} {E : Value → Shared → Prop} {s : Shared}
theorem kt_call_dictH (st : knd.Stays) {o : Addr} {more : List (K × Addr × Value)} {Q : Value → Shared → Prop} (hu : knd.room A.in1.in1) (hoS : (o == sysModules) = false) (ho : s.heap.DictOfH knd o more) (hap : (more.map fun x => knd.hash x.1).Nodup) (hsz : more.length ≤ sizeLine)
    (h : ∀ h', h'.DictOfH knd s.heap.objs.size more → Heap.SameBut s.heap.objs.size (s.heap.push { cls := .type "dict", data := .dict #[] }) h' → Q (.ref s.heap.objs.size) { s with heap := h' }) :
    wpAny (model prog w) A (call (.type "dict") [.ref o]) Q E s := by
  refine callType_codes (Q₁ := fun obj s₁ => obj = .ref s.heap.objs.size ∧ s₁ = { s with heap := s.heap.push { cls := .type "dict", data := .dict #[] } }) F.kt_called_dict (F.kt_typeCall_dict_1 _) F.entry_dict_init (kt_code_dict_new _ ⟨rfl, rfl⟩) ?_
  rintro obj s₁ ⟨rfl, rfl⟩
  have hnew : (s.heap.push { cls := .type "dict", data := .dict #[] }).DictOfH knd s.heap.objs.size [] := Heap.DictOfH.new s.heap
  have ho' : (s.heap.push { cls := .type "dict", data := .dict #[] }).DictOfH knd o more := by
    obtain ⟨oo, es, ep, h1, h2, h3, h4, h5, h6⟩ := ho
    exact ⟨oo, es, ep, Heap.get?_push_of_some _ h1, h2, h3, h4, fun x hx => st.stays (fun b o _ _ e _ => Heap.get?_push_of_some _ e) (h5 x hx), h6⟩
  have hn : (more.map (·.1)).Nodup := ho.nodup
  have hdo : s.heap.objs.size ≠ o := by
    obtain ⟨_, _, _, hg, _⟩ := ho
    exact fun e => absurd (Heap.lt_size hg) (by rw [e]; exact Nat.lt_irrefl _)
  refine ⟨hnew.typeIs, F.args_dict_init_2 _ _, ?_⟩
  unfold Builtin.«dict.__init__»
  refine wpAny_bind ?_
  unfold Builtin.Dict.selfAndRest
  refine wpAny_bind (wpAny_notOrdered_dict hnew.typeIs ?_)
  show wpAny _ _ (pure (s.heap.objs.size, [Value.ref o])) _ _ _
  refine wpAny_pure ?_
  show wpAny _ _ (Builtin.Dict.updateFrom "dict.__init__" s.heap.objs.size (.ref o) [] .none) _ _ _
  unfold Builtin.Dict.updateFrom
  refine wpAny_bind (wpAny_typeOf ho'.typeIs ?_)
  rw [if_neg (by decide)]
  refine wpAny_bind ?_
  unfold Builtin.Dict.merge
  refine wpAny_bind ?_
  unfold Builtin.Dict.readDirectly
  refine wpAny_bind (wpAny_isInstance ho'.typeIs isSubtype_dict_dict ?_)
  simp only [Bool.not_true, Bool.false_eq_true, if_false]
  refine wpAny_bind (wpAny_specialOf ho'.typeIs F.slot_dict_iter.lookup (wpAny_pure ?_))
  simp only [beq_self_eq_true, if_true]
  refine wpAny_bind (wpAny_pure ?_)
  refine wpAny_mergeDict_heap (hsz := by simpa using hsz) hu hdo hoS hnew ho' (.inr ⟨keyed_apart st ho', hap⟩) fun h' hd' _ hs' => ?_
  show wpAny _ _ (Builtin.Dict.addKeywords s.heap.objs.size [] >>= _) _ _ _
  rw [storedAllH_nil_of_nodup more hn] at hd'
  exact wpAny_bind (wpAny_pure (wpAny_pure ⟨rfl, h h' hd' hs'⟩))
end
def rDictOf (w : World) : List V → Hp → VK → Prop := fun as H Q => (∃ p xs, as = [.ref p] ∧ NdAt w H p xs ∧ (xs.map fun x => NestedKey.hash w x.1).Nodup ∧ ∀ l, H l = none → (l == sysModules) = false → ∀ ep, Q (.ref l) (upd H l (ndHO w l ep xs))) ∨
  ∃ p kvs, as = [.ref p] ∧ H p = some (.dK kvs) ∧ ∀ l, H l = none → Q (.ref l) (upd H l (.dK kvs))
section
variable {X : Cx}
theorem call_dictOf (hu : X.A.units + 65 < cLine) : CallR X (.type "dict") (rDictOf X.w) := by
  intro pins s σ H xs us Q I r h
  rcases h with ⟨p, es, rfl, nd, hh, q⟩ | ⟨p, kvs, rfl, hp, q⟩
  · obtain ⟨u, rfl, ru⟩ := vals1 r
    cases (show u = Value.ref p from ru)
    have hs : (s.heap.objs.size == sysModules) = false := beq_eq_false_iff_ne.mpr (Ne.symm (Nat.ne_of_lt I.big))
    have hn := I.hok.fresh (Nat.le_refl s.heap.objs.size)
    refine kt_call_dictH nestedKind_stays (by show X.A.units + 1 + 1 + 8 < cLine; omega) nd.sys (nd.of I) hh nd.len fun h' dd hs' => ?_
    obtain ⟨ep, ob⟩ := nd_obj dd
    refine ⟨.ref s.heap.objs.size, _, I.laid (a := s.heap.objs.size) (o := ndHO X.w s.heap.objs.size ep es) (t' := s.toks) (fun b q hq => ?_) (Nat.le_refl _) (ob _), rfl, q _ hn hs ep⟩
    exact (hs'.2 b (Nat.ne_of_lt (Heap.lt_size hq))).trans (Heap.get?_push_of_some _ hq)
  · obtain ⟨u, rfl, ru⟩ := vals1 r
    cases (show u = Value.ref p from ru)
    exact d_copyOf I (.inl hp) fun l s' hn I' => ⟨.ref l, _, I', rfl, q l hn⟩
variable {z : Z}
def gDictOf (ds : List D) (A : Sl) : Option D := match ds with
  | [d] => match dicOf (see A d) with
    | some (n, ks, vs) => if isFs vs = true ∧ (n = false ∨ hashOk ks = true) then some (.mdi n ks vs) else none
    | none => none
  | _ => none
theorem cd_dictOf : CallD z (rDictOf z.K.w) gDictOf := by
  intro σ A ts H vs ds d' hl h hg Q q
  unfold gDictOf at hg
  split at hg
  · rename_i d
    obtain ⟨v, rfl⟩ := call1 hl rfl
    have h : z.A σ A ((v, d) :: ts) H := h
    split at hg
    · rename_i n ks es hd
      split at hg
      · rename_i hf
        cases hg
        obtain ⟨G, L, gh, r, f⟩ := h.open (dicOf_al hd)
        obtain ⟨p, o, kv, ws, L2, rfl, hp, dc, rk, rv, _⟩ := r.dic gh hd
        have e1 := rv.isFs hf.1
        subst e1
        have fin : ∀ l o', H l = none → DicO z.K.w l n o' ks kv ws → Q (.ref l) (upd H l o') := fun l o' hln dc' =>
          q _ _ (f _ _ _ G [l] (same_new hln) (fun _ _ e => e) (gh.trans (same_new hln)) (fun _ _ hn => hn) (.mdi upd_same (gp_none gh hln) dc' (rk.free fun _ _ e => e) (rv.free fun _ _ e => e)) (by simp) fun a ha => by rw [List.mem_singleton.mp ha]; exact hln)
        cases n with
        | true =>
          obtain ⟨xs, ⟨_, rfl⟩, nd, rfl, hv, hks⟩ := dc.nds gh hp rk
          refine .inl ⟨p, xs, rfl, nd, hashOk_of hks (hf.2.resolve_left fun z => nomatch z), fun l hln hs ep => fin l _ hln (.nd hs nd.len nd.nd (fun x hx => (nd.ks x hx).1) hv hks)⟩
        | false =>
          obtain ⟨is, rfl, rfl, rfl, hn, hl2⟩ := dc.iks
          exact .inr ⟨p, _, rfl, hp, fun l hln => fin l _ hln (.ik hn hl2)⟩
      · cases hg
    · cases hg
  · cases hg
/-! ### a method of a tracked dict -/
def TyD (w : World) (x : V) (H : Hp) : Prop := (∃ p xs, x = .ref p ∧ NdAt w H p xs) ∨ ∃ p kvs, x = .ref p ∧ H p = some (.dK kvs)
theorem tyD_is {pins : List (Addr × Obj)} {σ : L2.St} {H : Hp} {s : Shared} {x : V} {v : Value} (I : Inv X pins σ H s) (r : RelV x v) (ty : TyD X.w x H) : s.TypeIs v "dict" ∧ ∀ a, v = .ref a → ∃ ob, s.heap.get? a = some ob ∧ ob.dict = none := by
  have z : ∀ p, (∃ o, s.heap.get? p = some o ∧ o.ExactDict) → s.TypeIs (.ref p) "dict" ∧ ∀ a, Value.ref p = .ref a → ∃ ob, s.heap.get? a = some ob ∧ ob.dict = none := by
    intro p ⟨o, e, ex⟩
    refine ⟨⟨o, e, ex.1⟩, fun a e2 => ?_⟩
    cases e2
    exact ⟨o, e, ex.2.1⟩
  rcases ty with ⟨p, xs, rfl, nd⟩ | ⟨p, kvs, rfl, hp⟩
  · cases (show v = Value.ref p from r)
    obtain ⟨o, _, _, e, ex, _⟩ := nd.of I
    exact z p ⟨o, e, ex⟩
  · cases (show v = Value.ref p from r)
    obtain ⟨_, _, _, _, o, _, _, e, ex, _⟩ := I.hok p _ hp
    exact z p ⟨o, e, ex⟩
def tBD0 (w : World) (r : V → List V → Hp → VK → Prop) (to : TE) : TE := fun σ H Q => to σ H fun x H1 => TyD w x H1 ∧ r x [] H1 Q
def tBD (w : World) (r : V → List V → Hp → VK → Prop) (to : TE) (t : L2.TA) : TE := fun σ H Q => to σ H fun x H1 => TyD w x H1 ∧ t σ H1 fun xs H2 => r x xs H2 Q
variable {o e : Expr} {es : List Expr} {to : TE} {t : L2.TA} {name : Str} {apos cpos : Pos} {id : String} {r : V → List V → Hp → VK → Prop}
theorem pe_bd0 (pa : PlainAttrs "dict") (slot : Slot "dict" name id) (hty : typeOf (.builtin id) = pure (.type "method_descriptor")) (hm : MtR X id r) (ho : PE X o to)
    (hbase : attributeBase o name X.env (eval o X.env) = eval o X.env := by rfl) (hline : (apos.endLine == cpos.line) = true := by rfl) : PE X (.Call (.Attribute o name apos) [] [] cpos) (tBD0 X.w r to) := by
  refine ⟨fun pins s σ H Q I h => ?_⟩
  refine wpAny_Call_method0_late hbase hline (thn (ho.run pins s σ H _ I h) fun v s1 ⟨x, H1, I1, r1, ty, q1⟩ => ?_)
  obtain ⟨h1, h2⟩ := tyD_is I1 r1 ty
  exact ⟨"dict", id, pa, slot, hty, h1, h2, Calls.callWith_builtin rfl (PySem.evalArgs_none (hm pins s1 σ H1 x [] v [] Q I1 r1 .nil q1))⟩
theorem pe_bd (pa : PlainAttrs "dict") (slot : Slot "dict" name id) (hty : typeOf (.builtin id) = pure (.type "method_descriptor")) (hm : MtR X id r) (ho : PE X o to) (ha : PA X (e :: es) t)
    (hbase : attributeBase o name X.env (eval o X.env) = eval o X.env := by rfl)
    (hfew : ((backTo cpos (starEach (e :: es) X.env)).all (fun x => !x.1) && (backToKw cpos (keywordEach [] X.env)).all (fun x => x.1.isSome)
      && decide ((e :: es).length + ([] : List Keyword).length + (if ([] : List Keyword).isEmpty then 0 else 1) < 30)) = true := by rfl)
    (hline : (apos.endLine == cpos.line) = true := by rfl) (hs : starEach (e :: es) X.env = (false, eval e X.env) :: starEach es X.env := by rfl) (hplain : (backTo cpos (starEach es X.env)).any (·.1) = false := by rfl) :
    PE X (.Call (.Attribute o name apos) (e :: es) [] cpos) (tBD X.w r to t) := by
  refine ⟨fun pins s σ H Q I h => ?_⟩
  refine wpAny_Call_method_late hbase hfew hline rfl (thn (ho.run pins s σ H _ I h) fun v s1 ⟨x, H1, I1, r1, ty, q1⟩ => ?_)
  obtain ⟨h1, h2⟩ := tyD_is I1 r1 ty
  refine ⟨"dict", id, pa, slot, hty, h1, h2, ?_⟩
  have hA := ha.run cpos pins s1 σ H1 _ I1 q1
  rw [hs] at hA ⊢
  refine Calls.callWith_builtin (by show (false || (backTo cpos (starEach es X.env)).any (·.1)) = false; rw [hplain] <;> rfl) (Calls.evalArgs_plain ?_)
  exact thn hA fun us s2 ⟨vs, H2, I2, r2, q2⟩ => hm pins s2 σ H2 x vs v us Q I2 r1 r2 q2
end
end Ab
end
section
namespace Ab
open PySem PySem.Spec PyProof.Rows L2
/-! ### a list inside an owned list or dict grows -/
section
variable {K : Fw} {B : Bs} {G H : Hp} {σ : L2.St} {A : Sl} {ts : Ts} {p q : Addr} {ws ws' : List V} {ds es es' : List D} {j : Nat} {L Lt L2 : List Addr} {o : HO}
/-- the inner list at j is replaced: what is rebuilt by `mk` -/
theorem inner_core {dnew : D} (gd : Gd B G H) (t : Tms K σ G H ts Lt) (sl : Sls K G H σ A L2) (hq : H q = some o) (gp : G q = none) {vs : List V} (rs : Rs K G H vs ds L) (nd : (((q :: L) ++ Lt) ++ L2).Nodup) (ow : ∀ a ∈ ((q :: L) ++ Lt) ++ L2, Own B a)
    (hj : ds[j]? = some (.mu es)) (he : isFs es = true) : ∃ p ws, vs[j]? = some (.ref p) ∧ H p = some (.lst ws) ∧ Rs K G H ws es [] ∧ p ≠ q ∧
    ∀ (ws' : List V) (es' : List D), Rs K G (upd H p (.lst ws')) ws' es' [] → (∀ H' M, H' q = some o → Rs K G H' vs (ds.set j (.mu es')) M → R K G H' (.ref q) dnew (q :: M)) → Abs K B σ A ((.ref q, dnew) :: ts) (upd H p (.lst ws')) := by
  obtain ⟨p, ws, Le, N, h1, h2, h3, h4, h5, h6⟩ := rs.pick hj
  have e0 := h4.isFs he
  subst e0
  have pm : L.Perm (p :: N) := by simpa using h5
  have pp : (((q :: L) ++ Lt) ++ L2).Perm (((q :: p :: N) ++ Lt) ++ L2) := List.Perm.append_right _ (List.Perm.append_right _ (List.Perm.cons _ pm))
  have nd2 := nodup_perm pp nd
  have ow2 : ∀ a ∈ ((q :: p :: N) ++ Lt) ++ L2, Own B a := fun a ha => ow a (pp.mem_iff.mpr ha)
  have qn : q ∉ (p :: N ++ Lt) ++ L2 := (List.nodup_cons.mp nd2).1
  have pn : p ∉ (N ++ Lt) ++ L2 := (List.nodup_cons.mp (List.nodup_cons.mp nd2).2).1
  have qp : q ≠ p := fun z => qn (by rw [z]; simp)
  refine ⟨p, ws, h1, h2, h4, Ne.symm qp, fun ws' es' wr mk => ?_⟩
  have old : ∀ a ∈ (N ++ Lt) ++ L2, G a = none := fun a ha => by
    rcases List.mem_append.mp ha with m | m
    · rcases List.mem_append.mp m with m | m
      · exact (rs.own a (pm.mem_iff.mpr (List.mem_cons_of_mem _ m))).1
      · exact (t.own a m).1
    · exact (sl.own a m).1
  have keep : ∀ a ∈ (N ++ Lt) ++ L2, upd H p (.lst ws') a = H a ∧ G a = none := fun a ha => ⟨upd_ne (fun z => pn (by rw [← z]; exact ha)), old a ha⟩
  obtain ⟨M, m1, m2⟩ := h6 (upd H p (.lst ws')) (.mu es') [p] (.mu upd_same h3 wr) fun a ha => keep a (by simp [ha])
  have ownp : Own B p := ow2 p (by simp)
  have pq : (((q :: M) ++ Lt) ++ L2).Perm (((q :: p :: N) ++ Lt) ++ L2) := List.Perm.append_right _ (List.Perm.append_right _ (List.Perm.cons _ (by simpa using m2)))
  refine ⟨G, (q :: M) ++ Lt, L2, ⟨fun a o h => ?_, gd.bg, fun a o hx h => ?_, gd.sep, fun a ha => ?_⟩, .cons (mk _ M ((upd_ne qp).trans hq) m1) (t.mono (fun _ _ e => e) fun a ha => keep a (by simp [ha])), sl.mono (fun _ _ e => e) fun a ha => keep a (by simp [ha]), nodup_perm pq.symm nd2, fun a ha => ow2 a (pq.mem_iff.mp ha)⟩
  · have : a ≠ p := fun z => by rw [z, h3] at h; cases h
    rw [upd_ne this]; exact gd.gh a o h
  · have : a ≠ p := fun z => by
      subst z
      rcases ownp with n | n
      · rw [n] at h; cases h
      · exact hx n
    rw [upd_ne this]; exact gd.bh a o hx h
  · by_cases z : a = p
    · rw [z, upd_same]; exact fun z => nomatch z
    · rw [upd_ne z]; exact gd.alive a ha
theorem Rs.scalApp {G H H' : Hp} {ws : List V} {es : List D} {y : V} {e : D} {L : List Addr} (r : Rs K G H ws es []) (re : R K G H y e L) (hs : isScal e = true) : Rs K G H' (ws ++ [y]) (es ++ [e]) [] := by
  have := (r.free (H' := H') fun _ _ e => e).app (Rs.one (re.scal hs G H'))
  simpa using this
/-- ds[j] of an owned list grows -/
theorem Abs.napp {v y : V} {e : D} (h : Abs K B σ A ((y, e) :: (v, .mu ds) :: ts) H) (hj : ds[j]? = some (.mu es)) (he : isFs es = true) (hs : isScal e = true) :
    ∃ q vs p ws, v = .ref q ∧ H q = some (.lst vs) ∧ vs.length = ds.length ∧ vs[j]? = some (.ref p) ∧ H p = some (.lst ws) ∧ ws.length = es.length ∧ Abs K B σ A ((v, .mu (ds.set j (.mu (es ++ [e])))) :: ts) (upd H p (.lst (ws ++ [y]))) := by
  obtain ⟨G, L1, L2, gd, tm, sl, nd, ow⟩ := h
  cases tm with
  | al _ _ => simp [isScal] at hs
  | cons r1 tm =>
    cases tm with
    | cons r2 t =>
      rename_i Le Lp Lt
      cases r2 with
      | mu hq gp rs =>
        rename_i q vs L
        have sb : (((q :: L) ++ Lt) ++ L2).Sublist ((Le ++ ((q :: L) ++ Lt)) ++ L2) := List.Sublist.append_right (List.sublist_append_right _ _) _
        obtain ⟨p, ws, h1, h2, h3, h4, h5⟩ := inner_core (dnew := .mu (ds.set j (.mu (es ++ [e])))) gd t sl hq gp rs (sb.nodup nd) (fun a ha => ow a (sb.subset ha)) hj he
        exact ⟨q, vs, p, ws, rfl, hq, rs.length, h1, h2, h3.length, h5 _ _ (h3.scalApp r1 hs) fun H' M e1 m => .mu e1 gp m⟩
/-- .. of an owned dict -/
theorem Abs.dapp {n : Bool} {ks : List D} {v y : V} {e : D} (h : Abs K B σ A ((y, e) :: (v, .mdi n ks ds) :: ts) H) (hj : ds[j]? = some (.mu es)) (he : isFs es = true) (hs : isScal e = true) :
    ∃ q vs p ws o kv, v = .ref q ∧ H q = some o ∧ DicO K.w q n o ks kv vs ∧ vs[j]? = some (.ref p) ∧ H p = some (.lst ws) ∧ ws.length = es.length ∧ Abs K B σ A ((v, .mdi n ks (ds.set j (.mu (es ++ [e])))) :: ts) (upd H p (.lst (ws ++ [y]))) := by
  obtain ⟨G, L1, L2, gd, tm, sl, nd, ow⟩ := h
  cases tm with
  | al _ _ => simp [isScal] at hs
  | cons r1 tm =>
    cases tm with
    | cons r2 t =>
      rename_i Le Lp Lt
      cases r2 with
      | mdi hq gp dc rk rs =>
        rename_i q o kv vs L
        have sb : (((q :: L) ++ Lt) ++ L2).Sublist ((Le ++ ((q :: L) ++ Lt)) ++ L2) := List.Sublist.append_right (List.sublist_append_right _ _) _
        obtain ⟨p, ws, h1, h2, h3, h4, h5⟩ := inner_core (dnew := .mdi n ks (ds.set j (.mu (es ++ [e])))) gd t sl hq gp rs (sb.nodup nd) (fun a ha => ow a (sb.subset ha)) hj he
        exact ⟨q, vs, p, ws, o, kv, rfl, hq, dc, h1, h2, h3.length, h5 _ _ (h3.scalApp r1 hs) fun H' M e1 m => .mdi e1 gp dc (rk.free fun _ _ e => e) m⟩
end
theorem Abs.dapp2 {K : Fw} {B : Bs} {H : Hp} {σ : L2.St} {A : Sl} {ts : Ts} {ds es : List D} {j : Nat} {ks : List D} {v y : V} {e : D} (h : Abs K B σ A ((y, e) :: (v, .mdi true ks ds) :: ts) H) (hj : ds[j]? = some (.mu es)) (he : isFs es = true) (hs : isScal e = true) :
    ∃ q vs p ws, v = .ref q ∧ (∃ xs, NdAt K.w H q xs ∧ Vals vs (xs.map (·.2.2)) ∧ ks.map nkD = xs.map fun x => some x.1) ∧ vs[j]? = some (.ref p) ∧ H p = some (.lst ws) ∧ ws.length = es.length ∧ Abs K B σ A ((v, .mdi true ks (ds.set j (.mu (es ++ [e])))) :: ts) (upd H p (.lst (ws ++ [y]))) := by
  obtain ⟨G, L1, L2, gd, tm, sl, nd, ow⟩ := h
  cases tm with
  | al _ _ => simp [isScal] at hs
  | cons r1 tm =>
    cases tm with
    | cons r2 t =>
      rename_i Le Lp Lt
      cases r2 with
      | mdi hq gp dc rk rs =>
        rename_i q o kv vs L
        have sb : (((q :: L) ++ Lt) ++ L2).Sublist ((Le ++ ((q :: L) ++ Lt)) ++ L2) := List.Sublist.append_right (List.sublist_append_right _ _) _
        obtain ⟨p, ws, h1, h2, h3, h4, h5⟩ := inner_core (dnew := .mdi true ks (ds.set j (.mu (es ++ [e])))) gd t sl hq gp rs (sb.nodup nd) (fun a ha => ow a (sb.subset ha)) hj he
        obtain ⟨xs, ⟨_, rfl⟩, nda, _, hv, hks⟩ := id (dc.nds gd.gh hq rk)
        exact ⟨q, vs, p, ws, rfl, ⟨xs, nda, hv, hks⟩, h1, h2, h3.length, h5 _ _ (h3.scalApp r1 hs) fun H' M e1 m => .mdi e1 gp dc (rk.free fun _ _ e => e) m⟩
/-! ### x[k].append(v), v a name's scalar -/
def fNApp (i : Nat) (fk : FE) (jv : Nat) : FE := fun A => match slotL i A with
  | none => .stuck
  | some _ => (fk A).bind fun kd A1 => match kd, slotL i A1, A1[jv]? with
    | .int k, some ds, some (some e) => match ixN ds.length k with
      | some m => match ds[m]? with
        | some (.mu es) => if isFs es = true ∧ isScal e = true ∧ es.length < sizeLine then .ok .non (A1.set i (some (.mu (ds.set m (.mu (es ++ [e])))))) else .stuck
        | _ => .stuck
      | none => .stuck
    | _, _, _ => .stuck
section
variable {z : Z} {X : Cx} {fk : FE}
theorem napp_go {i jv : Nat} {σ : L2.St} {H : Hp} {Q : VK} (h : tE z (fNApp i fk jv) σ H Q) : tBM z.K "list" rAppend (tOp (rIxL z.K) (tVar i) (tE z fk)) (L2.tCons (tVar jv) L2.tNil) σ H Q := by
  obtain ⟨A, ts, hA, hp⟩ := h
  unfold fNApp at hp
  split at hp
  · exact (show False from hp).elim
  · rename_i ds0 e0
    obtain ⟨p0, xs0, ev, hp0, _, h1⟩ := hA.slotAl (slotL_get e0)
    refine ⟨.ref p0, ev, A, (.ref p0, .al i) :: ts, h1, ?_⟩
    cases ek : fk A with
    | stuck => rw [ek] at hp; exact (show False from hp).elim
    | exc c A2 => rw [ek] at hp; exact fun H' h' => hp H' h'.drop
    | ok kd A1 =>
      rw [ek] at hp
      simp only [Ou.bind_ok] at hp
      intro u H1 h2
      split at hp
      · rename_i k ds e es ej
        split at hp
        · rename_i m hm
          split at hp
          · rename_i ee he
            split at hp
            · rename_i hc
              have eu := h2.int
              have h3 : z.A σ A1 ((.ref p0, .al i) :: ts) H1 := h2.drop
              obtain ⟨y, ey, h4⟩ := h3.var ej
              have h5 : z.A σ A1 ((y, e) :: (.ref p0, .al i) :: ts) H1 := by
                have : isF e = true := by cases e <;> simp [isScal] at hc <;> simp [isF]
                rw [if_pos this] at h4
                exact h4
              obtain ⟨q, vs, p, ws, eq, hq, hl, hj, hpp, hwl, h6⟩ := (h5.swapMove (slotL_get es)).napp he hc.1 hc.2.1
              cases eq
              have h7 := h6.put (fun j q => nomatch q) (set_none_get (slotL_get es)) ev
              rw [List.set_set] at h7
              have hat : atI vs k = some (.ref p) := by
                unfold atI
                rw [hl, hm]
                exact hj
              exact ⟨p0, vs, k, .ref p, rfl, eu, .inl (.inl hq), hat, .inl ⟨rfl, _, .inl (.inl hpp)⟩, y, ey, p, ws, y, rfl, rfl, hpp, by rw [hwl]; exact hc.2.2, hp _ _ h7.pnon⟩
            · exact (show False from hp).elim
          · exact (show False from hp).elim
        · exact (show False from hp).elim
      · exact (show False from hp).elim
theorem qe_napp {i jv : Nat} {o k e : Expr} {p1 apos cpos : Pos} (hK : X.K = z.K) (ho : PE X o (tVar i)) (hk : PE X k (tE z fk)) (he : PE X e (tVar jv)) (hs0 : PlainIx k)
    (hbase : attributeBase (.Subscript o k p1) "append" X.env (eval (.Subscript o k p1) X.env) = eval (.Subscript o k p1) X.env := by rfl)
    (hfew : ((backTo cpos (starEach [e] X.env)).all (fun x => !x.1) && (backToKw cpos (keywordEach [] X.env)).all (fun x => x.1.isSome)
      && decide ([e].length + ([] : List Keyword).length + (if ([] : List Keyword).isEmpty then 0 else 1) < 30)) = true := by rfl)
    (hline : (apos.endLine == cpos.line) = true := by rfl) (hs : starEach [e] X.env = (false, eval e X.env) :: starEach [] X.env := by rfl) (hplain : (backTo cpos (starEach [] X.env)).any (·.1) = false := by rfl) :
    PE X (.Call (.Attribute (.Subscript o k p1) "append" apos) [e] [] cpos) (tE z (fNApp i fk jv)) :=
  PE.imp (pe_bm PySem.F.plainAttrs_list PySem.F.slot_list_append PySem.F.type_list_append mt_append (pe_ix ix_list ho hk hs0) (pa_cons he pa_nil hs) hbase hfew hline hs hplain) fun _ _ _ h => by rw [hK]; exact napp_go h
end
/-! ### d.setdefault(k, []).append(v) -/
def rSd (w : World) : V → List V → Hp → VK → Prop := fun x as H Q => ∃ p b xs k v, x = .ref p ∧ as = [.ref b, v] ∧ NdAt w H p xs ∧ NkV H (.ref b) k ∧ k.depth ≤ 8 ∧
  (∀ a r, atKey xs k = some (a, r) → ∃ v', RelV v' r ∧ Q v' H) ∧ (atKey xs k = none → xs.length < sizeLine ∧ ∀ r ep, RelV v r → Q v (upd H p (ndHO w p ep (storedH xs k b r))))
section
variable {X : Cx}
theorem mt_setdefault (hu : X.A.units + 65 < cLine) : MtR X "dict.setdefault" (rSd X.w) := by
  intro pins s σ H x as v us Q I rx ra ⟨p, b, xs, k, v0, e1, e2, nd, nk, hd, q1, q2⟩
  subst e1; subst e2
  cases (show v = Value.ref p from rx)
  obtain ⟨u, r, rfl, ru, rr⟩ := Vals.two ra
  cases (show u = Value.ref b from ru)
  refine call_setdefault_heap (hsz := nd.len) (nk_room hu) (nk_is I nk hd) nd.sys (nd.of I) (fun p' hp' => ?_) fun hn h' dd hs => ?_
  · obtain ⟨v', rv, q⟩ := q1 p'.1 p'.2 hp'
    exact ⟨v', H, I.tok _, rv, q⟩
  · have he : ∃ q, h'.get? p = some q := let ⟨q, _, _, hq, _⟩ := dd; ⟨q, hq⟩
    obtain ⟨ep, ob⟩ := nd_obj dd
    obtain ⟨e0, hep⟩ := nd.hp
    exact ⟨v0, _, d_write I (by rw [hep]; exact True.intro) hs he (ob _), rr, (q2 hn).2 r ep rr⟩
end
def fSdA (i : Nat) (fk : FE) (jv : Nat) : FE := fun A => match slotD i A with
  | none => .stuck
  | some _ => (fk A).bind fun kd A1 => match slotD i A1, A1[jv]? with
    | some (n, ks, ds), some (some e) => match keyOk n kd with
      | some k => if n = true ∧ isScal e = true then match ixD ks k with
        | some m => match ds[m]? with
          | some (.mu es) => if isFs es = true ∧ es.length < sizeLine then .ok .non (A1.set i (some (.mdi n ks (ds.set m (.mu (es ++ [e])))))) else .stuck
          | _ => .stuck
        | none => if ks.length < sizeLine then .ok .non (A1.set i (some (.mdi n (ks ++ [kd]) (ds ++ [.mu [e]])))) else .stuck
        else .stuck
      | none => .stuck
    | _, _ => .stuck
section
variable {K : Fw} {B : Bs} {G H : Hp} {σ : L2.St} {A : Sl} {ts : Ts} {p : Addr} {v y u : V} {o o' : HO} {ks ds : List D} {e kd : D} {kv ws : List V} {L Le Lt L2 : List Addr} {n : Bool} {k : NestedKey}
theorem dput_step (gd : Gd B G H) (t : Tms K σ G H ts Lt) (sl : Sls K G H σ A L2) (r1 : R K G H u kd []) (r2 : R K G H y e Le) (q : H p = some o) (gp : G p = none) (rk : Rs K G H kv ks []) (rv : Rs K G H ws ds L)
    (nd : ((Le ++ ((p :: L) ++ Lt)) ++ L2).Nodup) (ow : ∀ a ∈ (Le ++ ((p :: L) ++ Lt)) ++ L2, Own B a) (dc' : DicO K.w p n o' (addL (ixD ks k) ks kd) (addL (ixD ks k) kv u) (putL (ixD ks k) ws y)) (hj : ∀ j, ixD ks k = some j → j < ds.length) :
    Abs K B σ A ((.ref p, .mdi n (addL (ixD ks k) ks kd) (putL (ixD ks k) ds e)) :: ts) (upd H p o') := by
  obtain ⟨M, N, m1, m2, m3⟩ := rv.putL r2 (ixD ks k) hj
  have pp : ((Le ++ ((p :: L) ++ Lt)) ++ L2).Perm ((((p :: (Le ++ L))) ++ Lt) ++ L2) := by
    refine List.Perm.append_right _ ?_
    rw [List.cons_append, List.cons_append]
    refine List.perm_middle.trans (List.Perm.cons _ ?_)
    rw [List.append_assoc]
  have sb : (((p :: (Le ++ N)) ++ Lt) ++ L2).Sublist (((p :: (Le ++ L)) ++ Lt) ++ L2) := List.Sublist.append_right (List.Sublist.append_right ((List.Sublist.append_left m3 _).cons₂ p) _) _
  have p2 : (((p :: M) ++ Lt) ++ L2).Perm (((p :: (Le ++ N)) ++ Lt) ++ L2) := List.Perm.append_right _ (List.Perm.append_right _ (List.Perm.cons _ m2))
  have nd' := nodup_perm p2.symm (sb.nodup (nodup_perm pp nd))
  have np : p ∉ M := fun hm => (List.nodup_cons.mp nd').1 (List.mem_append_left _ (List.mem_append_left _ hm))
  have own := m1.own
  exact dmut_core gd t sl (by rw [q]; exact fun z => nomatch z) gp (fun a ha => (own a ha).1) (.mdi upd_same gp dc' ((rk.addL r1 _).mono (fun _ _ e => e) fun _ z => nomatch z) (m1.mono (fun _ _ e => e) fun a ha => ⟨upd_ne (fun e => np (by rw [← e]; exact ha)), (own a ha).1⟩)) nd' fun a ha => ow a (pp.mem_iff.mpr (sb.subset (p2.mem_iff.mp ha)))
theorem dicO_put {ep : Nat} {w : World} {xs : List (NestedKey × Addr × Value)} {b : Addr} {r : Value} (nda : NdAt w H p xs) (hv : Vals ws (xs.map (·.2.2))) (hks : ks.map nkD = xs.map fun x => some x.1) (hd : k.depth ≤ 8) (hnk : nkD kd = some k) (hl : xs.length < sizeLine) (rr : RelV y r) :
    DicO w p true (ndHO w p ep (storedH xs k b r)) (addL (ixD ks k) ks kd) (addL (ixD ks k) (xs.map fun x => V.ref x.2.1) (.ref b)) (putL (ixD ks k) ws y) := by
  have ix := ixD_nd hks k
  have e1 : addL (ixD ks k) (xs.map fun x => V.ref x.2.1) (V.ref b) = (storedH xs k b r).map fun x => V.ref x.2.1 := by
    have := storedH_adrs (k := k) (a := b) (v := r) nda.nd
    rw [show (fun x : NestedKey × Addr × Value => V.ref x.2.1) = V.ref ∘ (fun x => x.2.1) from rfl, ← List.map_map, ← List.map_map, this, addL_map, ix]
  rw [e1]
  refine .nd nda.sys ?_ ?_ ?_ ?_ ?_
  · have := congrArg List.length (storedH_keys (k := k) (a := b) (v := r) nda.nd)
    have h2 : (addL (xs.findIdx? fun x => decide (x.1 = k)) (xs.map (·.1)) k).length ≤ xs.length + 1 := by
      cases xs.findIdx? fun x => decide (x.1 = k) <;> simp [addL]
    simp only [List.length_map] at this
    omega
  · rw [storedH_keys nda.nd]; exact nd_addL nda.nd
  · intro x hx
    rcases storedH_mem nda.nd hx with ⟨h1, _⟩ | ⟨x', hx', h1, _⟩
    · rw [h1]; exact hd
    · rw [← h1]; exact (nda.ks x' hx').1
  · rw [storedH_vals nda.nd, ix]; exact Vals.putL hv rr _
  · have h1 := storedH_keys (k := k) (a := b) (v := r) nda.nd
    rw [addL_map, hks, ix, hnk]
    rw [show (fun x : NestedKey × Addr × Value => some x.1) = some ∘ (fun x => x.1) from rfl, ← List.map_map, ← List.map_map, h1, addL_map]
theorem NdAt.updH {w : World} {H : Hp} {p q : Addr} {xs : List (NestedKey × Addr × Value)} {ob : HO} (h : NdAt w H p xs) (hq : H q = none) : NdAt w (upd H q ob) p xs :=
  ⟨let ⟨ep, e⟩ := h.hp; ⟨ep, (upd_ne (ne_of_none e hq)).trans e⟩, h.sys, h.len, h.nd, fun x hx => ⟨(h.ks x hx).1, (h.ks x hx).2.mono fun a ys e => by rw [upd_ne (ne_of_none e hq)]; exact e⟩⟩
/-- d.setdefault(k, []).append(y), k not there: q is the new list -/
theorem Abs.sdNew {q : Addr} (h : Abs K B σ A ((u, kd) :: (y, e) :: (v, .mdi true ks ds) :: ts) H) (hk : keyOk true kd = some k) (hs : isScal e = true) (hix : ixD ks k = none) (hl : ks.length < sizeLine) (hq : H q = none) :
    ∃ p xs b, v = .ref p ∧ u = .ref b ∧ NdAt K.w (upd H q (.lst [])) p xs ∧ NkV (upd H q (.lst [])) (.ref b) k ∧ k.depth ≤ 8 ∧ xs.length < sizeLine ∧ atKey xs k = none ∧ p ≠ q ∧ ∀ r ep, RelV (.ref q) r →
      Abs K B σ A ((v, .mdi true (ks ++ [kd]) (ds ++ [.mu [e]])) :: ts) (upd (upd (upd H q (.lst [])) p (ndHO K.w p ep (storedH xs k b r))) q (.lst [y])) := by
  have hf := keyOk_isF hk
  obtain ⟨G, L1, L2, gd, tm, sl, nd, ow⟩ := h
  cases tm with
  | al _ _ => simp [keyOk] at hk
  | cons r1 tm =>
    cases tm with
    | al _ _ => simp [isScal] at hs
    | cons r2 tm =>
      cases tm with
      | cons r3 t =>
        rename_i Lk Le Lp Lt
        have ek := r1.isF hf
        subst ek
        have r2s := fun G H => r2.scal hs G H
        cases r3 with
        | mdi q0 gp dc rk rv =>
          rename_i p o kv ws L
          obtain ⟨xs, ⟨_, rfl⟩, nda, rfl, hv, hks⟩ := dc.nds gd.gh q0 rk
          obtain ⟨b, rfl, nk, hd, hnk⟩ := keyOk_nd hk gd.gh r1
          have hxl : xs.length = ks.length := by have := congrArg List.length hks; simpa using this.symm
          have pq : p ≠ q := ne_of_none q0 hq
          refine ⟨p, xs, b, rfl, rfl, nda.updH hq, nk.mono fun a ys e => by rw [upd_ne (ne_of_none e hq)]; exact e, hd, by omega, ?_, pq, fun r ep rr => ?_⟩
          · rw [atKey_ix, ← ixD_nd hks, hix]; rfl
          have eH : upd (upd (upd H q (.lst [])) p (ndHO K.w p ep (storedH xs k b r))) q (.lst [y]) = upd (upd H q (.lst [y])) p (ndHO K.w p ep (storedH xs k b r)) := by
            funext a
            by_cases h1 : a = q
            · subst h1; rw [upd_same, upd_ne (Ne.symm pq), upd_same]
            · rw [upd_ne h1]
              by_cases h2 : a = p
              · subst h2; rw [upd_same, upd_same]
              · rw [upd_ne h2, upd_ne h2, upd_ne h1, upd_ne h1]
          rw [eH]
          have gq := gp_none gd.gh hq
          have neQ : ∀ a, H a ≠ none → a ≠ q := fun a ha z => ha (z ▸ hq)
          have keep : ∀ L' : List Addr, (∀ a ∈ L', G a = none ∧ H a ≠ none) → ∀ a ∈ L', upd H q (.lst [y]) a = H a ∧ G a = none := fun L' h a ha => ⟨upd_ne (neQ a (h a ha).2), (h a ha).1⟩
          have gd' : Gd B G (upd H q (.lst [y])) := ⟨fun a o e => same_new hq _ _ (gd.gh a o e), gd.bg, fun a o hx e => same_new hq _ _ (gd.bh a o hx e), gd.sep, fun a ha => by rw [upd_ne (neQ a (gd.alive a ha))]; exact gd.alive a ha⟩
          have t' := t.mono (H' := upd H q (.lst [y])) (fun _ _ e => e) (keep _ t.own)
          have sl' := sl.mono (H' := upd H q (.lst [y])) (fun _ _ e => e) (keep _ sl.own)
          have rv' := rv.mono (H' := upd H q (.lst [y])) (fun _ _ e => e) (keep _ rv.own)
          have sb : (((p :: L) ++ Lt) ++ L2).Sublist ((([] : List Addr) ++ (Le ++ ((p :: L) ++ Lt))) ++ L2) := List.Sublist.append_right (List.sublist_append_right _ _) _
          have nq : q ∉ ((p :: L) ++ Lt) ++ L2 := fun m => by
            rcases List.mem_append.mp m with m | m
            · rcases List.mem_append.mp m with m | m
              · rcases List.mem_cons.mp m with m | m
                · exact pq m.symm
                · exact (rv.own q m).2 hq
              · exact (t.own q m).2 hq
            · exact (sl.own q m).2 hq
          have := dput_step (k := k) (e := .mu [e]) (y := .ref q) (Le := [q]) gd' t' sl' (r1.free fun _ _ e => e) (.mu (L := []) upd_same gq (by simpa using Rs.one (r2s G (upd H q (.lst [y]))))) ((upd_ne pq).trans q0) gp (rk.free fun _ _ e => e) rv' (by
            rw [List.append_assoc, List.singleton_append, List.nodup_cons]
            exact ⟨by rw [List.append_assoc] at nq; simpa using nq, by simpa using sb.nodup nd⟩) (fun a ha => by
            rw [List.append_assoc] at ha
            rcases List.mem_append.mp ha with m | m
            · rw [List.mem_singleton.mp m]
              by_cases hx : q ∈ B.ex
              · exact .inr hx
              · refine .inl ?_
                cases qb : B.H q with
                | none => rfl
                | some ob => rw [gd.bh q ob hx qb] at hq; cases hq
            · exact ow a (sb.subset (by simpa using m))) (dicO_put (ep := ep) (b := b) nda hv hks hd hnk (by omega) rr) (fun j hj => by rw [hix] at hj; cases hj)
          rw [hix] at this
          exact this
theorem Abs.key {u : V} (h : Abs K B σ A ((u, kd) :: ts) H) (hk : keyOk true kd = some k) : ∃ b, u = .ref b ∧ NkV H (.ref b) k ∧ k.depth ≤ 8 := by
  obtain ⟨G, L1, L2, gd, tm, sl, nd, ow⟩ := h
  cases tm with
  | al _ _ => simp [keyOk] at hk
  | cons r1 t =>
    obtain ⟨b, h1, h2, h3, _⟩ := keyOk_nd hk gd.gh r1
    exact ⟨b, h1, h2, h3⟩
theorem Abs.tyD {d : D} {ks vs : List D} (h : Abs K B σ A ((v, d) :: ts) H) (hd : dicOf (see A d) = some (n, ks, vs)) : TyD K.w v H := by
  obtain ⟨G, L, gh, r, f⟩ := h.open (dicOf_al hd)
  obtain ⟨p, o, kv, ws, L2, rfl, hp, dc, rk, rv, _⟩ := r.dic gh hd
  cases n with
  | true =>
    obtain ⟨xs, ⟨_, rfl⟩, nd, _, _, _⟩ := dc.nds gh hp rk
    exact .inl ⟨p, xs, rfl, nd⟩
  | false =>
    obtain ⟨is, rfl, _⟩ := dc.iks
    exact .inr ⟨p, _, rfl, hp⟩
end
section
variable {z : Z} {X : Cx} {fk : FE}
theorem scal_isF {e : D} (h : isScal e = true) : isF e = true := by cases e <;> simp [isScal] at h <;> simp [isF]
theorem sda_go {i jv : Nat} {σ : L2.St} {H : Hp} {Q : VK} (h : tE z (fSdA i fk jv) σ H Q) : tBM z.K "list" rAppend (tBD z.K.w (rSd z.K.w) (tVar i) (L2.tCons (tE z fk) (L2.tCons (L2.tLst L2.tNil) L2.tNil))) (L2.tCons (tVar jv) L2.tNil) σ H Q := by
  obtain ⟨A, ts, hA, hp⟩ := h
  unfold fSdA at hp
  split at hp
  · exact (show False from hp).elim
  · rename_i q0 e0
    obtain ⟨n0, ks0, ds0⟩ := q0
    obtain ⟨p0, ev, h1⟩ := hA.slotAlD (slotD_get e0)
    have s0 : see A (.al i) = .mdi n0 ks0 ds0 := by simp [see, slotD_get e0]
    refine ⟨.ref p0, ev, h1.tyD (by rw [s0]; rfl), A, (.ref p0, .al i) :: ts, h1, ?_⟩
    cases ek : fk A with
    | stuck => rw [ek] at hp; exact (show False from hp).elim
    | exc c A2 => rw [ek] at hp; exact fun H' h' => hp H' h'.drop
    | ok kd A1 =>
      rw [ek] at hp
      simp only [Ou.bind_ok] at hp
      intro u H1 h2
      split at hp
      · rename_i n ks ds e es ej
        split at hp
        · rename_i k hk
          split at hp
          · rename_i hc
            obtain ⟨rfl, hsc⟩ := hc
            have hij : i ≠ jv := fun z => by
              subst z
              rw [slotD_get es] at ej
              cases ej
              simp [isScal] at hsc
            obtain ⟨y, ey, h3⟩ := h2.var ej
            rw [if_pos (scal_isF hsc)] at h3
            -- y, u, the dict as a temporary
            have h4 : z.A σ A1 ((.ref p0, .al i) :: (u, kd) :: (y, e) :: ts) H1 := h3.perm ((List.Perm.swap _ _ _).trans ((List.Perm.cons _ (List.Perm.swap _ _ _)).trans (List.Perm.swap _ _ _)))
            have h5 := h4.move (slotD_get es)
            have h6 : z.A σ (A1.set i none) ((u, kd) :: (y, e) :: (.ref p0, .mdi true ks ds) :: ts) H1 := h5.perm ((List.Perm.swap _ _ _).trans (List.Perm.cons _ (List.Perm.swap _ _ _)))
            have back : ∀ {ks' ds'} H5, z.A σ (A1.set i none) ((.ref p0, .mdi true ks' ds') :: ts) H5 → z.A σ (A1.set i (some (.mdi true ks' ds'))) ((.non, .non) :: ts) H5 := fun H5 h8 => by
              have h9 := h8.put (fun j q => nomatch q) (set_none_get (slotD_get es)) ev
              rw [List.set_set] at h9
              exact h9.pnon
            refine ⟨by show 0 ≤ sizeLine; exact Nat.zero_le _, fun q hq => ?_⟩
            split at hp
            · rename_i m hm
              split at hp
              · rename_i ee he
                split at hp
                · rename_i hcc
                  have h7 : z.A σ (A1.set i none) ((y, e) :: (.ref p0, .mdi true ks ds) :: ts) (upd H1 q (.lst [])) := h6.drop.same (same_new hq)
                  have h7k : z.A σ (A1.set i none) ((u, kd) :: (y, e) :: (.ref p0, .mdi true ks ds) :: ts) (upd H1 q (.lst [])) := h6.same (same_new hq)
                  obtain ⟨b, rfl, nk, hd⟩ := h7k.key hk
                  obtain ⟨q1, vs, p, ws, eq, nd4, hj, hpp, hwl, h8⟩ := h7.dapp2 he hcc.1 hsc
                  cases eq
                  obtain ⟨xs, nd, hv, hks⟩ := nd4
                  refine ⟨p0, b, xs, k, .ref q, rfl, rfl, nd, nk, hd, fun a r hat => ⟨.ref p, ?_, .inl ⟨rfl, _, .inl (.inl hpp)⟩, y, ey, p, ws, y, rfl, rfl, hpp, by rw [hwl]; exact hcc.2, hp _ _ (back _ h8)⟩, fun hn => ?_⟩
                  · rw [atKey_ix, ← ixD_nd hks, hm] at hat
                    obtain ⟨r', hr', rr⟩ := hv.get hj
                    rw [List.getElem?_map] at hr'
                    have hat : (xs[m]?).map (·.2) = some (a, r) := hat
                    cases hx : xs[m]? with
                    | none => rw [hx] at hat; cases hat
                    | some x =>
                      rw [hx] at hr' hat
                      cases hr'
                      have : x.2 = (a, r) := Option.some.inj hat
                      have rr : RelV (.ref p) x.2.2 := rr
                      rw [this] at rr
                      exact rr
                  · rw [atKey_ix, ← ixD_nd hks, hm] at hn
                    obtain ⟨r', hr', rr⟩ := hv.get hj
                    rw [List.getElem?_map] at hr'
                    have hn : (xs[m]?).map (·.2) = none := hn
                    cases hx : xs[m]? with
                    | none => rw [hx] at hr'; cases hr'
                    | some x => rw [hx] at hn; cases hn
                · exact (show False from hp).elim
              · exact (show False from hp).elim
            · rename_i hix
              split at hp
              · rename_i hl
                obtain ⟨p, xs, b, ep, rfl, nd, nk, hd, hxl, hat, pq, h8⟩ := h6.sdNew hk hsc hix hl hq
                cases ep
                refine ⟨p0, b, xs, k, .ref q, rfl, rfl, nd, nk, hd, (fun a r e => by rw [hat] at e; cases e), fun _ => ⟨hxl, fun r ep rr => ?_⟩⟩
                have hq2 : upd (upd H1 q (.lst [])) p0 (ndHO z.K.w p0 ep (storedH xs k b r)) q = some (.lst []) := by rw [upd_ne (Ne.symm pq), upd_same]
                exact ⟨.inl ⟨rfl, _, .inl (.inl hq2)⟩, y, ey, q, [], y, rfl, rfl, hq2, by rw [sizeLine_eq]; decide, hp _ _ (back _ (h8 r ep rr))⟩
              · exact (show False from hp).elim
          · exact (show False from hp).elim
        · exact (show False from hp).elim
      · exact (show False from hp).elim
theorem qe_sda {i jv : Nat} {o k e : Expr} {ps p1 p2 p3 apos cpos : Pos} (hu : X.A.units + 65 < cLine) (hK : X.K = z.K) (hW : X.w = z.K.w) (ho : PE X o (tVar i)) (hk : PE X k (tE z fk)) (he : PE X e (tVar jv))
    (hbase0 : attributeBase o "setdefault" X.env (eval o X.env) = eval o X.env := by rfl)
    (hfew0 : ((backTo p2 (starEach [k, .List [] p3] X.env)).all (fun x => !x.1) && (backToKw p2 (keywordEach [] X.env)).all (fun x => x.1.isSome)
      && decide ([k, Expr.List [] p3].length + ([] : List Keyword).length + (if ([] : List Keyword).isEmpty then 0 else 1) < 30)) = true := by rfl)
    (hline0 : (p1.endLine == p2.line) = true := by rfl) (hs0 : starEach [k, .List [] p3] X.env = (false, eval k X.env) :: starEach [.List [] p3] X.env := by rfl) (hs1 : starEach [.List [] p3] X.env = (false, eval (.List [] p3) X.env) :: starEach [] X.env := by rfl) (hplain0 : (backTo p2 (starEach [.List [] p3] X.env)).any (·.1) = false := by rfl)
    (hbase : attributeBase (.Call (.Attribute o "setdefault" p1) [k, .List [] p3] [] p2) "append" X.env (eval (.Call (.Attribute o "setdefault" p1) [k, .List [] p3] [] p2) X.env) = eval (.Call (.Attribute o "setdefault" p1) [k, .List [] p3] [] p2) X.env := by rfl)
    (hfew : ((backTo cpos (starEach [e] X.env)).all (fun x => !x.1) && (backToKw cpos (keywordEach [] X.env)).all (fun x => x.1.isSome)
      && decide ([e].length + ([] : List Keyword).length + (if ([] : List Keyword).isEmpty then 0 else 1) < 30)) = true := by rfl)
    (hline : (apos.endLine == cpos.line) = true := by rfl) (hs : starEach [e] X.env = (false, eval e X.env) :: starEach [] X.env := by rfl) (hplain : (backTo cpos (starEach [] X.env)).any (·.1) = false := by rfl) :
    PE X (.Call (.Attribute (.Call (.Attribute o "setdefault" p1) [k, .List [] p3] [] p2) "append" apos) [e] [] cpos) (tE z (fSdA i fk jv)) :=
  PE.imp (pe_bm PySem.F.plainAttrs_list PySem.F.slot_list_append PySem.F.type_list_append mt_append
    (pe_bd PySem.F.plainAttrs_dict PySem.F.slot_dict_setdefault PySem.F.type_dict_setdefault (mt_setdefault hu) ho (pa_cons hk (pa_cons (pe_lst pa_nil) pa_nil hs1) hs0) hbase0 hfew0 hline0 hs0 hplain0)
    (pa_cons he pa_nil hs) hbase hfew hline hs hplain) fun _ _ _ h => by rw [hK, hW]; exact sda_go h
end
end Ab
end
section
namespace Ab
open PySem PySem.Spec PyProof.Rows L2
/-! ### len(d) -/
def gLenX (ds : List D) (A : Sl) : Option D := match ds with
  | [d] => match dicOf (see A d) with
    | some (_, ks, _) => some (.int ks.length)
    | none => gLen [d] A
  | ds => gLen ds A
def LenX (K : PySem.W.Frag) (w : World) (x : V) (H : Hp) (n : Nat) : Prop := (∃ p xs, x = .ref p ∧ NdAt w H p xs ∧ xs.length = n) ∨ ∃ p kvs, x = .ref p ∧ H p = some (.dK kvs) ∧ kvs.length = n
def rLenD (K : PySem.W.Frag) (w : World) : List V → Hp → VK → Prop := fun as H Q => (∃ x n, as = [x] ∧ LenV K x H n ∧ Q (.int n) H) ∨ ∃ x n, as = [x] ∧ LenX K w x H n ∧ Q (.int n) H
section
variable {X : Cx}
theorem call_lenX : CallR X (.builtin "len") (rLenD X.K X.w) := by
  intro pins s σ H xs us Q I r h
  rcases h with h | ⟨x, n, rfl, hx, q⟩
  · exact call_len pins s σ H xs us Q I r h
  · obtain ⟨u, rfl, ru⟩ := vals1 r
    rcases hx with ⟨p, es, rfl, nd, hl⟩ | ⟨p, kvs, rfl, hp, hl⟩
    · cases (show u = Value.ref p from ru)
      have dd := nd.of I
      refine PyProof.Rows.call_len_slot (n := n) dd.typeIs PySem.F.slot_dict_len (fun Q' hq => len_keyed nd.sys ⟨es, dd, rfl⟩ (by rw [pairsH_length, hl]; exact hq)) (by have := nd.len; rw [sizeLine_eq] at this; omega) (by have := nd.len; rw [sizeLine_eq] at this; omega) ?_
      exact ⟨.int n, H, I.tok _, ⟨_, rfl⟩, q⟩
    · cases (show u = Value.ref p from ru)
      exact d_len I (.inl hp) fun t s' I' => ⟨.int n, H, I', ⟨t, by rw [hl]⟩, q⟩
variable {z : Z}
theorem cd_lenX : CallD z (rLenD z.K z.K.w) gLenX := by
  intro σ A ts H vs ds d' hl h hg Q q
  unfold gLenX at hg
  split at hg
  · rename_i d
    split at hg
    · rename_i n ks es hd
      cases hg
      obtain ⟨v, rfl⟩ := call1 hl rfl
      have h : z.A σ A ((v, d) :: ts) H := h
      obtain ⟨G, L, gh, r, f⟩ := h.open (dicOf_al hd)
      obtain ⟨p, o, kv, ws, L2, rfl, hp, dc, rk, rv, _⟩ := r.dic gh hd
      have fin := q _ _ (f.known gh (.int (ks.length : Int)))
      cases n with
      | true =>
        obtain ⟨xs, ⟨_, rfl⟩, nd, rfl, hv, hks⟩ := dc.nds gh hp rk
        have := congrArg List.length hks
        simp at this
        exact .inr ⟨_, _, rfl, .inl ⟨p, xs, rfl, nd, this.symm⟩, fin⟩
      | false =>
        obtain ⟨is, rfl, rfl, rfl, hn, hl2⟩ := dc.iks
        exact .inr ⟨_, _, rfl, .inr ⟨p, _, rfl, hp, by simp; omega⟩, fin⟩
    · exact .inl (cd_len σ A ts H vs [d] d' hl h hg Q q)
  · exact .inl (cd_len σ A ts H vs ds d' hl h hg Q q)
end
/-! ### d.update(e) -/
def mrgD : List D → List D → List D → List D → List D × List D
  | ks, ds, k :: ks2, d :: ds2 => match nkD k with
    | some n => mrgD (addL (ixD ks n) ks k) (putL (ixD ks n) ds d) ks2 ds2
    | none => (ks, ds)
  | ks, ds, _, _ => (ks, ds)
structure Ent (K : Fw) (G H : Hp) (xs : List (NestedKey × Addr × Value)) (ks ds : List D) (ws : List V) : Prop where
  rk : Rs K G H (xs.map fun x => V.ref x.2.1) ks []
  rv : Rs K G H ws ds []
  hv : Vals ws (xs.map (·.2.2))
  hks : ks.map nkD = xs.map fun x => some x.1
  nd : (xs.map (·.1)).Nodup
  dep : ∀ x ∈ xs, x.1.depth ≤ 8
section
variable {K : Fw} {G H : Hp} {xs ys : List (NestedKey × Addr × Value)} {ks ds ks2 ds2 : List D} {ws ws2 : List V}
theorem Ent.len (h : Ent K G H xs ks ds ws) : xs.length = ks.length ∧ ds.length = ks.length := by
  have h1 := congrArg List.length h.hks
  have h2 := h.hv.length
  have h3 := h.rv.length
  simp at h1 h2
  omega
theorem Ent.put (h : Ent K G H xs ks ds ws) {b : Addr} {kd e : D} {k : NestedKey} {y : V} {r : Value} (r1 : R K G H (.ref b) kd []) (hk : nkD kd = some k) (hd : k.depth ≤ 8) (r2 : R K G H y e []) (rr : RelV y r) :
    Ent K G H (storedH xs k b r) (addL (ixD ks k) ks kd) (putL (ixD ks k) ds e) (putL (ixD ks k) ws y) := by
  have ix := ixD_nd h.hks k
  have e1 : addL (ixD ks k) (xs.map fun x => V.ref x.2.1) (V.ref b) = (storedH xs k b r).map fun x => V.ref x.2.1 := by
    have := storedH_adrs (k := k) (a := b) (v := r) h.nd
    rw [show (fun x : NestedKey × Addr × Value => V.ref x.2.1) = V.ref ∘ (fun x => x.2.1) from rfl, ← List.map_map, ← List.map_map, this, addL_map, ix]
  refine ⟨?_, ?_, ?_, ?_, ?_, ?_⟩
  · rw [← e1]; exact h.rk.addL r1 _
  · obtain ⟨M, N, m1, m2, m3⟩ := h.rv.putL r2 (ixD ks k) fun j hj => by
      rw [ix] at hj
      obtain ⟨x, h1, _⟩ := findIx_lt hj
      have := (List.getElem?_eq_some_iff.mp h1).1
      have := h.len
      omega
    have n0 := List.sublist_nil.mp m3
    subst n0
    have m0 : M = [] := by simpa using m2
    subst m0
    exact m1
  · rw [storedH_vals h.nd, ix]; exact Vals.putL h.hv rr _
  · have h1 := storedH_keys (k := k) (a := b) (v := r) h.nd
    rw [addL_map, h.hks, ix, hk]
    rw [show (fun x : NestedKey × Addr × Value => some x.1) = some ∘ (fun x => x.1) from rfl, ← List.map_map, ← List.map_map, h1, addL_map]
  · rw [storedH_keys h.nd]; exact nd_addL h.nd
  · intro x hx
    rcases storedH_mem h.nd hx with ⟨h1, _⟩ | ⟨x', hx', h1, _⟩
    · rw [h1]; exact hd
    · rw [← h1]; exact h.dep x' hx'
theorem Rs.cons_nil {v : V} {vs : List V} {d : D} {ds : List D} (r : Rs K G H (v :: vs) (d :: ds) []) : R K G H v d [] ∧ Rs K G H vs ds [] := by
  generalize hL : ([] : List Addr) = L0 at r
  cases r with
  | cons r t =>
    obtain ⟨e1, e2⟩ := List.append_eq_nil_iff.mp hL.symm
    subst e1; subst e2
    exact ⟨r, t⟩
theorem Ent.mrg (h : Ent K G H xs ks ds ws) (h2 : Ent K G H ys ks2 ds2 ws2) : ∃ ws', Ent K G H (storedAllH xs ys) (mrgD ks ds ks2 ds2).1 (mrgD ks ds ks2 ds2).2 ws' := by
  induction ys generalizing xs ks ds ws ks2 ds2 ws2 with
  | nil =>
    have := h2.len
    have k0 : ks2 = [] := List.length_eq_zero_iff.mp (by simp at this; omega)
    subst k0
    exact ⟨ws, by unfold mrgD; exact h⟩
  | cons y ys ih =>
    have hl := h2.len
    obtain ⟨rk, rv, hv, hks, nd, dep⟩ := h2
    cases ks2 with
    | nil => simp at hl
    | cons k ks2 =>
      cases ds2 with
      | nil => simp at hl
      | cons d ds2 =>
        cases ws2 with
        | nil => have := hv.length; simp at this
        | cons w ws2 =>
          rw [List.map_cons] at rk hks hv nd
          rw [List.map_cons] at hks
          obtain ⟨rk1, rk2⟩ := rk.cons_nil
          obtain ⟨rv1, rv2⟩ := rv.cons_nil
          injection hks with e1 e2
          rw [List.nodup_cons] at nd
          cases hv with
          | cons hr hv =>
            have st := h.put rk1 e1 (dep y List.mem_cons_self) rv1 hr
            obtain ⟨ws', r⟩ := ih st ⟨rk2, rv2, hv, e2, nd.2, fun x hx => dep x (List.mem_cons_of_mem _ hx)⟩
            refine ⟨ws', ?_⟩
            have e3 : mrgD ks ds (k :: ks2) (d :: ds2) = mrgD (addL (ixD ks y.1) ks k) (putL (ixD ks y.1) ds d) ks2 ds2 := by
              rw [mrgD, e1]
            rw [e3]
            exact r
theorem storedAllH_len : ∀ (ys xs : List (NestedKey × Addr × Value)), (xs.map (·.1)).Nodup → (storedAllH xs ys).length ≤ xs.length + ys.length
  | [], xs, _ => by simp [storedAllH]
  | y :: ys, xs, nd => by
    have h1 : (storedH xs y.1 y.2.1 y.2.2).length ≤ xs.length + 1 := by
      have h2 := congrArg List.length (storedH_keys (k := y.1) (a := y.2.1) (v := y.2.2) nd)
      have h3 : (addL (xs.findIdx? fun x => decide (x.1 = y.1)) (xs.map (·.1)) y.1).length ≤ xs.length + 1 := by
        cases xs.findIdx? fun x => decide (x.1 = y.1) <;> simp [addL]
      simp only [List.length_map] at h2
      omega
    have h4 := storedAllH_len ys (storedH xs y.1 y.2.1 y.2.2) (by rw [storedH_keys nd]; exact nd_addL nd)
    show (storedAllH (storedH xs y.1 y.2.1 y.2.2) ys).length ≤ _
    rw [List.length_cons]; omega
end
def rUpd (w : World) : V → List V → Hp → VK → Prop := fun x as H Q => ∃ p o xs ys, x = .ref p ∧ as = [.ref o] ∧ p ≠ o ∧ NdAt w H p xs ∧ NdAt w H o ys ∧ (xs ≠ [] ∨ (ys.map fun x => NestedKey.hash w x.1).Nodup) ∧ xs.length + ys.length ≤ sizeLine ∧ ∀ ep, Q .non (upd H p (ndHO w p ep (storedAllH xs ys)))
section
variable {X : Cx}
theorem mt_updN (hu : X.A.units + 65 < cLine) : MtR X "dict.update" (rUpd X.w) := by
  intro pins s σ H x as v us Q I rx ra ⟨p, o, xs, ys, e1, e2, po, nd, nd2, hap, hsz, q⟩
  subst e1; subst e2
  cases (show v = Value.ref p from rx)
  obtain ⟨u, rfl, ru⟩ := Vals.one ra
  cases (show u = Value.ref o from ru)
  have d2 := nd2.of I
  refine call_update_dictH (nk_room hu) po nd2.sys (nd.of I) d2 (hap.imp id fun h => ⟨keyed_apart nestedKind_stays d2, h⟩) hsz fun h' dd _ hs => ?_
  have he : ∃ q, h'.get? p = some q := let ⟨q, _, _, hq, _⟩ := dd; ⟨q, hq⟩
  obtain ⟨ep, ob⟩ := nd_obj dd
  obtain ⟨e0, hep⟩ := nd.hp
  exact ⟨.non, _, d_write (t' := s.toks) I (by rw [hep]; exact True.intro) hs he (ob _), rfl, q ep⟩
end
def fUpd (i : Nat) (fe : FE) : FE := fun A => match slotD i A with
  | none => .stuck
  | some _ => (fe A).bind fun d A1 => match closeD d A1 with
    | none => .stuck
    | some (d', A2) => match fz d', slotD i A2 with
      | .fdi true ks2 ds2, some (true, ks, ds) => if isFs ds = true ∧ (ks ≠ [] ∨ hashOk ks2 = true) ∧ ks.length + ks2.length ≤ sizeLine then .ok .non (A2.set i (some (.mdi true (mrgD ks ds ks2 ds2).1 (mrgD ks ds ks2 ds2).2))) else .stuck
      | _, _ => .stuck
section
variable {z : Z} {X : Cx} {fe : FE}
theorem Abs.dupd {K : Fw} {B : Bs} {H : Hp} {σ : L2.St} {A : Sl} {ts : Ts} {v y : V} {ks ds ks2 ds2 : List D} (h : Abs K B σ A ((y, .fdi true ks2 ds2) :: (v, .mdi true ks ds) :: ts) H) (hf : isFs ds = true) (hl : ks.length + ks2.length ≤ sizeLine) :
    ∃ p o xs ys, v = .ref p ∧ y = .ref o ∧ p ≠ o ∧ NdAt K.w H p xs ∧ NdAt K.w H o ys ∧ ks.map nkD = xs.map (fun x => some x.1) ∧ ks2.map nkD = ys.map (fun x => some x.1) ∧ ∀ ep, Abs K B σ A ((v, .mdi true (mrgD ks ds ks2 ds2).1 (mrgD ks ds ks2 ds2).2) :: ts) (upd H p (ndHO K.w p ep (storedAllH xs ys))) := by
  obtain ⟨G, L1, L2, gd, tm, sl, nd, ow⟩ := h
  cases tm with
  | cons r1 tm =>
    cases tm with
    | cons r2 t =>
      rename_i Le Lp Lt
      cases r1 with
      | fdi q1 dc1 rk1 rv1 =>
        cases r2 with
        | mdi hq gp dc rk rv =>
          rename_i o2 ho2 kv2 ws2 p ho kv ws L
          have e0 := rv.isFs hf
          subst e0
          obtain ⟨xs, ⟨_, rfl⟩, nda, rfl, hv, hks⟩ := dc.nds gd.gh hq rk
          obtain ⟨ys, ⟨_, rfl⟩, nda2, rfl, hv2, hks2⟩ := dc1.nds gd.gh (gd.gh _ _ q1) rk1
          have po : p ≠ o2 := fun z => by rw [z, q1] at gp; cases gp
          have E1 : Ent K G H xs ks ds ws := ⟨rk, rv, hv, hks, nda.nd, fun x hx => (nda.ks x hx).1⟩
          have E2 : Ent K G H ys ks2 ds2 ws2 := ⟨rk1, rv1, hv2, hks2, nda2.nd, fun x hx => (nda2.ks x hx).1⟩
          obtain ⟨ws', E⟩ := E1.mrg E2
          have hxl := E1.len
          have hyl := E2.len
          have hsl := storedAllH_len ys xs nda.nd
          refine ⟨p, o2, xs, ys, rfl, rfl, po, nda, nda2, hks, hks2, fun ep => ?_⟩
          refine dmut_core (L' := []) gd t sl (by rw [hq]; exact fun z => nomatch z) gp (fun _ z => nomatch z) (.mdi upd_same gp (.nd nda.sys (by omega) E.nd E.dep E.hv E.hks) (E.rk.free fun _ _ e => e) (E.rv.free fun _ _ e => e)) (by simpa using nd) (by simpa using ow)
theorem upd_go {i : Nat} {σ : L2.St} {H : Hp} {Q : VK} (h : tE z (fUpd i fe) σ H Q) : tBD z.K.w (rUpd z.K.w) (tVar i) (L2.tCons (tE z fe) L2.tNil) σ H Q := by
  obtain ⟨A, ts, hA, hp⟩ := h
  unfold fUpd at hp
  split at hp
  · exact (show False from hp).elim
  · rename_i q0 e0
    obtain ⟨n0, ks0, ds0⟩ := q0
    obtain ⟨p0, ev, h1⟩ := hA.slotAlD (slotD_get e0)
    have s0 : see A (.al i) = .mdi n0 ks0 ds0 := by simp [see, slotD_get e0]
    refine ⟨.ref p0, ev, h1.tyD (by rw [s0]; rfl), A, (.ref p0, .al i) :: ts, h1, ?_⟩
    cases ea : fe A with
    | stuck => rw [ea] at hp; exact (show False from hp).elim
    | exc c A2 => rw [ea] at hp; exact fun H' h' => hp H' h'.drop
    | ok d A1 =>
      rw [ea] at hp
      simp only [Ou.bind_ok] at hp
      intro y H1 h2
      split at hp
      · exact (show False from hp).elim
      · rename_i d' A2 ec
        obtain ⟨h3, n3⟩ := h2.closeD ec
        split at hp
        · rename_i ks2 ds2 ks ds ef es
          split at hp
          · rename_i hc
            have h4 := (h3.swapMove (slotD_get es)).fz n3
            rw [ef] at h4
            obtain ⟨p, o, xs, ys, eq, rfl, po, nd, nd2, hks, hks2, h5⟩ := h4.dupd hc.1 hc.2.2
            cases eq
            have h6 := fun ep => (h5 ep).put (fun j q => nomatch q) (set_none_get (slotD_get es)) ev
            simp only [List.set_set] at h6
            have l1 := congrArg List.length hks
            have l2 := congrArg List.length hks2
            simp at l1 l2
            refine ⟨p0, o, xs, ys, rfl, rfl, po, nd, nd2, hc.2.1.imp (fun h e => h ?_) (fun h => hashOk_of hks2 h), by omega, fun ep => hp _ _ (h6 ep).pnon⟩
            rw [e] at l1
            exact List.length_eq_zero_iff.mp (by simpa using l1)
          · exact (show False from hp).elim
        · exact (show False from hp).elim
theorem qe_upd {i : Nat} {o e : Expr} {apos cpos : Pos} (hu : X.A.units + 65 < cLine) (hW : X.w = z.K.w) (ho : PE X o (tVar i)) (he : PE X e (tE z fe))
    (hbase : attributeBase o "update" X.env (eval o X.env) = eval o X.env := by rfl)
    (hfew : ((backTo cpos (starEach [e] X.env)).all (fun x => !x.1) && (backToKw cpos (keywordEach [] X.env)).all (fun x => x.1.isSome)
      && decide ([e].length + ([] : List Keyword).length + (if ([] : List Keyword).isEmpty then 0 else 1) < 30)) = true := by rfl)
    (hline : (apos.endLine == cpos.line) = true := by rfl) (hs : starEach [e] X.env = (false, eval e X.env) :: starEach [] X.env := by rfl) (hplain : (backTo cpos (starEach [] X.env)).any (·.1) = false := by rfl) :
    PE X (.Call (.Attribute o "update" apos) [e] [] cpos) (tE z (fUpd i fe)) :=
  PE.imp (pe_bd PySem.F.plainAttrs_dict PySem.F.slot_dict_update PySem.F.type_dict_update (mt_updN hu) ho (pa_cons he pa_nil hs) hbase hfew hline hs hplain) fun _ _ _ h => by rw [hW]; exact upd_go h
end
end Ab
end
section
namespace Ab
open PySem PySem.Spec PyProof.Rows L2
/-! ### x op= e, ints -/
def fAug (f : Int → Int → Int) (i : Nat) (fe : FE) : FS := fun A => match A[i]? with
  | some (some (.int a)) => (fe A).bind fun b A1 => match b with
    | .int b => .ok .next (A1.set i (some (.int (f a b))))
    | _ => .stuck
  | _ => .stuck
section
variable {z : Z} {X : Cx} {fe : FE}
theorem aug_go {f : Int → Int → Int} {i : Nat} {D : Ends} {σ : L2.St} {H : Hp} (h : tS z (fAug f i fe) D σ H) : tAug i (tE z fe) (ipI f) D σ H := by
  obtain ⟨A, ts, hA, c, hp⟩ := h
  unfold fAug at hp
  split at hp
  · rename_i a ea
    obtain ⟨v, ev, h1⟩ := hA.var ea
    rw [if_pos (by simp [isF])] at h1
    have e1 := h1.int
    subst e1
    refine ⟨_, ev, A, ts, hA, ?_⟩
    cases ee : fe A with
    | stuck => rw [ee] at hp; exact (pS_stuck hp).elim
    | exc c A1 => rw [ee] at hp; exact fun H' h' => hp σ H' h'
    | ok b A1 =>
      rw [ee] at hp
      simp only [Ou.bind_ok] at hp
      intro y H1 h2
      split at hp
      · rename_i b
        have e2 := h2.int
        subst e2
        exact ⟨a, b, rfl, rfl, hp _ _ ((h2.drop.pint _).set (fun j q => nomatch q) c)⟩
      · exact (pS_stuck hp).elim
  · exact (pS_stuck hp).elim
theorem qs_augA {i : Nat} {x : Str} {e : Expr} {pos pos' : Pos} (hN : X.N.Nodup) (hi : X.N[i]? = some x) (hx : Loc X.env.scope x) (he : PE X e (tE z fe)) (hf : X.fn x = true ∨ X.env.scope.names.lookup x = some .local := by first | exact .inl rfl | exact .inr rfl | assumption) :
    PS X (.AugAssign (.Name x pos') .Add e pos) (tS z (fAug (fun a b => a + b) i fe)) := PS.imp (ps_aug hN hi hx he ip_add hf) fun _ _ _ h => aug_go h
theorem qs_augS {i : Nat} {x : Str} {e : Expr} {pos pos' : Pos} (hN : X.N.Nodup) (hi : X.N[i]? = some x) (hx : Loc X.env.scope x) (he : PE X e (tE z fe)) (hf : X.fn x = true ∨ X.env.scope.names.lookup x = some .local := by first | exact .inl rfl | exact .inr rfl | assumption) :
    PS X (.AugAssign (.Name x pos') .Sub e pos) (tS z (fAug (fun a b => a - b) i fe)) := PS.imp (ps_aug hN hi hx he ip_sub hf) fun _ _ _ h => aug_go h
end
/-! ### min, sorted of ints -/
def intOf : D → Option Int
  | .int i => some i
  | _ => none
def intsOf : List D → Option (List Int)
  | [] => some []
  | e :: es => match intOf e, intsOf es with
    | some p, some ps => some (p :: ps)
    | _, _ => none
theorem intsOf_eq : ∀ {es : List D} {ps : List Int}, intsOf es = some ps → es = ps.map D.int
  | [], ps, h => by simp only [intsOf, Option.some.injEq] at h; subst h; rfl
  | e :: es, ps, h => by
    unfold intsOf at h
    split at h
    · rename_i p qs h1 h2
      cases h
      rw [intsOf_eq h2, List.map_cons]
      congr 1
      cases e <;> simp only [intOf] at h1 <;> cases h1
      rfl
    · cases h
theorem intsOf_map : ∀ ps : List Int, intsOf (ps.map D.int) = some ps
  | [] => rfl
  | p :: ps => by rw [List.map_cons, intsOf, intsOf_map ps]; rfl
theorem rs_ints {K : Fw} {G H : Hp} : ∀ {xs : List V} {ps : List Int} {L : List Addr}, Rs K G H xs (ps.map D.int) L → xs = ps.map V.int
  | [], [], _, _ => rfl
  | [], _ :: _, _, s => nomatch s
  | _ :: _, [], _, s => nomatch s
  | x :: xs, p :: ps, _, .cons r s => by
    cases r
    rw [rs_ints s]; rfl
theorem rs_of_ints {K : Fw} {G H : Hp} : ∀ (ps : List Int), Rs K G H (ps.map V.int) (ps.map D.int) []
  | [] => .nil
  | p :: ps => .cons (L := []) (L' := []) (.int p) (rs_of_ints ps)
def minI : List Int → Option Int
  | [] => none
  | x :: xs => some (xs.foldl min x)
theorem minI_spec : ∀ (xs : List Int) (x : Int), xs.foldl min x ∈ x :: xs ∧ ∀ y ∈ x :: xs, xs.foldl min x ≤ y
  | [], x => by simp
  | z :: xs, x => by
    obtain ⟨h1, h2⟩ := minI_spec xs (min x z)
    rw [List.foldl_cons]
    refine ⟨?_, fun y hy => ?_⟩
    · rcases List.mem_cons.mp h1 with e | m
      · rw [e]
        rcases Int.le_total x z with q | q
        · rw [Int.min_eq_left q]; exact List.mem_cons_self
        · rw [Int.min_eq_right q]; exact List.mem_cons_of_mem _ List.mem_cons_self
      · exact List.mem_cons_of_mem _ (List.mem_cons_of_mem _ m)
    · have q := h2 (min x z) List.mem_cons_self
      rcases List.mem_cons.mp hy with rfl | hy
      · omega
      · rcases List.mem_cons.mp hy with rfl | hy
        · omega
        · exact h2 y (List.mem_cons_of_mem _ hy)
def gMinL (ds : List D) (A : Sl) : Option D := match ds with
  | [d] => match lsOf (see A d) with
    | some es => match intsOf es with
      | some ps => (minI ps).map D.int
      | none => none
    | none => none
  | _ => none
def sortI (ps : List Int) : List Int := ps.mergeSort fun a b => decide (a ≤ b)
theorem sortI_uniq {qs ps : List Int} (h1 : qs.Pairwise (· ≤ ·)) (h2 : qs.Perm ps) : qs = sortI ps := by
  refine List.Perm.eq_of_pairwise (le := fun p q => p ≤ q) (fun a b _ _ x y => Int.le_antisymm x y) h1 ?_ (h2.trans (List.mergeSort_perm ps _).symm)
  refine (List.pairwise_mergeSort (le := fun a b : Int => decide (a ≤ b)) (fun a b c x y => ?_) (fun a b => ?_) ps).imp fun {a b} h => of_decide_eq_true h
  · exact decide_eq_true (Int.le_trans (of_decide_eq_true x) (of_decide_eq_true y))
  · rcases Int.le_total a b with q | q
    · simp [q]
    · simp [q]
def gSortedX (ds : List D) (A : Sl) : Option D := match ds with
  | [d] => match lsOf (see A d) with
    | some es => match intsOf es with
      | some ps => some (.mu ((sortI ps).map D.int))
      | none => gSorted [d] A
    | none => none
  | _ => none
def rSortedX (K : PySem.W.Frag) : List V → Hp → VK → Prop := fun vs H Q => rSortedPO K vs H Q ∨ rSortedI K vs H Q
section
variable {z : Z} {X : Cx}
theorem cr_sortedX : CallR X (.builtin "sorted") (rSortedX X.K) := by
  intro pins s σ H vs us Q I r h
  rcases h with h | h
  · exact cr_sortedPO pins s σ H vs us Q I r h
  · exact cr_sortedI pins s σ H vs us Q I r h
theorem cd_minL : CallD z (rMin z.K) gMinL := by
  intro σ A ts H vs ds d' hl h hg Q q
  unfold gMinL at hg
  split at hg
  · rename_i d
    obtain ⟨v, rfl⟩ := call1 hl rfl
    have h : z.A σ A ((v, d) :: ts) H := h
    split at hg
    · rename_i es hs
      split at hg
      · rename_i ps hp
        have e1 := intsOf_eq hp
        subst e1
        obtain ⟨G, L, gh, r, f⟩ := h.open (lsOf_al hs)
        obtain ⟨a, xs, M, rfl, k1, s1⟩ := r.list gh hs
        have e2 := rs_ints s1
        subst e2
        cases ps with
        | nil => cases hg
        | cons p ps =>
          have hg : some (D.int (ps.foldl min p)) = some d' := hg
          cases hg
          obtain ⟨m1, m2⟩ := minI_spec ps p
          refine ⟨a, p :: ps, rfl, k1, Nat.zero_lt_succ _, fun m hm hle => ?_⟩
          have : m = ps.foldl min p := Int.le_antisymm (hle _ m1) (m2 _ hm)
          rw [this]
          exact q _ _ (f.known gh (.int _))
      · cases hg
    · cases hg
  · cases hg
theorem cd_sortedX : CallD z (rSortedX z.K) gSortedX := by
  intro σ A ts H vs ds d' hl h hg Q q
  unfold gSortedX at hg
  split at hg
  · rename_i d
    split at hg
    · rename_i es hs
      split at hg
      · rename_i ps hp
        cases hg
        obtain ⟨v, rfl⟩ := call1 hl rfl
        have h : z.A σ A ((v, d) :: ts) H := h
        have e1 := intsOf_eq hp
        subst e1
        obtain ⟨G, L, gh, r, f⟩ := h.open (lsOf_al hs)
        obtain ⟨a, xs, M, rfl, k1, s1⟩ := r.list gh hs
        have e2 := rs_ints s1
        subst e2
        refine .inr ⟨a, ps, rfl, k1, fun ns' p h1 h2 hn => ?_⟩
        have e3 := sortI_uniq h2 h1
        subst e3
        exact q _ _ (f.lst gh (rs_of_ints _) hn)
      · exact .inl (cd_sorted σ A ts H vs [d] d' hl h hg Q q)
    · cases hg
  · cases hg
end
/-! ### list(d.values()) -/
def tVals (w : World) (te : TE) : TE := fun σ H Q => te σ H fun x H1 => ∃ p xs vs, x = .ref p ∧ NdAt w H1 p xs ∧ Vals vs (xs.map (·.2.2)) ∧ ∀ l, H1 l = none → Q (.ref l) (upd H1 l (.lst vs))
section
variable {X : Cx} {e : Expr} {te : TE} {p apos cpos pos : Pos}
theorem pe_vals (hc : X.calm = true) (he : PE X e te) (hg : Gl X "list") (hm : X.mg "list" = none) (hv : bootBuiltins "list" = some (.type "list")) (hbase : attributeBase e "values" X.env (eval e X.env) = eval e X.env := by rfl) (hline : (apos.endLine == cpos.line) = true := by rfl)
    (hs : starEach [.Call (.Attribute e "values" apos) [] [] cpos] X.env = (false, eval (.Call (.Attribute e "values" apos) [] [] cpos) X.env) :: starEach [] X.env := by rfl) :
    PE X (.Call (.Name "list" p) [.Call (.Attribute e "values" apos) [] [] cpos] [] pos) (tVals X.w te) := by
  refine ⟨fun pins s σ H Q I hq => ?_⟩
  refine wpAny_Call_Name_kw (ld_blt I hg hm hv ?_)
  refine PyProof.Rows.callWith_type1 ?_ hs rfl
  rw [hs]
  show wpAny _ _ (spliced ((false, eval (.Call (.Attribute e "values" apos) [] [] cpos) X.env) :: backTo pos (starEach [] X.env))) _ _ s
  refine Calls.spliced_cons ?_
  refine wpAny_Call_method (T := "dict") (id := "dict.values") hbase rfl hline F.plainAttrs_dict F.slot_dict_values F.type_dict_values (thn (he.run pins s σ H _ I hq) fun u s1 ⟨x, H1, I1, rx, d, xs, vs, ex, nd, hvs, q⟩ => ?_)
  subst ex
  obtain rfl : u = Value.ref d := rx
  obtain ⟨t1, t2⟩ := tyD_is I1 (show RelV (.ref d) (.ref d) from rfl) (.inl ⟨d, xs, rfl, nd⟩)
  obtain ⟨es, ep, hraw, hsz, hent⟩ := (nd.of I1).raw
  have hlen := nd.len
  refine ⟨t1, t2, ?_⟩
  show wpAny _ _ (callWith cpos (.builtin "dict.values") [.ref d] [] []) _ X.xe s1
  refine method_meetsIn F.slot_dict_values F.entry_dict_values rfl (PySem.evalArgs_none ⟨rfl, t1, F.args_dict_values_1 _, _, meets_dict_values_raw d nd.sys, ⟨es, ep, hraw⟩, ?_⟩)
  refine Calls.spliced_nil ?_
  refine PySem.W.kdl_call (KdlSrc.rawValues (es := es) (ep := ep) (d := d)) (I1.ok.hd hc) ⟨⟨_, Heap.get?_push_size _ rfl, rfl, rfl⟩, hraw.push _⟩ (by omega) fun h' tk acc c hk hS hacc => ?_
  have eacc : acc.toList = xs.map (·.2.2) := by
    refine List.ext_getElem? fun i => ?_
    by_cases hi : i < es.size
    · obtain ⟨y, h1, _, h2, _⟩ := hent i hi
      have ha : i < acc.size := by rw [hacc.1]; exact hi
      obtain ⟨hi2, h3⟩ := hacc.2 i acc[i] (by rw [Array.getElem?_eq_getElem ha])
      rw [List.getElem?_map, h1, Array.getElem?_toList, Array.getElem?_eq_getElem ha, h3, h2]
      rfl
    · rw [List.getElem?_eq_none (by rw [Array.length_toList, hacc.1]; omega), List.getElem?_eq_none (by rw [List.length_map]; omega)]
  have sz : (s1.heap.push { cls := .type "dict_values", data := .fields #[.ref d] }).objs.size = s1.heap.objs.size + 1 := Heap.size_push ..
  rw [sz] at hS
  have J := I1.laid (a := s1.heap.objs.size + 1) (o := .lst vs) (h' := h') (t' := tk) (fun b u e => hk b u (Heap.get?_push_of_some _ e)) (Nat.le_succ _)
    ⟨by have := hvs.length; rw [List.length_map] at this; omega, acc.toList, c, by rw [eacc]; exact hvs, by rw [Array.toArray_toList]; exact hS⟩
  have q2 := q (s1.heap.objs.size + 1) (I1.hok.fresh (Nat.le_succ _))
  show EP X pins σ Q (.ref (s1.heap.push { cls := .type "dict_values", data := .fields #[.ref d] }).objs.size) _
  rw [sz]
  exact ⟨.ref _, _, J, rfl, q2⟩
end
def fVals (fe : FE) : FE := fun A => (fe A).bind fun d A1 => match closeD d A1 with
  | some (d', A2) => match fz d' with
    | .fdi true _ vs => .ok (.mu vs) A2
    | _ => .stuck
  | none => .stuck
section
variable {z : Z} {X : Cx} {fe : FE}
theorem qe_vals {e : Expr} {p apos cpos pos : Pos} (hW : X.w = z.K.w) (hc : X.calm = true) (hg : Gl X "list") (hm : X.mg "list" = none) (hv : bootBuiltins "list" = some (.type "list")) (he : PE X e (tE z fe)) (hbase : attributeBase e "values" X.env (eval e X.env) = eval e X.env := by rfl) (hline : (apos.endLine == cpos.line) = true := by rfl)
    (hs : starEach [.Call (.Attribute e "values" apos) [] [] cpos] X.env = (false, eval (.Call (.Attribute e "values" apos) [] [] cpos) X.env) :: starEach [] X.env := by rfl) :
    PE X (.Call (.Name "list" p) [.Call (.Attribute e "values" apos) [] [] cpos] [] pos) (tE z (fVals fe)) := by
  refine PE.imp (pe_vals hc he hg hm hv hbase hline hs) fun σ H Q ⟨A, ts, hA, hp⟩ => ⟨A, ts, hA, ?_⟩
  unfold fVals at hp
  cases ee : fe A with
  | stuck => rw [ee] at hp; exact (show False from hp).elim
  | exc c A1 => rw [ee] at hp; exact hp
  | ok d A1 =>
    rw [ee] at hp
    simp only [Ou.bind_ok] at hp
    intro v H1 h1
    split at hp
    · rename_i d' A2 ec
      obtain ⟨h2, n2⟩ := h1.closeD ec
      have h3 := h2.fz n2
      split at hp
      · rename_i ks vs ef
        rw [ef] at h3
        obtain ⟨G, L, gh, r, f⟩ := h3.open (fun j q => nomatch q)
        have r : Ab.R z.K G H1 v (.fdi true ks vs) L := r
        cases r with
        | fdi q0 dc rk rv =>
          obtain ⟨xs, _, nd, rfl, hvv, hks⟩ := dc.nds gh (gh _ _ q0) rk
          exact ⟨_, xs, _, rfl, by rw [hW]; exact nd, hvv, fun l hl => hp _ _ (f.lst gh rv hl)⟩
      · exact (show False from hp).elim
    · exact (show False from hp).elim
end
end Ab
end
section
namespace Ab
open PySem PySem.Spec PyProof.Rows L2
/-! ### for k, v in d.items() -/
def ItX (w : World) (d : Addr) (ep : Nat) (xs : List (NestedKey × Addr × Value)) : It :=
  ⟨fun i H => H d = some (ndHO w d ep xs) ∧ ∃ v y, xs[i]? = some y ∧ RelV v y.2.2,
    fun i H x H' => ∃ T b v, x = .ref T ∧ H T = none ∧ H' = upd H T (.tup [.ref b, v]) ∧ ∀ ep' xs', H d = some (ndHO w d ep' xs') → ∃ y, xs'[i]? = some y ∧ y.2.1 = b ∧ RelV v y.2.2,
    fun i H => H d = some (ndHO w d ep xs) ∧ xs.length ≤ i⟩
section
variable {X : Cx} {pins : List (Addr × Obj)} {σ : L2.St} {H : Hp} {s : Shared} {d : Addr} {ep : Nat} {xs : List (NestedKey × Addr × Value)}
theorem nd_raw (I : Inv X pins σ H s) (h : H d = some (ndHO X.w d ep xs)) : ∃ es : Array DictEntry, s.heap.DictRaw d es ep ∧ es.size = xs.length ∧ es.toList = xs.map fun x => ⟨NestedKey.hash X.w x.1, .ref x.2.1, x.2.2⟩ := by
  obtain ⟨⟨o, es, h1, h2, h3, h4⟩, _, _⟩ := I.hok d _ h
  refine ⟨es, ⟨o, h1, h2, h3⟩, ?_, h4⟩
  have := congrArg List.length h4
  simpa using this
end
theorem es_get {es : Array DictEntry} {w : World} {xs : List (NestedKey × Addr × Value)} (h4 : es.toList = xs.map fun x => (⟨NestedKey.hash w x.1, .ref x.2.1, x.2.2⟩ : DictEntry)) {i : Nat} (hi : i < es.size) : ∃ y, xs[i]? = some y ∧ es[i].key = .ref y.2.1 ∧ es[i].val = y.2.2 := by
  have e := congrArg (fun l => l[i]?) h4
  simp only [Array.getElem?_toList, Array.getElem?_eq_getElem hi, List.getElem?_map] at e
  cases hx : xs[i]? with
  | none => rw [hx] at e; cases e
  | some y =>
    rw [hx] at e
    have e2 := Option.some.inj e
    exact ⟨y, rfl, by rw [e2], by rw [e2]⟩
theorem turn_x {P : Program} {w : World} {K : PySem.W.Frag} {elts : List Expr} {kk : Nat} {tpos : Pos} {d : Addr} {ep : Nat} {xs : List (NestedKey × Addr × Value)} (it : Addr) :
    Turn P w K (.Tuple elts kk tpos) (ItX w d ep xs) [it] it (fun i h => ∃ ok ov, IsItemIter h it d i xs.length ep ok ov) where
  mem := by simp
  obj := fun i h st b hb => by
    have e : b = it := by simpa using hb
    subst e
    obtain ⟨ok, ov, e⟩ := st
    exact ⟨_, e, fun v z => nomatch z⟩
  keep := fun i h h' st k => let ⟨ok, ov, e⟩ := st; ⟨ok, ov, k it (by simp) _ e⟩
  item := by
    intro X hP hw hK hc i pins s σ H E I hf st hg
    subst hP hw hK
    obtain ⟨hd, v, y, hx, rv⟩ := hg
    obtain ⟨es, hraw, hsz, hes⟩ := nd_raw I hd
    have hi : i < es.size := by rw [hsz]; exact (List.getElem?_eq_some_iff.mp hx).1
    obtain ⟨y1, hy1, hk1, hv1⟩ := es_get hes hi
    have ey : y1 = y := Option.some.inj (hy1.symm.trans hx)
    subst ey
    obtain ⟨ok, ov, he⟩ := st
    rw [← hsz] at he
    have hlt : it < s.heap.objs.size := Heap.lt_size he
    refine wpAny_pyNext_items_item_raw he hraw hi fun h' ho hT hz hk => ?_
    refine ⟨_, rfl, wpAny_letOwnedTupleGo_items (s := { s with heap := h' }) ho fun h'' he' sb => ?_⟩
    have hT2 : h''.get? s.heap.objs.size = some { cls := .type "tuple", data := .seq #[es[i].key, es[i].val] } := (sb.2 _ (Nat.ne_of_gt hlt)).trans hT
    have new : ObjOk X.prog X.w (upd H s.heap.objs.size (.tup [.ref y1.2.1, v])) h'' s.heap.objs.size (.tup [.ref y1.2.1, v]) :=
      ⟨by show 2 ≤ sizeLine; decide, [es[i].key, es[i].val], .cons (by rw [hk1]; rfl) (.cons (by rw [hv1]; exact rv) .nil), ⟨_, hT2, rfl, _, rfl⟩⟩
    have I1 : Inv X pins σ (upd H s.heap.objs.size (.tup [.ref y1.2.1, v])) { s with heap := h'' } :=
      I.turnedNew (t' := s.toks) (ch := [it]) (fun b ob hb e => (sb.2 b (by simpa using hb)).trans (hk b ob (by simpa using hb) e)) hf (Nat.le_refl _) new
    refine ⟨.ref s.heap.objs.size, _, I1, rfl, ⟨_, y1.2.1, v, rfl, I.hok.fresh (Nat.le_refl _), rfl, fun ep' xs' hd' => ?_⟩, ⟨es[i].key, es[i].val, ?_⟩, fun b hb => ?_⟩
    · obtain ⟨es', hraw', hsz', hes'⟩ := nd_raw I hd'
      obtain ⟨o, a1, a2, a3⟩ := hraw
      obtain ⟨o', b1, b2, b3⟩ := hraw'
      rw [a1] at b1
      cases b1
      rw [a3] at b3
      cases b3
      obtain ⟨y2, hy2, hk2, hv2⟩ := es_get hes' hi
      refine ⟨y2, hy2, ?_, ?_⟩
      · have := hk2.symm.trans hk1
        injection this
      · rw [← hv2, hv1]; exact rv
    · rw [← hsz]; exact he'
    · have e : b = it := by simpa using hb
      rw [e, upd_ne (Nat.ne_of_lt hlt)]
      exact (hf it (by simp)).1
  done := by
    intro X hP hw hK hc i pins s σ H E I hf st hg
    subst hP hw hK
    obtain ⟨hd, hi⟩ := hg
    obtain ⟨f0, f1, f2, f3, f4, f5⟩ := hf it (by simp)
    obtain ⟨es, hraw, hsz, hes⟩ := nd_raw I hd
    obtain ⟨ok, ov, he⟩ := st
    rw [← hsz] at he
    exact wpAny_pyNext_items_end_raw (I.ok.hd hc) he hraw (by omega) fun h' eb => ⟨rfl, I.turned (t' := s.toks) (fun b ob hb e => eb b ob hb e) f0 f1 f3 f4 f5⟩
  self := fun A i s Q E st h => let ⟨_, _, e⟩ := st; PySem.W.kcp_self e h
def iItemsX (w : World) (td : TE) : TI := fun σ H R => td σ H fun x H1 => ∃ d ep xs, x = .ref d ∧ NdAt w H1 d xs ∧ H1 d = some (ndHO w d ep xs) ∧ R (ItX w d ep xs) H1
theorem pi_itemsX {X : Cx} {e : Expr} {td : TE} {apos cpos tpos : Pos} {elts : List Expr} {kk : Nat} (he : PE X e td) (hbase : attributeBase e "items" X.env (eval e X.env) = eval e X.env := by rfl) (hline : (apos.endLine == cpos.line) = true := by rfl) :
    PI X (.Tuple elts kk tpos) (.Call (.Attribute e "items" apos) [] [] cpos) (iItemsX X.w td) := by
  refine ⟨fun pins s σ H R I h => ?_⟩
  refine wpAny_Call_method (T := "dict") (id := "dict.items") hbase rfl hline F.plainAttrs_dict F.slot_dict_items F.type_dict_items (thn (he.run pins s σ H _ I h) fun u s1 ⟨x, H1, I1, rx, d, ep, xs, ex, nd, hd, q⟩ => ?_)
  subst ex
  obtain rfl : u = Value.ref d := rx
  obtain ⟨t1, t2⟩ := tyD_is I1 (show RelV (.ref d) (.ref d) from rfl) (.inl ⟨d, xs, rfl, nd⟩)
  obtain ⟨es, hraw, hsz, hes⟩ := nd_raw I1 hd
  refine ⟨t1, t2, ?_⟩
  have I2 : Inv X pins σ H1 { s1 with heap := s1.heap.push { cls := .type "dict_items", data := .fields #[.ref d] } } := I1.kept (t' := s1.toks) fun b ob q => Heap.get?_push_of_some _ q
  have fin : wpAny (model X.prog X.w) X.A (pyIter (.ref s1.heap.objs.size)) (PIE X pins σ (.Tuple elts kk tpos) R) X.xe { s1 with heap := s1.heap.push { cls := .type "dict_items", data := .fields #[.ref d] } } := by
    refine wpAny_pyIter_items_raw (d := d) ⟨_, Heap.get?_push_size _ rfl, rfl, rfl⟩ (hraw.push _) (pi_one (tk := s1.toks) I2 _ (turn_x _) ⟨.none, .none, ?_⟩ q)
    rw [← hsz]
    exact Heap.get?_push_size _ rfl
  show wpAny _ _ (callWith cpos (.builtin "dict.items") [.ref d] [] []) _ X.xe s1
  exact method_meetsIn F.slot_dict_items F.entry_dict_items rfl (PySem.evalArgs_none ⟨rfl, t1, F.args_dict_items_1 _, _, meets_dict_items_raw d nd.sys, ⟨es, ep, hraw⟩, fin⟩)
def prD (ks vs : List D) : List D := List.zipWith (fun k v => D.tup [k, v]) ks vs
def fItems (fe : FE) : FI := fun A => (fe A).bind fun d A1 => match closeD d A1 with
  | some (d', A2) => match fz d' with
    | .fdi true ks vs => .ok (prD ks vs) A2
    | _ => .stuck
  | none => .stuck
section
variable {z : Z} {X : Cx} {fe : FE}
theorem itd_x {d : Addr} {ep : Nat} {xs : List (NestedKey × Addr × Value)} {ks ds : List D} {ws0 : List V} (hv0 : Vals ws0 (xs.map (·.2.2))) (hlen : xs.length = (prD ks ds).length) : ItD z (ItX z.K.w d ep xs) [(.ref d, .fdi true ks ds), (.ref d, .exc (ndHO z.K.w d ep xs))] (prD ks ds) := by
  have key : ∀ (σ : L2.St) (A : Sl) (ts : Ts) (H : Hp), z.A σ A ([(.ref d, .fdi true ks ds), (.ref d, .exc (ndHO z.K.w d ep xs))] ++ ts) H → ∃ G ep' ys ws, Same G H ∧ H d = some (ndHO z.K.w d ep xs) ∧ ndHO z.K.w d ep xs = ndHO z.K.w d ep' ys ∧ Vals ws (ys.map (·.2.2)) ∧ Rs z.K G H (ys.map fun x => V.ref x.2.1) ks [] ∧ Rs z.K G H ws ds [] ∧
      Fin z.K z.B σ A ([(.ref d, .fdi true ks ds), (.ref d, .exc (ndHO z.K.w d ep xs))] ++ ts) H G := by
    intro σ A ts H h
    obtain ⟨G, L1, L2, gd, tm, sl, nd, ow⟩ := id h
    have f : Fin z.K z.B σ A ([(.ref d, .fdi true ks ds), (.ref d, .exc (ndHO z.K.w d ep xs))] ++ ts) H G := fun w e H' G' L' he g1 g2 g3 r rn rf => step_core gd tm sl nd ow he g1 g2 g3 r rn rf
    have gh := gd.gh
    cases tm with
    | cons r1 t1 =>
      cases t1 with
      | cons r2 t2 =>
        cases r2 with
        | pin q2 =>
          cases r1 with
          | fdi q1 dc rk rv =>
            have e0 := q1.symm.trans q2
            have e1 := Option.some.inj e0
            subst e1
            generalize hu : ndHO z.K.w d ep xs = u at dc
            have hd : H d = some u := by rw [← hu]; exact gh _ _ q2
            obtain ⟨ys, ⟨ep', e3⟩, nda, rfl, hv, hks⟩ := dc.nds gh hd rk
            exact ⟨G, ep', ys, _, gh, hd, e3, hv, rk, rv, by rw [← hu]; exact f⟩
  have val : ∀ {G H : Hp} {ys : List (NestedKey × Addr × Value)} {ws : List V} {i : Nat} {e : D}, Vals ws (ys.map (·.2.2)) → Rs z.K G H (ys.map fun x => V.ref x.2.1) ks [] → Rs z.K G H ws ds [] → (prD ks ds)[i]? = some e → ∃ y w k v, ys[i]? = some y ∧ RelV w y.2.2 ∧ e = .tup [k, v] ∧ R z.K G H (.ref y.2.1) k [] ∧ R z.K G H w v [] := by
    intro G H ys ws i e hv rk rv he
    unfold prD at he
    rw [List.getElem?_zipWith] at he
    cases hk : ks[i]? with
    | none => rw [hk] at he; cases he
    | some k =>
      cases hd : ds[i]? with
      | none => rw [hk, hd] at he; cases he
      | some v =>
        rw [hk, hd] at he
        cases he
        obtain ⟨a, La, h1, h2, h3⟩ := rk.getD hk
        obtain ⟨w, Lw, h4, h5, h6⟩ := rv.getD hd
        rw [List.sublist_nil.mp h3] at h2
        rw [List.sublist_nil.mp h6] at h5
        rw [List.getElem?_map] at h1
        cases hy : ys[i]? with
        | none => rw [hy] at h1; cases h1
        | some y =>
          rw [hy] at h1
          cases h1
          obtain ⟨r, h7, h8⟩ := hv.get h4
          rw [List.getElem?_map, hy] at h7
          cases h7
          exact ⟨y, w, k, v, rfl, h8, rfl, h2, h5⟩
  refine ⟨fun σ A ts H i h hi => ?_, fun σ A ts H i x H' e h he hyl => ?_, fun σ A ts H i h hi => ?_⟩
  · obtain ⟨G, ep', ys, ws, gh, hd, hu, hv, rk, rv, f⟩ := key σ A ts H h
    refine ⟨hd, ?_⟩
    have hx : i < xs.length := by rw [hlen]; exact hi
    have h0 : i < ws0.length := by have := hv0.length; rw [List.length_map] at this; omega
    obtain ⟨r, h7, h8⟩ := hv0.get (List.getElem?_eq_getElem h0)
    rw [List.getElem?_map, List.getElem?_eq_getElem hx] at h7
    cases h7
    exact ⟨_, xs[i], List.getElem?_eq_getElem hx, h8⟩
  · obtain ⟨G, ep', ys, ws, gh, hd, hu, hv, rk, rv, f⟩ := key σ A ts H h
    obtain ⟨T, b, v, rfl, hT, rfl, g1⟩ := hyl
    obtain ⟨y, w, k, v2, h1, h2, rfl, h4, h5⟩ := val hv rk rv he
    obtain ⟨y2, h6, h7, h8⟩ := g1 ep' ys (by rw [← hu]; exact hd)
    have e1 : y2 = y := Option.some.inj (h6.symm.trans h1)
    subst e1
    have e2 : v = w := RelV.inj h8 h2
    subst e2
    subst h7
    exact f.tup gh (.cons (L := []) (L' := []) h4 (.cons (L := []) (L' := []) h5 .nil)) hT
  · obtain ⟨G, ep', ys, ws, gh, hd, hu, hv, rk, rv, f⟩ := key σ A ts H h
    exact ⟨hd, by rw [hlen]; exact hi⟩
theorem qi_items {e : Expr} {apos cpos tpos : Pos} {elts : List Expr} {kk : Nat} (hW : X.w = z.K.w) (he : PE X e (tE z fe)) (hbase : attributeBase e "items" X.env (eval e X.env) = eval e X.env := by rfl) (hline : (apos.endLine == cpos.line) = true := by rfl) :
    PI X (.Tuple elts kk tpos) (.Call (.Attribute e "items" apos) [] [] cpos) (tI z (fItems fe)) := by
  refine ⟨fun pins s σ H R I w => (pi_itemsX he hbase hline).run pins s σ H R I ?_⟩
  obtain ⟨A, ts, hA, hp⟩ := w
  refine ⟨A, ts, hA, ?_⟩
  unfold fItems at hp
  cases ee : fe A with
  | stuck => rw [ee] at hp; exact (show False from hp).elim
  | exc c A1 => rw [ee] at hp; exact hp
  | ok d A1 =>
    rw [ee] at hp
    simp only [Ou.bind_ok] at hp
    intro v H1 h1
    split at hp
    · rename_i d' A2 ec
      obtain ⟨h2, n2⟩ := h1.closeD ec
      have h3 := h2.fz n2
      split at hp
      · rename_i ks vs ef
        rw [ef] at h3
        obtain ⟨G, L1, L2, gd, tm, sl, nd, ow⟩ := id h3
        cases tm with
        | cons r1 t1 =>
          cases r1 with
          | fdi q1 dc rk rv =>
            rename_i p o kv ws
            have hd : H1 p = some o := gd.gh _ _ q1
            obtain ⟨xs, ⟨ep, rfl⟩, nda, rfl, hv, hks⟩ := dc.nds gd.gh hd rk
            have l1 := congrArg List.length hks
            have l2 := hv.length
            have l3 := rv.length
            simp only [List.length_map] at l1 l2
            have hlen : xs.length = (prD ks vs).length := by unfold prD; rw [List.length_zipWith]; omega
            have h4 : z.A σ A2 ([(.ref p, .fdi true ks vs), (.ref p, .exc (ndHO z.K.w p ep xs))] ++ ts) H1 :=
              ⟨G, _, L2, gd, .cons (L := []) (.fdi q1 (.nd nda.sys nda.len nda.nd (fun x hx => (nda.ks x hx).1) hv hks) rk rv) (.cons (L := []) (.pin q1) t1), sl, nd, ow⟩
            rw [hW]
            exact ⟨p, ep, xs, rfl, nda, hd, hp _ _ _ (fun p m j e => by
              rcases List.mem_cons.mp m with rfl | m
              · cases e
              · rw [List.mem_singleton.mp m] at e; cases e) (itd_x hv hlen) h4⟩
      · exact (show False from hp).elim
    · exact (show False from hp).elim
end
/-! ### x[k].clear() -/
theorem Abs.nclr {K : Fw} {B : Bs} {σ : L2.St} {A : Sl} {ts : Ts} {H : Hp} {v : V} {ds es : List D} {j : Nat} (h : Abs K B σ A ((v, .mu ds) :: ts) H) (hj : ds[j]? = some (.mu es)) (he : isFs es = true) :
    ∃ q vs p ws, v = .ref q ∧ H q = some (.lst vs) ∧ vs.length = ds.length ∧ vs[j]? = some (.ref p) ∧ H p = some (.lst ws) ∧ Abs K B σ A ((v, .mu (ds.set j (.mu []))) :: ts) (upd H p (.lst [])) := by
  obtain ⟨G, L1, L2, gd, tm, sl, nd, ow⟩ := h
  cases tm with
  | cons r2 t =>
    cases r2 with
    | mu hq gp rs =>
      rename_i Lt q vs L
      obtain ⟨p, ws, h1, h2, h3, h4, h5⟩ := inner_core (dnew := .mu (ds.set j (.mu []))) gd t sl hq gp rs nd ow hj he
      exact ⟨q, vs, p, ws, rfl, hq, rs.length, h1, h2, h5 _ _ .nil fun H' M e1 m => .mu e1 gp m⟩
def fNClr (i : Nat) (fk : FE) : FE := fun A => match slotL i A with
  | none => .stuck
  | some _ => (fk A).bind fun kd A1 => match kd, slotL i A1 with
    | .int k, some ds => match ixN ds.length k with
      | some m => match ds[m]? with
        | some (.mu es) => if isFs es = true then .ok .non (A1.set i (some (.mu (ds.set m (.mu []))))) else .stuck
        | _ => .stuck
      | none => .stuck
    | _, _ => .stuck
section
variable {z : Z} {X : Cx} {fk : FE}
theorem nclr_go {i : Nat} {σ : L2.St} {H : Hp} {Q : VK} (h : tE z (fNClr i fk) σ H Q) : tBM0 z.K "list" rClear (tOp (rIxL z.K) (tVar i) (tE z fk)) σ H Q := by
  obtain ⟨A, ts, hA, hp⟩ := h
  unfold fNClr at hp
  split at hp
  · exact (show False from hp).elim
  · rename_i ds0 e0
    obtain ⟨p0, xs0, ev, hp0, _, h1⟩ := hA.slotAl (slotL_get e0)
    refine ⟨.ref p0, ev, A, (.ref p0, .al i) :: ts, h1, ?_⟩
    cases ek : fk A with
    | stuck => rw [ek] at hp; exact (show False from hp).elim
    | exc c A2 => rw [ek] at hp; exact fun H' h' => hp H' h'.drop
    | ok kd A1 =>
      rw [ek] at hp
      simp only [Ou.bind_ok] at hp
      intro u H1 h2
      split at hp
      · rename_i k ds es
        split at hp
        · rename_i m hm
          split at hp
          · rename_i ee he
            split at hp
            · rename_i hc
              have eu := h2.int
              have h3 : z.A σ A1 ((.ref p0, .al i) :: ts) H1 := h2.drop
              obtain ⟨q, vs, p, ws, eq, hq, hl, hj, hpp, h6⟩ := (h3.move (slotL_get es)).nclr he hc
              cases eq
              have h7 := h6.put (fun j q => nomatch q) (set_none_get (slotL_get es)) ev
              rw [List.set_set] at h7
              have hat : atI vs k = some (.ref p) := by
                unfold atI
                rw [hl, hm]
                exact hj
              exact ⟨p0, vs, k, .ref p, rfl, eu, .inl (.inl hq), hat, tyV_lst hpp, p, ws, rfl, rfl, hpp, hp _ _ h7.pnon⟩
            · exact (show False from hp).elim
          · exact (show False from hp).elim
        · exact (show False from hp).elim
      · exact (show False from hp).elim
theorem qe_nclr {i : Nat} {o k : Expr} {p1 apos cpos : Pos} (hK : X.K = z.K) (ho : PE X o (tVar i)) (hk : PE X k (tE z fk)) (hs0 : PlainIx k)
    (hbase : attributeBase (.Subscript o k p1) "clear" X.env (eval (.Subscript o k p1) X.env) = eval (.Subscript o k p1) X.env := by rfl) (hline : (apos.endLine == cpos.line) = true := by rfl) :
    PE X (.Call (.Attribute (.Subscript o k p1) "clear" apos) [] [] cpos) (tE z (fNClr i fk)) :=
  PE.imp (pe_bm0 PySem.F.plainAttrs_list PySem.F.slot_list_clear PySem.F.type_list_clear mt_clear (pe_ix ix_list ho hk hs0) hbase hline) fun _ _ _ h => by rw [hK]; exact nclr_go h
end
/-! ### d.pop(k, []) -/
theorem Abs.sw2 {K : Fw} {B : Bs} {σ : L2.St} {A : Sl} {ts : Ts} {H : Hp} {a b : V × D} (h : Abs K B σ A (a :: b :: ts) H) : Abs K B σ A (b :: a :: ts) H := h.perm (List.Perm.swap _ _ _)
section
variable {K : Fw} {G H : Hp}
theorem Rs.erase : ∀ {vs : List V} {ds : List D} {L : List Addr} {m : Nat} {d : D}, Rs K G H vs ds L → ds[m]? = some d → ∃ x Lx N, vs[m]? = some x ∧ R K G H x d Lx ∧ Rs K G H (vs.eraseIdx m) (ds.eraseIdx m) N ∧ L.Perm (Lx ++ N)
  | _, _, _, _, _, .nil, e => by simp at e
  | _, _, _, 0, d, .cons (L := La) (L' := Lb) r t, e => by
    simp at e
    subst e
    exact ⟨_, La, Lb, rfl, r, t, .refl _⟩
  | _, _, _, m + 1, d, .cons (L := La) (L' := Lb) r t, e => by
    obtain ⟨x, Lx, N, h1, h2, h3, h4⟩ := Rs.erase (m := m) t (by simpa using e)
    refine ⟨x, Lx, La ++ N, by simpa using h1, h2, .cons r h3, ?_⟩
    refine (List.Perm.append_left _ h4).trans ?_
    rw [← List.append_assoc, ← List.append_assoc]
    exact List.Perm.append_right _ List.perm_append_comm
theorem Rs.erase_nil {vs : List V} {ds : List D} {m : Nat} (r : Rs K G H vs ds []) : Rs K G H (vs.eraseIdx m) (ds.eraseIdx m) [] := by
  cases e : ds[m]? with
  | none =>
    have h1 := List.getElem?_eq_none_iff.mp e
    rw [List.eraseIdx_of_length_le h1, List.eraseIdx_of_length_le (by rw [r.length]; exact h1)]
    exact r
  | some d =>
    obtain ⟨x, Lx, N, _, _, h3, h4⟩ := r.erase e
    have := h4.symm.eq_nil
    obtain ⟨_, e2⟩ := List.append_eq_nil_iff.mp this
    subst e2
    exact h3
end
theorem Vals.eraseIdx : ∀ {vs : List V} {us : List Value} (m : Nat), Vals vs us → Vals (vs.eraseIdx m) (us.eraseIdx m)
  | _, _, _, .nil => by simpa using Paired.nil
  | _, _, 0, .cons r t => t
  | _, _, m + 1, .cons r t => .cons r (Vals.eraseIdx m t)
theorem without_ix {xs : List (NestedKey × Addr × Value)} {k : NestedKey} {m : Nat} (nd : (xs.map (·.1)).Nodup) (h : (xs.findIdx? fun x => decide (x.1 = k)) = some m) : withoutH xs k = xs.eraseIdx m := by
  obtain ⟨x, h1, h2⟩ := findIx_lt h
  have e : x.1 = k := of_decide_eq_true h2
  obtain ⟨a, b⟩ := x
  subst e
  exact (eraseIdx_withoutH nd h1).symm
theorem Abs.dpop {K : Fw} {B : Bs} {σ : L2.St} {A : Sl} {ts : Ts} {H : Hp} {v : V} {ks ds : List D} {k : NestedKey} {m : Nat} {r : D} (h : Abs K B σ A ((v, .mdi true ks ds) :: ts) H) (hm : ixD ks k = some m) (hr : ds[m]? = some r) :
    ∃ p xs x a u, v = .ref p ∧ NdAt K.w H p xs ∧ atKey xs k = some (a, u) ∧ RelV x u ∧ ∀ ep, Abs K B σ A ((x, r) :: (v, .mdi true (ks.eraseIdx m) (ds.eraseIdx m)) :: ts) (upd H p (ndHO K.w p ep (withoutH xs k))) := by
  obtain ⟨G, L1, L2, gd, tm, sl, nd, ow⟩ := h
  cases tm with
  | cons r2 t =>
    cases r2 with
    | mdi hq gp dc rk rv =>
      rename_i Lt p o kv ws L
      obtain ⟨xs, ⟨_, rfl⟩, nda, rfl, hv, hks⟩ := dc.nds gd.gh hq rk
      obtain ⟨x, Lx, N, h1, h2, h3, h4⟩ := rv.erase hr
      have hix : (xs.findIdx? fun x => decide (x.1 = k)) = some m := by rw [← ixD_nd hks]; exact hm
      obtain ⟨y, hy, _⟩ := findIx_lt hix
      obtain ⟨u, hu, ru⟩ := hv.get h1
      rw [List.getElem?_map, hy] at hu
      cases hu
      refine ⟨p, xs, x, y.2.1, y.2.2, rfl, nda, by rw [atKey_ix, hix]; show (xs[m]?).map (·.2) = _; rw [hy]; rfl, ru, fun ep => ?_⟩
      have pp : (((p :: L) ++ Lt) ++ L2).Perm (((p :: N) ++ (Lx ++ Lt)) ++ L2) := by
        refine List.Perm.append_right _ ?_
        rw [List.cons_append, List.cons_append]
        refine List.Perm.cons _ ?_
        refine (List.Perm.append_right _ (h4.trans List.perm_append_comm)).trans ?_
        rw [List.append_assoc]
      have nd' := nodup_perm pp nd
      have ow' : ∀ a ∈ ((p :: N) ++ (Lx ++ Lt)) ++ L2, Own B a := fun a ha => ow a (pp.mem_iff.mpr ha)
      have own := h3.own
      have np : p ∉ N := fun ha => (List.nodup_cons.mp nd').1 (List.mem_append_left _ (List.mem_append_left _ ha))
      have hxl : (withoutH xs k).length ≤ xs.length := withoutH_length xs k
      have ew := without_ix nda.nd hix
      have e1 : ((withoutH xs k).map fun x => V.ref x.2.1) = (xs.map fun x => V.ref x.2.1).eraseIdx m := by rw [ew, map_eraseIdx]
      have e2 : ((withoutH xs k).map (·.2.2)) = (xs.map (·.2.2)).eraseIdx m := by rw [ew, map_eraseIdx]
      have e3 : (ks.eraseIdx m).map nkD = (withoutH xs k).map fun x => some x.1 := by rw [map_eraseIdx, hks, ew, map_eraseIdx]
      refine Abs.sw2 (dmut_core (d' := .mdi true (ks.eraseIdx m) (ds.eraseIdx m)) (L' := N) gd (.cons h2 t) sl (by rw [hq]; exact fun z => nomatch z) gp (fun a ha => (own a ha).1) (.mdi (kv := (withoutH xs k).map fun x => V.ref x.2.1) (vs := ws.eraseIdx m) upd_same gp (.nd nda.sys (Nat.le_trans hxl nda.len) (nodup_withoutH nda.nd k) (fun y hy => (nda.ks y (mem_withoutH hy)).1) (by rw [e2]; exact hv.eraseIdx m) e3) ?_ ?_) nd' ow')
      · rw [e1]; exact rk.erase_nil.free fun _ _ e => e
      · exact h3.mono (fun _ _ e => e) fun a ha => ⟨upd_ne (fun z => np (by rw [← z]; exact ha)), (own a ha).1⟩
def rPopN (w : World) : V → List V → Hp → VK → Prop := fun x as H Q => ∃ p b xs k v, x = .ref p ∧ as = [.ref b, v] ∧ NdAt w H p xs ∧ NkV H (.ref b) k ∧ k.depth ≤ 8 ∧
  (∀ a r, atKey xs k = some (a, r) → ∃ v', RelV v' r ∧ ∀ ep, Q v' (upd H p (ndHO w p ep (withoutH xs k)))) ∧ (atKey xs k = none → Q v H)
section
variable {X : Cx}
theorem mt_popN (hu : X.A.units + 65 < cLine) : MtR X "dict.pop" (rPopN X.w) := by
  intro pins s σ H x as v us Q I rx ra ⟨p, b, xs, k, v0, e1, e2, nd, nk, hd, q1, q2⟩
  subst e1; subst e2
  cases (show v = Value.ref p from rx)
  obtain ⟨u, r, rfl, ru, rr⟩ := Vals.two ra
  cases (show u = Value.ref b from ru)
  cases hat : atKey xs k with
  | none => exact call_pop_default_heap (hsz := nd.len) (nk_room hu) (nk_is I nk hd) nd.sys (nd.of I) hat fun tk => ⟨v0, H, I.tok _, rr, q2 hat⟩
  | some ar =>
    obtain ⟨a, r1⟩ := ar
    obtain ⟨v', rv, q⟩ := q1 a r1 hat
    refine call_pop_heap (hsz := nd.len) (more := [r]) (.inr ⟨_, rfl⟩) (F.args_dict_pop_3 _ _ _) (nk_room hu) (nk_is I nk hd) nd.sys (nd.of I) hat fun h' dd hs => ?_
    have he : ∃ q, h'.get? p = some q := let ⟨q, _, _, hq, _⟩ := dd; ⟨q, hq⟩
    obtain ⟨ep, ob⟩ := nd_obj dd
    obtain ⟨e0, hep⟩ := nd.hp
    exact ⟨v', _, d_write I (by rw [hep]; exact True.intro) hs he (ob _), rv, q ep⟩
end
def fPop (i : Nat) (fk : FE) : FE := fun A => match slotD i A with
  | none => .stuck
  | some _ => (fk A).bind fun kd A1 => match slotD i A1 with
    | some (n, ks, ds) => match keyOk n kd with
      | some k => if n = true then match ixD ks k with
        | some m => match ds[m]? with
          | some r => match r with
            | .mu es => .ok (.mu es) (A1.set i (some (.mdi n (ks.eraseIdx m) (ds.eraseIdx m))))
            | _ => .stuck
          | none => .stuck
        | none => .ok (.mu []) A1
        else .stuck
      | none => .stuck
    | none => .stuck
section
variable {z : Z} {X : Cx} {fk : FE}
theorem pop_go {i : Nat} {σ : L2.St} {H : Hp} {Q : VK} (h : tE z (fPop i fk) σ H Q) : tBD z.K.w (rPopN z.K.w) (tVar i) (L2.tCons (tE z fk) (L2.tCons (tLst L2.tNil) L2.tNil)) σ H Q := by
  obtain ⟨A, ts, hA, hp⟩ := h
  unfold fPop at hp
  split at hp
  · exact (show False from hp).elim
  · rename_i q0 e0
    obtain ⟨n0, ks0, ds0⟩ := q0
    obtain ⟨p0, ev, h1⟩ := hA.slotAlD (slotD_get e0)
    have s0 : see A (.al i) = .mdi n0 ks0 ds0 := by simp [see, slotD_get e0]
    refine ⟨.ref p0, ev, h1.tyD (by rw [s0]; rfl), A, (.ref p0, .al i) :: ts, h1, ?_⟩
    cases ek : fk A with
    | stuck => rw [ek] at hp; exact (show False from hp).elim
    | exc c A2 => rw [ek] at hp; exact fun H' h' => hp H' h'.drop
    | ok kd A1 =>
      rw [ek] at hp
      simp only [Ou.bind_ok] at hp
      intro u H1 h2
      split at hp
      · rename_i n ks ds es
        split at hp
        · rename_i k hk
          split at hp
          · rename_i hn
            subst hn
            refine ⟨by show 0 ≤ sizeLine; exact Nat.zero_le _, fun q hq => ?_⟩
            have h6 := (h2.swapMove (slotD_get es))
            have h7 : z.A σ (A1.set i none) ((u, kd) :: (.ref p0, .mdi true ks ds) :: ts) (upd H1 q (.lst [])) := h6.same (same_new hq)
            obtain ⟨b, rfl, nk, hd⟩ := h7.key hk
            have h8 : z.A σ (A1.set i none) ((.ref p0, .mdi true ks ds) :: ts) (upd H1 q (.lst [])) := h7.drop
            split at hp
            · rename_i m hm
              split at hp
              · rename_i r he
                split at hp
                · rename_i es2
                  obtain ⟨p, xs, x, a, uu, eq, nd, hat, ru, h9⟩ := h8.dpop hm he
                  cases eq
                  refine ⟨p0, b, xs, k, .ref q, rfl, rfl, nd, nk, hd, fun a' r' hat' => ?_, fun hn => by rw [hat] at hn; cases hn⟩
                  rw [hat] at hat'
                  cases hat'
                  refine ⟨x, ru, fun ep => ?_⟩
                  have h10 := (Abs.sw2 (h9 ep)).put (fun j q => nomatch q) (set_none_get (slotD_get es)) ev
                  rw [List.set_set] at h10
                  exact hp _ _ h10
                · exact (show False from hp).elim
              · exact (show False from hp).elim
            · rename_i hm
              obtain ⟨G, L, gh, rr, _⟩ := h8.open (fun j q => nomatch q)
              have rr : Ab.R z.K G _ (.ref p0) (.mdi true ks ds) L := rr
              cases rr with
              | mdi hq2 gp dc rk rv =>
                obtain ⟨xs, ⟨_, rfl⟩, nd, rfl, hv, hks⟩ := dc.nds gh hq2 rk
                have hat : atKey xs k = none := by rw [atKey_ix, ← ixD_nd hks, hm]; rfl
                refine ⟨p0, b, xs, k, .ref q, rfl, rfl, nd, nk, hd, (fun a' r' hat' => by rw [hat] at hat'; cases hat'), fun _ => ?_⟩
                have h9 : z.A σ A1 ts H1 := h2.drop.drop
                exact hp _ _ (by
                  have := Abs.lst (K := z.K) (B := z.B) (vs := []) (ds := []) rfl rfl h9 hq
                  exact this)
          · exact (show False from hp).elim
        · exact (show False from hp).elim
      · exact (show False from hp).elim
theorem qe_pop {i : Nat} {o k : Expr} {p3 apos cpos : Pos} (hu : X.A.units + 65 < cLine) (hK : X.K = z.K) (hW : X.w = z.K.w) (ho : PE X o (tVar i)) (hk : PE X k (tE z fk))
    (hbase0 : attributeBase o "pop" X.env (eval o X.env) = eval o X.env := by rfl)
    (hfew0 : ((backTo cpos (starEach [k, .List [] p3] X.env)).all (fun x => !x.1) && (backToKw cpos (keywordEach [] X.env)).all (fun x => x.1.isSome)
      && decide ([k, Expr.List [] p3].length + ([] : List Keyword).length + (if ([] : List Keyword).isEmpty then 0 else 1) < 30)) = true := by rfl)
    (hline0 : (apos.endLine == cpos.line) = true := by rfl) (hs0 : starEach [k, .List [] p3] X.env = (false, eval k X.env) :: starEach [.List [] p3] X.env := by rfl) (hs1 : starEach [.List [] p3] X.env = (false, eval (.List [] p3) X.env) :: starEach [] X.env := by rfl) (hplain0 : (backTo cpos (starEach [.List [] p3] X.env)).any (·.1) = false := by rfl) :
    PE X (.Call (.Attribute o "pop" apos) [k, .List [] p3] [] cpos) (tE z (fPop i fk)) :=
  PE.imp (pe_bd PySem.F.plainAttrs_dict PySem.F.slot_dict_pop PySem.F.type_dict_pop (mt_popN hu) ho (pa_cons hk (pa_cons (pe_lst pa_nil) pa_nil hs1) hs0) hbase0 hfew0 hline0 hs0 hplain0) fun _ _ _ h => by rw [hW]; exact pop_go h
end
/-! ### list(range(n)) -/
def fListRange (fe : FE) : FE := fun A => (fe A).bind fun d A1 => match d with
  | .int n => if n.natAbs ≤ 16777216 then .ok (.mu (((List.range n.toNat).map fun i : Nat => (i : Int)).map D.int)) A1 else .stuck
  | _ => .stuck
theorem rgV_nat (n : Int) : rgV 0 n = (((List.range n.toNat).map fun i : Nat => (i : Int)).map V.int) := by
  unfold rgV
  rw [List.map_map, Int.sub_zero]
  exact List.map_congr_left fun i _ => by simp
section
variable {z : Z} {X : Cx} {fe : FE}
theorem qe_listRange {e : Expr} {p p2 pos pos2 : Pos} (hc : X.calm = true) (hg : Gl X "list") (hm : X.mg "list" = none) (hg2 : Gl X "range") (hm2 : X.mg "range" = none) (he : PE X e (tE z fe)) (ha : starEach [e] X.env = (false, eval e X.env) :: starEach [] X.env := by rfl)
    (na : starEach [.Call (.Name "range" p2) [e] [] pos2] X.env = (false, eval (.Call (.Name "range" p2) [e] [] pos2) X.env) :: starEach [] X.env := by rfl) :
    PE X (.Call (.Name "list" p) [.Call (.Name "range" p2) [e] [] pos2] [] pos) (tE z (fListRange fe)) := by
  refine PE.imp (pe_listRg hc hg hm (prg_1 hg2 hm2 he ha) na) fun σ H Q ⟨A, ts, hA, hp⟩ => ⟨A, ts, hA, ?_⟩
  unfold fListRange at hp
  cases ee : fe A with
  | stuck => rw [ee] at hp; exact (show False from hp).elim
  | exc c A1 => rw [ee] at hp; exact hp
  | ok d A1 =>
    rw [ee] at hp
    simp only [Ou.bind_ok] at hp
    intro v H1 h1
    split at hp
    · rename_i n
      split at hp
      · rename_i hn
        obtain ⟨G, L, gh, r, f⟩ := h1.open (fun j q => nomatch q)
        have r : Ab.R z.K G H1 v (.int n) L := r
        cases r
        refine ⟨n, rfl, ⟨by omega, by omega, by omega, by omega, by omega⟩, fun q hq => ?_⟩
        rw [rgV_nat]
        exact hp _ _ (f.lst gh (rs_of_ints _) hq)
      · exact (show False from hp).elim
    · exact (show False from hp).elim
end
/-! ### from here on a slot's list is only read -/
def fFzS (i : Nat) (f : FS) : FS := fun A => match slotL i A with
  | some ds => f (A.set i (some (fz (.mu ds))))
  | none => .stuck
section
variable {z : Z} {X : Cx} {f : FS}
theorem fzS_go {i : Nat} {D : Ends} {σ : L2.St} {H : Hp} (h : tS z (fFzS i f) D σ H) : tS z f D σ H := by
  obtain ⟨A, ts, hA, c, hp⟩ := h
  unfold fFzS at hp
  split at hp
  · rename_i ds e
    obtain ⟨p0, xs0, ev, hp0, _, h1⟩ := hA.slotAl (slotL_get e)
    have ec : closeD (.al i) A = some (fz (.mu ds), A.set i (some (fz (.mu ds)))) := by
      simp only [closeD, slotL_get e]
    exact ⟨_, ts, (h1.closeD ec).1.drop, c, hp⟩
  · exact (pS_stuck hp).elim
theorem qs_fzs {i : Nat} {b : List Stmt} (hb : PSs X b (tS z f)) : PSs X b (tS z (fFzS i f)) := PSs.imp hb fun _ _ _ h => fzS_go h
theorem qs_fz1 {i : Nat} {b : Stmt} (hb : PS X b (tS z f)) : PS X b (tS z (fFzS i f)) := PS.imp hb fun _ _ _ h => fzS_go h
end
end Ab
end
section
namespace Ab
open PySem PySem.Spec PyProof.Rows L2
/-! ### for x in xs: if not t1(x): return ..; for y in x: if not t2(y): return .. -- looked through, the lists stay the def's own -/
def inA (n j : Nat) (d : D) : Sl := (List.replicate n none).set j (some d)
def isFls : Ou Bool → Bool
  | .ok false _ => true
  | _ => false
def lookD (n jp jn : Nat) (f1 f2 : FT) : D → Bool
  | .mu es => match intsOf es with
    | some ps => isFls (f1 (inA n jp (.lst es))) && ps.all fun p => isFls (f2 (inA n jn (.int p)))
    | none => false
  | _ => false
def fLook (i jp jn : Nat) (f1 f2 : FT) : FS := fun A => match slotL i A with
  | some ds => if ds.all (lookD A.length jp jn f1 f2) = true ∧ jp < A.length ∧ jn < A.length then .ok .next (wipeA A [jp, jn]) else .stuck
  | none => .stuck
theorem isFls_eq {o : Ou Bool} (h : isFls o = true) : ∃ A, o = .ok false A := by
  unfold isFls at h
  split at h
  · exact ⟨_, rfl⟩
  · cases h
def tTB (z : Z) (f : FT) : TT := fun σ H Q => ∃ B, tT { z with B := B } f σ H Q
section
variable {K : Fw} {B : Bs} {σ : L2.St} {A : Sl} {ts : Ts} {G H H' : Hp}
theorem Sls.lens {L : List Addr} (s : Sls K G H σ A L) : σ.length = A.length := by
  induction s with
  | nil => rfl
  | skip _ ih => simp [ih]
  | cons _ _ ih => simp [ih]
theorem sls_none : ∀ σ : L2.St, Sls K G H σ (List.replicate σ.length none) []
  | [] => .nil
  | o :: σ => by rw [List.length_cons, List.replicate_succ]; exact .skip (sls_none σ)
theorem Abs.heap (h : Abs K B σ A ts H) (sm : Same H H') : Abs K B σ A ts H' := by
  obtain ⟨G, L1, L2, gd, tm, sl, nd, ow⟩ := h
  have one : ∀ a, H a ≠ none → H' a = H a := fun a hn => by
    cases e : H a with
    | none => exact absurd e hn
    | some o => exact sm _ _ e
  have o1 := tm.own
  have o2 := sl.own
  refine ⟨G, L1, L2, ⟨fun a o e => sm _ _ (gd.gh _ _ e), gd.bg, fun a o h1 h2 => sm _ _ (gd.bh a o h1 h2), gd.sep, fun a m => ?_⟩, tm.mono (fun _ _ e => e) fun a ha => ⟨one a (o1 a ha).2, (o1 a ha).1⟩, sl.mono (fun _ _ e => e) fun a ha => ⟨one a (o2 a ha).2, (o2 a ha).1⟩, nd, ow⟩
  rw [one a (gd.alive a m)]
  exact gd.alive a m
/-- one slot alone, seen from a ground of one known thing -/
theorem look_abs {j : Nat} {v : V} {d : D} (hl : σ.length = n) (hv : σ[j]? = some (some v)) (hg : Same G H) (r : R K G H v d []) : Abs K ⟨G, H, []⟩ σ (inA n j d) [] H := by
  have hj : j < σ.length := (List.getElem?_eq_some_iff.mp hv).1
  subst hl
  obtain ⟨L', s, p⟩ := (sls_none (K := K) (G := G) (H := H) σ).put (i := j) (by rw [List.getElem?_replicate, if_pos hj]) hv r
  have e : L' = [] := List.Perm.eq_nil (by simpa using p)
  subst e
  exact ⟨G, [], [], ⟨hg, fun _ _ e => e, fun _ _ _ e => e, fun _ _ _ e => e, fun _ m => nomatch m⟩, .nil, s, by simp, fun _ m => nomatch m⟩
end
section
variable {z : Z} {X : Cx} {f1 f2 : FT}
theorem test_go {j : Nat} {v : V} {d : D} {σ : L2.St} {G H : Hp} {n : Nat} {f : FT} {Q : Bool → Hp → Prop} (hl : σ.length = n) (hv : σ[j]? = some (some v)) (hg : Same G H) (r : R z.K G H v d []) (hf : isFls (f (inA n j d)) = true) (q : ∀ H', Same H H' → Q false H') : tTB z f σ H Q := by
  obtain ⟨A', e⟩ := isFls_eq hf
  refine ⟨⟨G, H, []⟩, inA n j d, [], look_abs hl hv hg r, ?_⟩
  rw [e]
  intro H' h'
  obtain ⟨G', L1, L2, gd, _⟩ := h'
  exact q H' fun a o e => gd.bh a o (fun m => nomatch m) e
theorem intsOf_is {es : List D} {ps : List Int} (h : intsOf es = some ps) : es = ps.map D.int := intsOf_eq h
theorem R.mu_inv {K : Fw} {G H : Hp} {v : V} {ds : List D} {L : List Addr} (r : R K G H v (.mu ds) L) : ∃ p xs L', v = .ref p ∧ H p = some (.lst xs) ∧ G p = none ∧ Rs K G H xs ds L' := by
  cases r with
  | mu h g s => exact ⟨_, _, _, rfl, h, g, s⟩
theorem look_go {i jp jn : Nat} {D : Ends} {σ : L2.St} {H : Hp} (hK : X.K = z.K) (h1 : i ≠ jp) (h2 : i ≠ jn) (h3 : jp ≠ jn) (h : tS z (fLook i jp jn f1 f2) D σ H) :
    tFor (iList X.K (tVar i)) (gName jp) (tSeq (tIfS (tTB z f1) tNever tNext) (tFor (iList X.K (tVar jp)) (gName jn) (tIfS (tTB z f2) tNever tNext))) D σ H := by
  obtain ⟨A, ts, hA, c, hp⟩ := h
  unfold fLook at hp
  split at hp
  · rename_i ds es
    split at hp
    · rename_i hall
      obtain ⟨hall, hjp, hjn⟩ := hall
      rw [List.all_eq_true] at hall
      obtain ⟨G, L1, L2, gd, tm, sl, nd, ow⟩ := id hA
      obtain ⟨v, Li, L', ev, r, s9, p9⟩ := sl.take (slotL_get es)
      have hlen := sl.lens
      cases r with
      | mu hq gp rs =>
        rename_i p xs L
        have hrl : xs.length = ds.length := rs.length
        rw [hK]
        refine ⟨.ref p, ev, p, rfl, ⟨xs, .inl (.inl hq)⟩, ?_⟩
        refine ⟨fun k m σ' H' => m = ds.length - k ∧ k ≤ ds.length ∧ Same H H' ∧ SameOff [jp, jn] σ σ', ⟨_, rfl, Nat.zero_le _, fun _ _ e => e, .refl⟩, fun k m σ' H' ⟨hm, hk, sm, so⟩ => ?_⟩
        have sq : SqL z.K H' p xs := .inl (.inl (sm _ _ hq))
        by_cases hlt : k < ds.length
        · refine .inr ⟨⟨xs, xs[k]'(by omega), sq, List.getElem?_eq_getElem (by omega)⟩, fun σ2 H2 => Same H H2 ∧ SameOff [jp, jn] σ σ2, fun σ2 H2 ⟨a, b⟩ => ⟨ds.length - (k + 1), by omega, rfl, hlt, a, b⟩, fun x H2 ⟨eH, hx⟩ => ?_⟩
          subst eH
          have hx := hx xs sq
          have hd : ds[k]? = some ds[k] := List.getElem?_eq_getElem hlt
          have hok := hall _ (List.mem_of_getElem? hd)
          obtain ⟨x', Lx, hx', rx, s8⟩ := rs.getD hd
          have exx : x' = x := Option.some.inj (hx'.symm.trans hx)
          subst exx
          generalize ds[k] = dk at hok rx
          cases dk <;> simp only [lookD] at hok <;> try cases hok
          rename_i ws
          split at hok
          · rename_i ps eps
            have ews := intsOf_eq eps
            subst ews
            rw [Bool.and_eq_true, List.all_eq_true] at hok
            obtain ⟨q, us, L2', erx, hq2, gq2, rs2⟩ := R.mu_inv rx
            · subst erx
              have eus := rs_ints rs2
              subst eus
              have hq3 : H2 q = some (.lst (ps.map V.int)) := sm _ _ hq2
              show tSeq _ _ _ (σ'.set jp (some (.ref q))) H2
              have so2 : SameOff [jp, jn] σ (σ'.set jp (some (.ref q))) := so.set (by simp)
              have hlen2 : (σ'.set jp (some (.ref q))).length = A.length := by rw [so2.1, hlen]
              have hj : jp < σ'.length := by rw [so.1, hlen]; exact hjp
              have hv : (σ'.set jp (some (V.ref q)))[jp]? = some (some (.ref q)) := by simp [hj]
              refine test_go (G := fun a => if a = q then some (.lst (ps.map V.int)) else none) hlen2 hv (fun a o e => ?_) (.lst (by simp) (rs_of_ints ps)) hok.1 fun H3 sm3 => ?_
              · by_cases ea : a = q
                · subst ea; simp at e; rw [hq3, e]
                · simp [ea] at e
              · rw [if_neg (by decide)]
                unfold tNext
                dsimp only
                unfold tFor iList tVar
                refine ⟨.ref q, hv, q, rfl, ⟨_, .inl (.inl (sm3 _ _ hq3))⟩, ?_⟩
                refine ⟨fun k2 m2 σ4 H4 => m2 = ps.length - k2 ∧ k2 ≤ ps.length ∧ Same H3 H4 ∧ SameOff [jp, jn] σ σ4, ⟨_, rfl, Nat.zero_le _, fun _ _ e => e, so2⟩, fun k2 m2 σ4 H4 ⟨hm2, hk2, sm4, so4⟩ => ?_⟩
                have sq4 : SqL z.K H4 q (ps.map V.int) := .inl (.inl (sm4 _ _ (sm3 _ _ hq3)))
                by_cases hlt2 : k2 < ps.length
                · refine .inr ⟨⟨_, .int ps[k2], sq4, by rw [List.getElem?_map, List.getElem?_eq_getElem hlt2]; rfl⟩, fun σ5 H5 => Same H3 H5 ∧ SameOff [jp, jn] σ σ5, fun σ5 H5 ⟨a, b⟩ => ⟨ps.length - (k2 + 1), by omega, rfl, hlt2, a, b⟩, fun y H5 ⟨eH5, hy⟩ => ?_⟩
                  subst eH5
                  have hy := hy _ sq4
                  rw [List.getElem?_map, List.getElem?_eq_getElem hlt2] at hy
                  have ey : V.int ps[k2] = y := Option.some.inj hy
                  subst ey
                  show tIfS _ _ _ _ (σ4.set jn (some (.int ps[k2]))) H5
                  have so5 : SameOff [jp, jn] σ (σ4.set jn (some (.int ps[k2]))) := so4.set (by simp)
                  have hjn4 : jn < σ4.length := by rw [so4.1, hlen]; exact hjn
                  refine test_go (G := fun _ => none) (v := .int ps[k2]) (by rw [so5.1, hlen]) (by simp [hjn4]) (fun a o e => nomatch e) (.int _) (hok.2 _ (List.getElem_mem hlt2)) fun H6 sm6 => ?_
                  rw [if_neg (by decide)]
                  exact ⟨fun a o e => sm6 _ _ (sm4 _ _ e), so5⟩
                · exact .inl ⟨⟨_, sq4, by rw [List.length_map]; omega⟩, fun a o e => sm4 _ _ (sm3 _ _ (sm _ _ e)), so4⟩
          · cases hok
        · have hk2 : k = ds.length := by omega
          refine .inl ⟨⟨xs, sq, by omega⟩, hp _ _ ?_⟩
          have := (hA.heap sm).block so
          rw [clsd_id c] at this
          exact this
    · exact (pS_stuck hp).elim
  · exact (pS_stuck hp).elim
theorem qs_look {i jp jn : Nat} {tg1 tg2 found part c1 c2 : Expr} {b1 b2 : List Stmt} {p1 p2 p3 p4 : Pos} (hp : PassesOwn (model X.prog X.w) X.A X.env X.xe) (hc : X.calm = true) (hK : X.K = z.K) (h1 : i ≠ jp) (h2 : i ≠ jn) (h3 : jp ≠ jn)
    (ho : PE X found (tVar i)) (hpt : PE X part (tVar jp)) (hg1 : PG X tg1 (gName jp)) (hg2 : PG X tg2 (gName jn)) (ht1 : ∀ B, PT X c1 (tT { z with B := B } f1)) (ht2 : ∀ B, PT X c2 (tT { z with B := B } f2))
    (hs1 : ∀ x, foldedSetIterable found X.env x = pure x := by intro _; rfl) (hs2 : ∀ x, foldedSetIterable part X.env x = pure x := by intro _; rfl) :
    PS X (.For tg1 found [.If c1 b1 [] p1, .For tg2 part [.If c2 b2 [] p2] [] p3] [] p4) (tS z (fLook i jp jn f1 f2)) := by
  have k1 : PT X c1 (tTB z f1) := ⟨fun pins s σ H Q I ⟨B, h⟩ => (ht1 B).run pins s σ H Q I h⟩
  have k2 : PT X c2 (tTB z f2) := ⟨fun pins s σ H Q I ⟨B, h⟩ => (ht2 B).run pins s σ H Q I h⟩
  exact PS.imp (ps_for hp hc (pi_list ho) hg1 (pss_cons (ps_if k1 pss_never pss_nil) (pss_one (ps_for hp hc (pi_list hpt) hg2 (pss_one (ps_if k2 pss_never pss_nil)) hs2))) hs1) fun D σ H h => look_go hK h1 h2 h3 h
end
/-! ### xs[k].append(c) -/
def fNAppI (i : Nat) (fk : FE) (c : Int) : FE := fun A => match slotL i A with
  | none => .stuck
  | some _ => (fk A).bind fun kd A1 => match kd, slotL i A1 with
    | .int k, some ds => match ixN ds.length k with
      | some m => match ds[m]? with
        | some (.mu es) => if isFs es = true ∧ es.length < sizeLine then .ok .non (A1.set i (some (.mu (ds.set m (.mu (es ++ [.int c])))))) else .stuck
        | _ => .stuck
      | none => .stuck
    | _, _ => .stuck
section
variable {z : Z} {X : Cx} {fk : FE}
theorem nappI_go {i : Nat} {c : Int} {σ : L2.St} {H : Hp} {Q : VK} (h : tE z (fNAppI i fk c) σ H Q) : tBM z.K "list" rAppend (tOp (rIxL z.K) (tVar i) (tE z fk)) (L2.tCons (tC (.int c)) L2.tNil) σ H Q := by
  obtain ⟨A, ts, hA, hp⟩ := h
  unfold fNAppI at hp
  split at hp
  · exact (show False from hp).elim
  · rename_i ds0 e0
    obtain ⟨p0, xs0, ev, hp0, _, h1⟩ := hA.slotAl (slotL_get e0)
    refine ⟨.ref p0, ev, A, (.ref p0, .al i) :: ts, h1, ?_⟩
    cases ek : fk A with
    | stuck => rw [ek] at hp; exact (show False from hp).elim
    | exc c A2 => rw [ek] at hp; exact fun H' h' => hp H' h'.drop
    | ok kd A1 =>
      rw [ek] at hp
      simp only [Ou.bind_ok] at hp
      intro u H1 h2
      split at hp
      · rename_i k ds es
        split at hp
        · rename_i m hm
          split at hp
          · rename_i ee he
            split at hp
            · rename_i hc0
              have hc : isFs ee = true ∧ isScal (.int c) = true ∧ ee.length < sizeLine := ⟨hc0.1, rfl, hc0.2⟩
              have eu := h2.int
              have h3 : z.A σ A1 ((.ref p0, .al i) :: ts) H1 := h2.drop
              have h5 : z.A σ A1 ((.int c, .int c) :: (.ref p0, .al i) :: ts) H1 := h3.pint c
              obtain ⟨q, vs, p, ws, eq, hq, hl, hj, hpp, hwl, h6⟩ := (h5.swapMove (slotL_get es)).napp he hc.1 hc.2.1
              cases eq
              have h7 := h6.put (fun j q => nomatch q) (set_none_get (slotL_get es)) ev
              rw [List.set_set] at h7
              have hat : atI vs k = some (.ref p) := by
                unfold atI
                rw [hl, hm]
                exact hj
              exact ⟨p0, vs, k, .ref p, rfl, eu, .inl (.inl hq), hat, .inl ⟨rfl, _, .inl (.inl hpp)⟩, p, ws, .int c, rfl, rfl, hpp, by rw [hwl]; exact hc.2.2, hp _ _ h7.pnon⟩
            · exact (show False from hp).elim
          · exact (show False from hp).elim
        · exact (show False from hp).elim
      · exact (show False from hp).elim
theorem qe_nappI {i : Nat} {c : Int} {o k e : Expr} {p1 apos cpos : Pos} (hK : X.K = z.K) (ho : PE X o (tVar i)) (hk : PE X k (tE z fk)) (he : PE X e (tC (.int c))) (hs0 : PlainIx k)
    (hbase : attributeBase (.Subscript o k p1) "append" X.env (eval (.Subscript o k p1) X.env) = eval (.Subscript o k p1) X.env := by rfl)
    (hfew : ((backTo cpos (starEach [e] X.env)).all (fun x => !x.1) && (backToKw cpos (keywordEach [] X.env)).all (fun x => x.1.isSome)
      && decide ([e].length + ([] : List Keyword).length + (if ([] : List Keyword).isEmpty then 0 else 1) < 30)) = true := by rfl)
    (hline : (apos.endLine == cpos.line) = true := by rfl) (hs : starEach [e] X.env = (false, eval e X.env) :: starEach [] X.env := by rfl) (hplain : (backTo cpos (starEach [] X.env)).any (·.1) = false := by rfl) :
    PE X (.Call (.Attribute (.Subscript o k p1) "append" apos) [e] [] cpos) (tE z (fNAppI i fk c)) :=
  PE.imp (pe_bm PySem.F.plainAttrs_list PySem.F.slot_list_append PySem.F.type_list_append mt_append (pe_ix ix_list ho hk hs0) (pa_cons he pa_nil hs) hbase hfew hline hs hplain) fun _ _ _ h => by rw [hK]; exact nappI_go h
end
/-! ### tuple(range(n)) -/
def fTupRange (fe : FE) : FE := fun A => (fe A).bind fun d A1 => match d with
  | .int n => if n.natAbs ≤ 16777216 then .ok (.tup (((List.range n.toNat).map fun i : Nat => (i : Int)).map D.int)) A1 else .stuck
  | _ => .stuck
section
variable {z : Z} {X : Cx} {fe : FE}
theorem qe_tupRange {e : Expr} {p p2 pos pos2 : Pos} (hc : X.calm = true) (hg : Gl X "tuple") (hm : X.mg "tuple" = none) (hg2 : Gl X "range") (hm2 : X.mg "range" = none) (he : PE X e (tE z fe)) (ha : starEach [e] X.env = (false, eval e X.env) :: starEach [] X.env := by rfl)
    (na : starEach [.Call (.Name "range" p2) [e] [] pos2] X.env = (false, eval (.Call (.Name "range" p2) [e] [] pos2) X.env) :: starEach [] X.env := by rfl) :
    PE X (.Call (.Name "tuple" p) [.Call (.Name "range" p2) [e] [] pos2] [] pos) (tE z (fTupRange fe)) := by
  refine PE.imp (pe_tupRg hc hg hm (prg_1 hg2 hm2 he ha) na) fun σ H Q ⟨A, ts, hA, hp⟩ => ⟨A, ts, hA, ?_⟩
  unfold fTupRange at hp
  cases ee : fe A with
  | stuck => rw [ee] at hp; exact (show False from hp).elim
  | exc c A1 => rw [ee] at hp; exact hp
  | ok d A1 =>
    rw [ee] at hp
    simp only [Ou.bind_ok] at hp
    intro v H1 h1
    split at hp
    · rename_i n
      split at hp
      · rename_i hn
        obtain ⟨G, L, gh, r, f⟩ := h1.open (fun j q => nomatch q)
        have r : Ab.R z.K G H1 v (.int n) L := r
        cases r
        refine ⟨n, rfl, ⟨by omega, by omega, by omega, by omega, by omega⟩, fun q hq => ?_⟩
        rw [rgV_nat]
        exact hp _ _ (f.tup gh (rs_of_ints _) hq)
      · exact (show False from hp).elim
    · exact (show False from hp).elim
end
/-! ### xs.append(y), y's own handed over -/
def moveD (d : D) (A : Sl) : Option (D × Sl) := match d with
  | .al i => match A[i]? with
    | some (some t) => some (t, A.set i none)
    | _ => none
  | d => some (d, A)
theorem Abs.moveD {K : Fw} {B : Bs} {σ : L2.St} {A A' : Sl} {ts : Ts} {H : Hp} {v : V} {d d' : D} (h : Abs K B σ A ((v, d) :: ts) H) (hc : Ab.moveD d A = some (d', A')) : Abs K B σ A' ((v, d') :: ts) H ∧ ∀ i, d' ≠ .al i := by
  unfold Ab.moveD at hc
  split at hc
  · split at hc
    · rename_i et
      cases hc
      exact ⟨h.move et, h.slot_al et⟩
    · cases hc
  · rename_i hna
    cases hc
    exact ⟨h, fun i q => hna i q⟩
def fAppM (i : Nat) (fe : FE) : FE := fun A => match slotL i A with
  | none => .stuck
  | some _ => (fe A).bind fun e A2 => match moveD e A2 with
    | none => .stuck
    | some (e', A3) => match slotL i A3 with
      | some ds => if ds.length < sizeLine then .ok .non (A3.set i (some (.mu (ds ++ [e'])))) else .stuck
      | none => .stuck
section
variable {z : Z} {X : Cx} {fe : FE}
theorem appM_go {i : Nat} {σ : L2.St} {H : Hp} {Q : VK} (h : tE z (fAppM i fe) σ H Q) : tBM z.K "list" rAppend (tVar i) (L2.tCons (tE z fe) L2.tNil) σ H Q := by
  obtain ⟨A, ts, hA, hp⟩ := h
  unfold fAppM at hp
  split at hp
  · exact (show False from hp).elim
  · rename_i ds0 e0
    obtain ⟨p0, xs0, ev, hp0, _, h1⟩ := hA.slotAl (slotL_get e0)
    refine ⟨.ref p0, ev, tyV_lst hp0, A, (.ref p0, .al i) :: ts, h1, ?_⟩
    cases eb : fe A with
    | stuck => rw [eb] at hp; exact (show False from hp).elim
    | exc c A2 => rw [eb] at hp; exact fun H' h' => hp H' h'.drop
    | ok e A2 =>
      rw [eb] at hp
      simp only [Ou.bind_ok] at hp
      intro y H2 h2
      split at hp
      · exact (show False from hp).elim
      · rename_i e' A3 ec
        obtain ⟨h3, n3⟩ := h2.moveD ec
        split at hp
        · rename_i ds e3
          split at hp
          · rename_i hl
            obtain ⟨p, xs, q, hp2, hlen, h5⟩ := (h3.swapMove (slotL_get e3)).app n3
            cases q
            have h6 := h5.put (fun j q => nomatch q) (set_none_get (slotL_get e3)) ev
            rw [List.set_set] at h6
            exact ⟨p0, xs, y, rfl, rfl, hp2, by rw [hlen]; exact hl, hp _ _ h6.pnon⟩
          · exact (show False from hp).elim
        · exact (show False from hp).elim
theorem qe_appM {i : Nat} {o e : Expr} {apos cpos : Pos} (hK : X.K = z.K) (ho : PE X o (tVar i)) (he : PE X e (tE z fe))
    (hbase : attributeBase o "append" X.env (eval o X.env) = eval o X.env := by rfl)
    (hfew : ((backTo cpos (starEach [e] X.env)).all (fun x => !x.1) && (backToKw cpos (keywordEach [] X.env)).all (fun x => x.1.isSome)
      && decide ([e].length + ([] : List Keyword).length + (if ([] : List Keyword).isEmpty then 0 else 1) < 30)) = true := by rfl)
    (hline : (apos.endLine == cpos.line) = true := by rfl) (hs : starEach [e] X.env = (false, eval e X.env) :: starEach [] X.env := by rfl) (hplain : (backTo cpos (starEach [] X.env)).any (·.1) = false := by rfl) :
    PE X (.Call (.Attribute o "append" apos) [e] [] cpos) (tE z (fAppM i fe)) :=
  PE.imp (pe_bm PySem.F.plainAttrs_list PySem.F.slot_list_append PySem.F.type_list_append mt_append ho (pa_cons he pa_nil hs) hbase hfew hline hs hplain) fun _ _ _ h => by rw [hK]; exact appM_go h
end
/-! ### (x, ..) * k -/
def gMulT (d e : D) (A : Sl) : Option D := match see A d, e with
  | .tup ds, .int k => if isFs ds = true ∧ ds ≠ [] ∧ 2 ≤ k ∧ k ≤ 1000 ∧ ds.length ≤ 1000 then some (.tup (List.replicate k.toNat ds).flatten) else none
  | _, _ => none
theorem opd_mulT {z : Z} : OpD z (rRepT z.K) gMulT := by
  intro σ A ts H v u d e d' h hg Q q
  unfold gMulT at hg
  split at hg
  · rename_i ds k hs
    split at hg
    · rename_i hl
      cases hg
      have eu := h.int
      obtain ⟨G, L, gh, r, f⟩ := h.drop.open (fun j q => by rw [hs] at q; cases q)
      rw [hs] at r
      cases r with
      | tup q0 rs =>
        have e1 := rs.isFs hl.1
        subst e1
        refine ⟨_, k, _, rfl, eu, .inl (.inl (gh _ _ q0)), ?_, hl.2.2.1, hl.2.2.2.1, by rw [rs.length]; exact hl.2.2.2.2, fun p hp => q _ _ (f.tup gh (rs.rep _) hp)⟩
        intro ex
        have := rs.length
        rw [ex] at this
        exact hl.2.1 (List.length_eq_zero_iff.mp this.symm)
    · cases hg
  · cases hg
end Ab
end
section
namespace Ab
open PySem PySem.Spec PyProof.Rows L2
/-! ### a <= b < c, of ints -/
def tChain (c1 c2 : Int → Int → Bool) (ta tb tc : TE) : TT := fun σ H Q => ta σ H fun x H1 => tb σ H1 fun y H2 => ∃ i j, x = .int i ∧ y = .int j ∧ (c1 i j = false → Q false H2) ∧ (c1 i j = true → tc σ H2 fun w H3 => ∃ k, w = .int k ∧ Q (c2 j k) H3)
section
variable {X : Cx} {a b c : Expr} {ta tb tc : TE} {o1 o2 : CmpOp} {c1 c2 : Int → Int → Bool} {pos : Pos}
theorem pt_chain (h1 : OpR X (compareOp o1) (rI0 fun i j => .bl (c1 i j))) (h2 : OpR X (compareOp o2) (rI0 fun i j => .bl (c2 i j))) (ha : PE X a ta) (hb : PE X b tb) (hc : PE X c tc) (hm : lastMarks [o1, o2] [b, c] = false) : PT X (.Compare a [o1, o2] [b, c] pos) (tChain c1 c2 ta tb tc) := by
  refine ⟨fun pins s σ H Q I h => ?_⟩
  refine isTrue_chain (thn (ha.run pins s σ H _ I h) fun v s1 ⟨x, H1, I1, r1, q1⟩ => test_link (thn (hb.run pins s1 σ H1 _ I1 q1) fun u s2 ⟨y, H2, I2, r2, i, j, e1, e2, qf, qt⟩ => ?_)) hm
  subst e1
  subst e2
  refine thn (h1 pins s2 σ H2 (.int i) (.int j) v u (fun w H' => w = .bl (c1 i j) ∧ H' = H2) I2 r1 r2 ⟨i, j, rfl, rfl, rfl, rfl⟩) fun cv s3 ⟨z, H3, I3, r3, ez, eH⟩ => ?_
  subst ez
  subst eH
  have ec : cv = Value.bool (c1 i j) := r3
  subst ec
  refine wpAny_truthy_bool ?_
  cases e : c1 i j with
  | false => exact ⟨_, I3, qf e⟩
  | true =>
    refine test_last (thn (hc.run pins s3 σ H3 _ I3 (qt e)) fun w s4 ⟨x4, H4, I4, r4, k, e4, q4⟩ => ?_)
    subst e4
    refine thn (h2 pins s4 σ H4 (.int j) (.int k) u w (fun w H' => w = .bl (c2 j k) ∧ H' = H4) I4 r2 r4 ⟨j, k, rfl, rfl, rfl, rfl⟩) fun cv s5 ⟨z, H5, I5, r5, ez, eH⟩ => ?_
    subst ez
    subst eH
    have ec : cv = Value.bool (c2 j k) := r5
    subst ec
    exact wpAny_truthy_bool ⟨_, I5, q4⟩
end
def fChain (c1 c2 : Int → Int → Bool) (fa fb fc : FE) : FT := fun A => (fa A).bind fun d A1 => match d with
  | .int i => (fb A1).bind fun d2 A2 => match d2 with
    | .int j => if c1 i j = true then (fc A2).bind fun d3 A3 => match d3 with
      | .int k => .ok (c2 j k) A3
      | _ => .stuck
      else .ok false A2
    | _ => .stuck
  | _ => .stuck
section
variable {z : Z} {X : Cx} {fa fb fc : FE}
theorem qt_chain {a b c : Expr} {o1 o2 : CmpOp} {c1 c2 : Int → Int → Bool} {pos : Pos} (h1 : OpR X (compareOp o1) (rI0 fun i j => .bl (c1 i j))) (h2 : OpR X (compareOp o2) (rI0 fun i j => .bl (c2 i j))) (ha : PE X a (tE z fa)) (hb : PE X b (tE z fb)) (hc : PE X c (tE z fc)) (hm : lastMarks [o1, o2] [b, c] = false := by rfl) : PT X (.Compare a [o1, o2] [b, c] pos) (tT z (fChain c1 c2 fa fb fc)) := by
  have k := pt_chain (pos := pos) h1 h2 ha hb hc hm
  refine ⟨fun pins s σ H Q I ⟨A, ts, hA, hp⟩ => k.run pins s σ H Q I ⟨A, ts, hA, ?_⟩⟩
  unfold fChain at hp
  cases ea : fa A with
  | stuck => rw [ea] at hp; exact (show False from hp).elim
  | exc c4 A1 => rw [ea] at hp; exact hp
  | ok d A1 =>
    rw [ea] at hp
    simp only [Ou.bind_ok] at hp
    intro x H1 hx
    split at hp
    · rename_i i
      have ex := hx.int
      refine ⟨A1, ts, hx.drop, ?_⟩
      cases eb : fb A1 with
      | stuck => rw [eb] at hp; exact (show False from hp).elim
      | exc c4 A2 => rw [eb] at hp; exact hp
      | ok d2 A2 =>
        rw [eb] at hp
        simp only [Ou.bind_ok] at hp
        intro y H2 hy
        split at hp
        · rename_i j
          have ey := hy.int
          refine ⟨i, j, ex, ey, fun e => ?_, fun e => ?_⟩
          · rw [if_neg (by rw [e]; exact Bool.false_ne_true)] at hp
            exact hp _ hy.drop
          · rw [if_pos e] at hp
            refine ⟨A2, ts, hy.drop, ?_⟩
            cases ec : fc A2 with
            | stuck => rw [ec] at hp; exact (show False from hp).elim
            | exc c4 A3 => rw [ec] at hp; exact hp
            | ok d3 A3 =>
              rw [ec] at hp
              simp only [Ou.bind_ok] at hp
              intro w H3 hw
              split at hp
              · exact ⟨_, hw.int, hp _ hw.drop⟩
              · exact (show False from hp).elim
        · exact (show False from hp).elim
    · exact (show False from hp).elim
end
end Ab
end
section
namespace Ab
open PySem PySem.Spec PyProof.Rows L2
/-! ### a list as a test -/
def fTru (fe : FE) : FT := fun A => (fe A).bind fun d A1 => match lsOf (see A1 d) with
  | some ds => .ok (!ds.isEmpty) A1
  | none => .stuck
section
variable {z : Z} {X : Cx} {fe : FE}
theorem qt_tru {a : Expr} (hK : X.K = z.K) (ha : PE X a (tE z fe)) (he : ∀ whole, isTrue a X.env whole = (do let v ← whole; standAt a.pos; holding [v] (truthy v)) := by intro _; rfl) : PT X a (tT z (fTru fe)) := by
  have k := pt_truth ha he
  refine ⟨fun pins s σ H Q I ⟨A, ts, hA, hp⟩ => k.run pins s σ H Q I ⟨A, ts, hA, ?_⟩⟩
  unfold fTru at hp
  cases ea : fe A with
  | stuck => rw [ea] at hp; exact (show False from hp).elim
  | exc c4 A1 => rw [ea] at hp; exact hp
  | ok d A1 =>
    rw [ea] at hp
    simp only [Ou.bind_ok] at hp
    intro v H1 h1
    split at hp
    · rename_i ds hs
      obtain ⟨G, L, gh, r, f⟩ := h1.open (lsOf_al hs)
      obtain ⟨a, xs, L', rfl, k1, s1⟩ := r.list gh hs
      refine ⟨!ds.isEmpty, ?_, hp _ h1.drop⟩
      rw [hK]
      refine .inl ⟨xs, k1, ?_⟩
      have hl := s1.length
      cases xs <;> cases ds <;> first | rfl | (simp at hl)
    · exact (show False from hp).elim
end
end Ab
end
section
namespace Ab
open PySem PySem.Spec PyProof.Rows L2
/-! ### t[k].clear(), t a tuple of the def's own -/
theorem Rs.pickD {K : Fw} {G H : Hp} : ∀ {vs : List V} {ds : List D} {L : List Addr} {j : Nat} {d : D}, Rs K G H vs ds L → ds[j]? = some d → ∃ x Lx N, vs[j]? = some x ∧ R K G H x d Lx ∧ L.Perm (Lx ++ N) ∧ (∀ a ∈ N, G a = none) ∧
    (∀ H' e' L', R K G H' x e' L' → (∀ a ∈ N, H' a = H a ∧ G a = none) → ∃ M, Rs K G H' vs (ds.set j e') M ∧ M.Perm (L' ++ N))
  | _, _, _, _, _, .nil, e => by simp at e
  | _, _, _, 0, d, .cons (L := La) (L' := Lb) r t, e => by
    simp at e
    subst e
    exact ⟨_, La, Lb, rfl, r, .refl _, fun a ha => (t.own a ha).1, fun H' e' L' r' h => ⟨L' ++ Lb, .cons r' (t.mono (fun _ _ e => e) h), .refl _⟩⟩
  | _, _, _, j + 1, d, .cons (L := La) (L' := Lb) r t, e => by
    obtain ⟨x, Lx, N, h1, h2, h3, h4, h5⟩ := Rs.pickD (j := j) t (by simpa using e)
    have pm : (La ++ Lb).Perm (Lx ++ (La ++ N)) := by
      refine (List.Perm.append_left _ h3).trans ?_
      rw [← List.append_assoc, ← List.append_assoc]
      exact List.Perm.append_right _ List.perm_append_comm
    refine ⟨x, Lx, La ++ N, by simpa using h1, h2, pm, fun a ha => ?_, fun H' e' L' r' h => ?_⟩
    · rcases List.mem_append.mp ha with m | m
      · exact (r.own a m).1
      · exact h4 a m
    · obtain ⟨M, m1, m2⟩ := h5 H' e' L' r' fun a ha => h a (List.mem_append_right _ ha)
      refine ⟨La ++ M, .cons (r.mono (fun _ _ e => e) fun a ha => h a (List.mem_append_left _ ha)) m1, ?_⟩
      refine (List.Perm.append_left _ m2).trans ?_
      rw [← List.append_assoc, ← List.append_assoc]
      exact List.Perm.append_right _ List.perm_append_comm
theorem R.tup_inv {K : Fw} {G H : Hp} {v : V} {ds : List D} {L : List Addr} (r : R K G H v (.tup ds) L) : ∃ a xs, v = .ref a ∧ G a = some (.tup xs) ∧ Rs K G H xs ds L := by
  cases r with
  | tup h s => exact ⟨_, _, rfl, h, s⟩
theorem Abs.tset {K : Fw} {B : Bs} {σ : L2.St} {A : Sl} {ts : Ts} {H : Hp} {v : V} {ds : List D} {j : Nat} {d : D} (h : Abs K B σ A ((v, .tup ds) :: ts) H) (hj : ds[j]? = some d) :
    ∃ a xs x Lx G, v = .ref a ∧ H a = some (.tup xs) ∧ xs.length = ds.length ∧ xs[j]? = some x ∧ Same G H ∧ R K G H x d Lx ∧ ∀ p o' e', Lx = [p] → R K G (upd H p o') x e' [p] → Abs K B σ A ((v, .tup (ds.set j e')) :: ts) (upd H p o') := by
  obtain ⟨G, L1, L2, gd, tm, sl, nd, ow⟩ := h
  cases tm with
  | @cons _ _ L Lt _ r2 t =>
    obtain ⟨a, xs, ev, hg, rs⟩ := R.tup_inv r2
    · subst ev
      obtain ⟨x, Lx, N, h1, h2, h3, h4, h5⟩ := rs.pickD hj
      refine ⟨a, xs, x, Lx, G, rfl, gd.gh _ _ hg, rs.length, h1, gd.gh, h2, fun p o' e' eL r' => ?_⟩
      subst eL
      have pp : ((L ++ Lt) ++ L2).Perm (((p :: N) ++ Lt) ++ L2) := List.Perm.append_right _ (List.Perm.append_right _ (by simpa using h3))
      have nd2 := nodup_perm pp nd
      have ow2 : ∀ a ∈ ((p :: N) ++ Lt) ++ L2, Own B a := fun a ha => ow a (pp.mem_iff.mpr ha)
      have pn : p ∉ (N ++ Lt) ++ L2 := (List.nodup_cons.mp nd2).1
      have gp : G p = none := (h2.own p (by simp)).1
      have old : ∀ a ∈ (N ++ Lt) ++ L2, G a = none := fun a ha => by
        rcases List.mem_append.mp ha with m | m
        · rcases List.mem_append.mp m with m | m
          · exact h4 a m
          · exact (t.own a m).1
        · exact (sl.own a m).1
      have keep : ∀ a ∈ (N ++ Lt) ++ L2, upd H p o' a = H a ∧ G a = none := fun a ha => ⟨upd_ne (fun z => pn (by rw [← z]; exact ha)), old a ha⟩
      obtain ⟨M, m1, m2⟩ := h5 (upd H p o') e' [p] r' fun a ha => keep a (by simp [ha])
      have ownp : Own B p := ow2 p (by simp)
      have pq : ((M ++ Lt) ++ L2).Perm (((p :: N) ++ Lt) ++ L2) := List.Perm.append_right _ (List.Perm.append_right _ (by simpa using m2))
      refine ⟨G, M ++ Lt, L2, ⟨fun a o h => ?_, gd.bg, fun a o hx h => ?_, gd.sep, fun a ha => ?_⟩, .cons (.tup hg m1) (t.mono (fun _ _ e => e) fun a ha => keep a (by simp [ha])), sl.mono (fun _ _ e => e) fun a ha => keep a (by simp [ha]), nodup_perm pq.symm nd2, fun a ha => ow2 a (pq.mem_iff.mp ha)⟩
      · have : a ≠ p := fun z => by rw [z, gp] at h; cases h
        rw [upd_ne this]; exact gd.gh a o h
      · have : a ≠ p := fun z => by
          subst z
          rcases ownp with n | n
          · rw [n] at h; cases h
          · exact hx n
        rw [upd_ne this]; exact gd.bh a o hx h
      · by_cases z : a = p
        · rw [z, upd_same]; exact fun z => nomatch z
        · rw [upd_ne z]; exact gd.alive a ha
/-- dict.clear, keys that are tuples -/
def rDClrN (w : World) : V → List V → Hp → VK → Prop := fun x as H Q => ∃ p xs, x = .ref p ∧ as = [] ∧ NdAt w H p xs ∧ ∀ ep, Q .non (upd H p (ndHO w p ep []))
section
variable {X : Cx}
theorem mt_dclrN : MtR X "dict.clear" (rDClrN X.w) := by
  intro pins s σ H x as v us Q I rx ra ⟨p, xs, e1, e2, nd, q⟩
  subst e1; subst e2
  obtain rfl : v = Value.ref p := rx
  have hus := ra.zero
  subst hus
  obtain ⟨es, ep, hraw, hsz, _⟩ := (nd.of I).raw
  have hlen := nd.len
  refine call_meetsIn F.slot_dict_clear (nd.of I).typeIs F.entry_dict_clear (F.args_dict_clear_1 _) (meets_dict_clear_raw p) ⟨es, ep, hraw, by omega, fun h' hr' hs' => ?_⟩
  obtain ⟨o, ho, hc, hdat⟩ := hr'
  have dd : h'.DictOfH (nestedKind X.prog X.w) p [] := ⟨o, #[], ep + 1, ho, hc, hdat, rfl, (fun _ hx => nomatch hx), List.nodup_nil⟩
  obtain ⟨ep', ob⟩ := nd_obj dd
  obtain ⟨e0, hep⟩ := nd.hp
  exact ⟨.non, _, d_write I (by rw [hep]; exact True.intro) hs' ⟨o, ho⟩ (ob _), rfl, q ep'⟩
end
def fTClr (i : Nat) (k : Int) : FE := fun A => match A[i]? with
  | some (some (.tup ds)) => match ixN ds.length k with
    | some m => match ds[m]? with
      | some (.mu es) => if isFs es = true then .ok .non (A.set i (some (.tup (ds.set m (.mu []))))) else .stuck
      | some (.mdi true _ vs) => if isFs vs = true then .ok .non (A.set i (some (.tup (ds.set m (.mdi true [] []))))) else .stuck
      | _ => .stuck
    | none => .stuck
  | _ => .stuck
theorem isF_tup_mem {ds : List D} {m : Nat} {d : D} (h : ds[m]? = some d) (hd : isF d = false) : isF (.tup ds) = false := by
  cases e : isF (.tup ds) with
  | false => rfl
  | true =>
    rw [isF, isFs_all, List.all_eq_true] at e
    rw [e d (List.mem_of_getElem? h)] at hd
    cases hd
section
variable {z : Z} {X : Cx} {fk : FE}
theorem tclr_go {i : Nat} {k : Int} {σ : L2.St} {H : Hp} {Q : VK} (hfk : ∀ A, fk A = .ok (.int k) A) (h : tE z (fTClr i k) σ H Q) :
    tBM0 z.K "list" rClear (tOp (rIxT z.K) (tVar i) (tE z fk)) σ H Q ∨ tBD0 z.K.w (rDClrN z.K.w) (tOp (rIxT z.K) (tVar i) (tE z fk)) σ H Q := by
  obtain ⟨A, ts, hA, hp⟩ := h
  unfold fTClr at hp
  split at hp
  · rename_i ds e0
    split at hp
    · rename_i m hm
      have key : ∀ (d : D), ds[m]? = some d → isF d = false → ∃ y, σ[i]? = some (some y) ∧ z.A σ A ((y, .al i) :: ts) H := fun d hd hf => by
        obtain ⟨y, ey, h4⟩ := hA.var e0
        rw [if_neg (by rw [isF_tup_mem hd hf]; exact Bool.false_ne_true)] at h4
        exact ⟨y, ey, h4⟩
      split at hp
      · rename_i es he
        split at hp
        · rename_i hes
          obtain ⟨y, ey, h4⟩ := key _ he (by simp [isF])
          refine .inl ⟨y, ey, A, (y, .al i) :: ts, h4, ?_⟩
          rw [hfk]
          intro u H1 h2
          have eu := h2.int
          have h3 : z.A σ A ((y, .al i) :: ts) H1 := h2.drop
          obtain ⟨a, xs, x, Lx, G, rfl, ha, hl, hx, gh, r, bd⟩ := (h3.move e0).tset he
          obtain ⟨p, ws, L', ex, hp1, gp, rs⟩ := R.mu_inv r
          subst ex
          have hL : Lx = [p] := by
            cases r with
            | mu _ _ rs' => rw [rs'.isFs hes]
          have h6 := bd p (.lst []) (.mu []) hL (.mu upd_same gp .nil)
          have h7 := h6.put (fun j q => nomatch q) (set_none_get e0) ey
          rw [List.set_set] at h7
          have hat : atI xs k = some (.ref p) := by
            unfold atI
            rw [hl, hm]
            exact hx
          exact ⟨a, xs, k, .ref p, rfl, eu, .inl (.inl ha), hat, tyV_lst hp1, p, ws, rfl, rfl, hp1, hp _ _ h7.pnon⟩
        · exact (show False from hp).elim
      · rename_i ks vs he
        split at hp
        · rename_i hvs
          obtain ⟨y, ey, h4⟩ := key _ he (by simp [isF])
          refine .inr ⟨y, ey, A, (y, .al i) :: ts, h4, ?_⟩
          rw [hfk]
          intro u H1 h2
          have eu := h2.int
          have h3 : z.A σ A ((y, .al i) :: ts) H1 := h2.drop
          obtain ⟨a, xs, x, Lx, G, rfl, ha, hl, hx, gh, r, bd⟩ := (h3.move e0).tset he
          cases r with
          | mdi hq gp dc rk rv =>
            rename_i p o kv ws L'
            obtain ⟨es, ⟨_, rfl⟩, nda, rfl, hv, hks⟩ := dc.nds gh hq rk
            have eL := rv.isFs hvs
            subst eL
            have hat : atI xs k = some (.ref p) := by
              unfold atI
              rw [hl, hm]
              exact hx
            refine ⟨a, xs, k, .ref p, rfl, eu, .inl (.inl ha), hat, .inl ⟨p, es, rfl, nda⟩, p, es, rfl, rfl, nda, fun ep => ?_⟩
            have h6 := bd p (ndHO z.K.w p ep []) (.mdi true [] []) rfl (.mdi (kv := ([] : List (NestedKey × Addr × Value)).map fun x => V.ref x.2.1) (vs := []) upd_same gp (.nd nda.sys (Nat.zero_le _) List.nodup_nil (fun y hy => nomatch hy) .nil rfl) .nil .nil)
            have h7 := h6.put (fun j q => nomatch q) (set_none_get e0) ey
            rw [List.set_set] at h7
            exact hp _ _ h7.pnon
        · exact (show False from hp).elim
      · exact (show False from hp).elim
    · exact (show False from hp).elim
  · exact (show False from hp).elim
theorem qe_tclr {i : Nat} {c : Int} {o k : Expr} {p1 apos cpos : Pos} (hfk : ∀ A, fk A = .ok (.int c) A) (hK : X.K = z.K) (hW : X.w = z.K.w) (ho : PE X o (tVar i)) (hk : PE X k (tE z fk)) (hs0 : PlainIx k)
    (hbase : attributeBase (.Subscript o k p1) "clear" X.env (eval (.Subscript o k p1) X.env) = eval (.Subscript o k p1) X.env := by rfl) (hline : (apos.endLine == cpos.line) = true := by rfl) :
    PE X (.Call (.Attribute (.Subscript o k p1) "clear" apos) [] [] cpos) (tE z (fTClr i c)) := by
  have k1 := pe_bm0 (apos := apos) (cpos := cpos) PySem.F.plainAttrs_list PySem.F.slot_list_clear PySem.F.type_list_clear mt_clear (pe_ix (pos := p1) ix_tup ho hk hs0) hbase hline
  have k2 := pe_bd0 (apos := apos) (cpos := cpos) PySem.F.plainAttrs_dict PySem.F.slot_dict_clear PySem.F.type_dict_clear (mt_dclrN (X := X)) (pe_ix (pos := p1) ix_tup ho hk hs0) hbase hline
  refine ⟨fun pins s σ H Q I h => ?_⟩
  rcases tclr_go hfk h with q | q
  · rw [← hK] at q; exact k1.run pins s σ H Q I q
  · rw [← hW, ← hK] at q; exact k2.run pins s σ H Q I q
end
/-! ### isinstance(d, ..), d a dict -/
def rIsiD (w : World) : List V → Hp → VK → Prop := fun vs H Q => ∃ p xs n b, vs = [.ref p, .ty n] ∧ NdAt w H p xs ∧ kitB "dict" n = some b ∧ Q (.bl b) H
def gIsiX (ds : List D) (A : Sl) : Option D := match ds with
  | [d, .ty n] => match dicOf (see A d) with
    | some (true, _, _) => (kitB "dict" n).map .bl
    | _ => gIsi [d, .ty n] A
  | _ => none
section
variable {z : Z} {X : Cx}
theorem call_isiX : CallR X (.builtin "isinstance") (fun vs H Q => rIsi X.K vs H Q ∨ rIsiD X.w vs H Q) := by
  intro pins s σ H vs us Q I r h
  rcases h with h | ⟨p, xs, n, b, rfl, nd, e, q⟩
  · exact call_isi pins s σ H vs us Q I r h
  · obtain ⟨u1, u2, rfl, r1, r2⟩ := vals2 r
    cases (show u1 = Value.ref p from r1)
    obtain rfl : u2 = Value.type n := r2
    obtain ⟨o, es, ep, h1, h2, _⟩ := nd.of I
    exact PySem.W.kia_one PySem.W.kitx_dict I.kIn ⟨o, h1, h2.1⟩ (kit_ty e) (fun z => nomatch z) fun tk => ⟨.bl b, H, I.tok tk, rfl, q⟩
theorem cd_isiX : CallD z (fun vs H Q => rIsi z.K vs H Q ∨ rIsiD z.K.w vs H Q) gIsiX := by
  intro σ A ts H vs ds d' hl h hg Q q
  unfold gIsiX at hg
  split at hg
  · rename_i d n
    split at hg
    · rename_i ks es hd
      obtain ⟨v, u, rfl⟩ := call2 hl rfl
      have h : z.A σ A ((v, d) :: (u, .ty n) :: ts) H := h
      cases hk : kitB "dict" n with
      | none => rw [hk] at hg; cases hg
      | some b =>
        rw [hk] at hg
        cases hg
        obtain ⟨G, L, gh, r, f⟩ := h.open (dicOf_al hd)
        obtain ⟨p, o, kv, ws, L2, rfl, hp, dc, rk, rv, _⟩ := r.dic gh hd
        obtain ⟨xs, ⟨_, rfl⟩, nd, _, _, _⟩ := dc.nds gh hp rk
        obtain ⟨G2, L2', gh2, r2, f2⟩ := h.drop.open (fun j z => by cases z)
        cases r2
        exact .inr ⟨p, xs, n, b, rfl, nd, hk, q _ _ (f2.known gh2 (.bl _))⟩
    · exact .inl (cd_isi σ A ts H vs _ d' hl h hg Q q)
  · cases hg
end
/-! ### a tuple that takes what its lists own -/
def moveL : List D → Sl → Option (List D × Sl)
  | [], A => some ([], A)
  | d :: ds, A => match d with
    | .al i => match A[i]? with
      | some (some t) => match moveL ds (A.set i none) with
        | some (es, A') => some (t :: es, A')
        | none => none
      | _ => none
    | d => match moveL ds A with
      | some (es, A') => some (d :: es, A')
      | none => none
theorem Abs.closeM {K : Fw} {B : Bs} {σ : L2.St} {H : Hp} : ∀ {ds : List D} {vs : List V} {A : Sl} {ts : Ts} {es : List D} {A' : Sl}, vs.length = ds.length → Abs K B σ A (vs.zip ds ++ ts) H → moveL ds A = some (es, A') →
    Abs K B σ A' (vs.zip es ++ ts) H ∧ vs.length = es.length ∧ noAl es = true
  | [], [], A, ts, es, A', _, h, hc => by
    simp only [moveL] at hc
    cases hc
    exact ⟨h, rfl, rfl⟩
  | d :: ds, v :: vs, A, ts, es, A', hl, h, hc => by
    have go : ∀ {d' : D} {A1 : Sl} {es1 : List D}, (∀ i, d' ≠ .al i) → Abs K B σ A1 ((v, d') :: (vs.zip ds ++ ts)) H → moveL ds A1 = some (es1, A') → Abs K B σ A' ((v :: vs).zip (d' :: es1) ++ ts) H ∧ (v :: vs).length = (d' :: es1).length ∧ noAl (d' :: es1) = true := by
      intro d' A1 es1 nd h1 hc1
      have h2 : Abs K B σ A1 (vs.zip ds ++ (v, d') :: ts) H := h1.perm (by simpa using (List.perm_middle (l₁ := vs.zip ds) (a := (v, d')) (l₂ := ts)).symm)
      obtain ⟨h3, l3, n3⟩ := Abs.closeM (by simpa using hl) h2 hc1
      exact ⟨h3.perm (by simpa using List.perm_middle), by simp [l3], noAl_cons nd n3⟩
    unfold moveL at hc
    split at hc
    · rename_i i
      split at hc
      · rename_i t et
        split at hc
        · rename_i es1 A1 e1
          cases hc
          have h1 := h.move et
          exact go (h.slot_al et) h1 e1
        · cases hc
      · cases hc
    · rename_i hna
      split at hc
      · rename_i es1 A1 e1
        cases hc
        exact go (fun i q => hna i q) h e1
      · cases hc
  | [], _ :: _, _, _, _, _, hl, _, _ => by simp at hl
  | _ :: _, [], _, _, _, _, hl, _, _ => by simp at hl

def fTupM (fa : FA) : FE := fun A => (fa A).bind fun ds A1 => match moveL ds A1 with
  | some (es, A2) => if es.length ≤ sizeLine then .ok (.tup es) A2 else .stuck
  | none => .stuck
section
variable {z : Z} {X : Cx}
theorem qe_tupM {es : List Expr} {k : Nat} {pos : Pos} {fa : FA} (h : PA X es (tA z fa)) : PE X (.Tuple es k pos) (tE z (fTupM fa)) := by
  refine PE.imp (pe_tup h) fun σ H Q ⟨A, ts, hA, hp⟩ => ⟨A, ts, hA, ?_⟩
  unfold fTupM at hp
  cases ea : fa A with
  | stuck => rw [ea] at hp; exact hp.elim
  | exc c A1 => rw [ea] at hp; exact hp
  | ok ds A1 =>
    rw [ea] at hp
    simp only [Ou.bind_ok] at hp
    intro vs H1 hl h1
    split at hp
    · rename_i es' A2 ec
      obtain ⟨h2, l2, n2⟩ := h1.closeM hl ec
      split at hp
      · rename_i hz
        exact ⟨by rw [l2]; exact hz, fun p hpn => hp _ _ (h2.tup l2 n2 hpn)⟩
      · exact hp.elim
    · exact hp.elim
end
end Ab
end
section
namespace Ab
open PySem PySem.Spec PyProof.Rows L2
/-! ### a fresh value that is only read from now on -/
def fFzT (fe : FE) : FE := fun A => (fe A).bind fun d A1 => match closeD d A1 with
  | some (d', A2) => .ok (fz d') A2
  | none => .stuck
section
variable {z : Z} {X : Cx} {fe : FE}
theorem qe_fzT {e : Expr} (h : PE X e (tE z fe)) : PE X e (tE z (fFzT fe)) := by
  refine PE.imp h fun σ H Q ⟨A, ts, hA, hp⟩ => ⟨A, ts, hA, ?_⟩
  unfold fFzT at hp
  cases ea : fe A with
  | stuck => rw [ea] at hp; exact hp.elim
  | exc c A1 => rw [ea] at hp; exact hp
  | ok d A1 =>
    rw [ea] at hp
    simp only [Ou.bind_ok] at hp
    intro v H1 h1
    split at hp
    · rename_i d' A2 ec
      obtain ⟨h2, n2⟩ := Abs.closeD h1 ec
      exact hp _ _ (Abs.fz h2 n2)
    · exact (show False from hp).elim
end
end Ab
end
section
/-! a tuple times nought or one -/
namespace L2
open PySem PySem.Spec PyProof.Rows
open PySem.AutoSeq1 (wpAny_loadPart')
theorem tuple_once (l : Addr) (items : Array Value) (n : Nat) (dd : Option Addr) (sl : Array (Option Value)) (u : Tok) :
    Meets (Builtin.«tuple.__mul__» ⟨[.ref l, .int 1 u], []⟩) (fun _ R s => s.heap.get? l = some ⟨.type "tuple", dd, .seq items n, sl⟩ ∧ R (.ok (.ret (Value.ref l))) s) :=
  .of_wp fun prog w A R s h => by
    obtain ⟨hp, g, d, tk, os⟩ := s
    obtain ⟨hl, h⟩ := h
    have ix := AutoSeq1.idx_int
    have c1 : (items.isEmpty || (1 : Int) == 1) = true := by simp
    wp_walk using wpAny_loadPart' hl
    repeat (first
      | (refine wpAny_ite_false (by decide) ?_; wp_walk using wpAny_loadPart' hl)
      | (refine wpAny_ite_true (decide_eq_true c1) ?_; wp_walk using wpAny_loadPart' hl))
    exact ⟨_, rfl, h⟩
theorem tuple_never (l : Addr) (items : Array Value) (n : Nat) (dd : Option Addr) (sl : Array (Option Value)) (u : Tok) (c1 : (items.isEmpty || (0 : Int) == 1) = false) :
    Meets (Builtin.«tuple.__mul__» ⟨[.ref l, .int 0 u], []⟩) (fun _ R s => s.heap.get? l = some ⟨.type "tuple", dd, .seq items n, sl⟩ ∧ R (.ok (.ret (Value.ref s.heap.objs.size))) { s with heap := s.heap.push { cls := Value.type "tuple", data := Data.seq #[] }, toks := s.toks }) :=
  .of_wp fun prog w A R s h => by
    obtain ⟨hp, g, d, tk, os⟩ := s
    obtain ⟨hl, h⟩ := h
    have ix := AutoSeq1.idx_int
    have c2 : (decide ((0 : Int) ≤ 0) || items.isEmpty) = true := by simp
    wp_walk using wpAny_loadPart' hl
    repeat (first
      | (refine wpAny_ite_false (by decide) ?_; wp_walk using wpAny_loadPart' hl)
      | (refine wpAny_ite_false (decide_eq_false (by rw [c1]; exact Bool.false_ne_true)) ?_; wp_walk using wpAny_loadPart' hl)
      | (refine wpAny_ite_true (decide_eq_true c2) ?_; wp_walk using wpAny_loadPart' hl))
    exact ⟨_, rfl, h⟩
def rRepT0 (K : PySem.W.Frag) : R2 := fun x y H Q => ∃ l k xs, x = .ref l ∧ y = .int k ∧ SqT K H l xs ∧ xs ≠ [] ∧ ((k = 1 ∧ Q (.ref l) H) ∨ (k = 0 ∧ ∀ p, H p = none → Q (.ref p) (upd H p (.tup []))))
section
variable {X : Cx}
theorem op_repT0 : OpR X (binaryOp .Mult) (fun x y H Q => rRepT X.K x y H Q ∨ rRepT0 X.K x y H Q) := by
  intro pins s σ H x y v u Q I rx ry h
  rcases h with h | ⟨l, k, xs, rfl, rfl, hT, hne, h⟩
  · exact op_repT pins s σ H x y v u Q I rx ry h
  cases rx
  obtain ⟨t, rfl⟩ := ry
  obtain ⟨its, r, ⟨⟨cls, dd, data, sl⟩, ho, hc, n, hd⟩, hs⟩ := I.tuple hT
  simp only at hc hd
  subst hc hd
  have full : its.toArray.isEmpty = false := by
    cases its with
    | nil => exact absurd (List.eq_nil_of_length_eq_zero r.length) hne
    | cons a b => rfl
  rcases h with ⟨rfl, q⟩ | ⟨rfl, q⟩
  · exact wpAny_binaryOp_repeat_ref (T := "tuple") (U := "int") (by decide) ⟨_, ho, rfl⟩ (fun s' => typeIs_int s' 1 t) noFill_tuple_mul F.fills_int_mul F.slot_int_rmul repeat_tuple F.slot_int_index.lookup
      (call_meets F.slot_int_rmul (typeIs_int s 1 t) F.entry_int_rmul (F.args_int_rmul_2 _ _) (int_rmul_tuple 1 t l its.toArray n dd sl)
        ⟨ho, rfl, ⟨_, ho, rfl⟩, call_meets F.slot_tuple_mul ⟨_, ho, rfl⟩ F.entry_tuple_mul (F.args_tuple_mul_2 _ _) (tuple_once l its.toArray n dd sl t) ⟨ho, .ref l, H, I, rfl, q⟩⟩)
  · refine wpAny_binaryOp_repeat_ref (T := "tuple") (U := "int") (by decide) ⟨_, ho, rfl⟩ (fun s' => typeIs_int s' 0 t) noFill_tuple_mul F.fills_int_mul F.slot_int_rmul repeat_tuple F.slot_int_index.lookup
      (call_meets F.slot_int_rmul (typeIs_int s 0 t) F.entry_int_rmul (F.args_int_rmul_2 _ _) (int_rmul_tuple 0 t l its.toArray n dd sl)
        ⟨ho, rfl, ⟨_, ho, rfl⟩, call_meets F.slot_tuple_mul ⟨_, ho, rfl⟩ F.entry_tuple_mul (F.args_tuple_mul_2 _ _) (tuple_never l its.toArray n dd sl t (by rw [full]; rfl)) ⟨ho, ?_⟩⟩)
    refine ⟨.ref s.heap.objs.size, _, I.laid (t' := s.toks) (o := .tup []) (fun b ob q => Heap.get?_push_of_some _ q) (Nat.le_refl _) ?_, rfl, q _ (I.hok.fresh (Nat.le_refl _))⟩
    exact ⟨by simp, [], .nil, IsTup.new _ _⟩
end
end L2
namespace Ab
open PySem PySem.Spec PyProof.Rows L2
def gMulT0 (d e : D) (A : Sl) : Option D := match e with
  | .int 1 => match see A d with
    | .tup ds => if isFs ds = true ∧ ds ≠ [] then some (.tup ds) else none
    | _ => none
  | .int 0 => match see A d with
    | .tup ds => if isFs ds = true ∧ ds ≠ [] then some (.tup []) else none
    | _ => none
  | e => gMulT d e A
theorem opd_mulT0 {z : Z} : OpD z (fun x y H Q => rRepT z.K x y H Q ∨ rRepT0 z.K x y H Q) gMulT0 := by
  intro σ A ts H v u d e d' h hg Q q
  unfold gMulT0 at hg
  have key : ∀ ds, see A d = .tup ds → isFs ds = true ∧ ds ≠ [] → ∃ l xs, v = .ref l ∧ SqT z.K H l xs ∧ xs ≠ [] ∧ (z.A σ A ((.ref l, .tup ds) :: ts) H) ∧ (∀ p, H p = none → z.A σ A ((.ref p, .tup []) :: ts) (upd H p (.tup []))) := fun ds hs hl => by
    obtain ⟨G, L, gh, r, f⟩ := h.drop.open (fun j q => by rw [hs] at q; cases q)
    obtain ⟨G', L', gh', r', k'⟩ := h.drop.look (fun j q => by rw [hs] at q; cases q)
    rw [hs] at r r'
    cases r' with
    | tup q1 rs1 =>
      have e1 := rs1.isFs hl.1
      subst e1
      refine ⟨_, _, rfl, .inl (.inl (gh' _ _ q1)), ?_, k' _ _ (.tup q1 rs1), fun p hp => f.tup gh .nil hp⟩
      intro ex
      have := rs1.length
      rw [ex] at this
      exact hl.2 (List.length_eq_zero_iff.mp this.symm)
  split at hg
  · split at hg
    · rename_i ds hs
      split at hg
      · rename_i hl
        cases hg
        obtain ⟨l, xs, rfl, h1, h2, h3, _⟩ := key ds hs hl
        exact .inr ⟨l, 1, xs, rfl, h.int, h1, h2, .inl ⟨rfl, q _ _ h3⟩⟩
      · cases hg
    · cases hg
  · split at hg
    · rename_i ds hs
      split at hg
      · rename_i hl
        cases hg
        obtain ⟨l, xs, rfl, h1, h2, _, h4⟩ := key ds hs hl
        exact .inr ⟨l, 0, xs, rfl, h.int, h1, h2, .inr ⟨rfl, fun p hp => q _ _ (h4 p hp)⟩⟩
      · cases hg
    · cases hg
  · exact .inl (opd_mulT σ A ts H v u d e d' h hg Q q)
end Ab
namespace Ab
open PySem PySem.Spec PyProof.Rows L2
/-! ### <= of pairs -/
def lePair (a b c d : Int) : Bool := if a = c then (if b = d then true else decide (b ≤ d)) else decide (a ≤ c)
def gLeX (d e : D) (A : Sl) : Option D := match see A d, see A e with
  | .tup [.int a, .int b], .tup [.int a', .int b'] => some (.bl (lePair a b a' b'))
  | _, _ => gLe d e A
section
variable {X : Cx} {z : Z}
theorem op_leX (hu : X.A.units < cLine) : OpR X (compareOp .LtE) (fun x y H Q => (rI0 fun i j => .bl (decide (i ≤ j))) x y H Q ∨ rLeT X.K x y H Q) := by
  intro pins s σ H x y v u Q I rx ry h
  rcases h with h | h
  · exact op_le pins s σ H x y v u Q I rx ry h
  · exact op_leT hu pins s σ H x y v u Q I rx ry h
theorem opd_leX : OpD z (fun x y H Q => (rI0 fun i j => .bl (decide (i ≤ j))) x y H Q ∨ rLeT z.K x y H Q) gLeX := by
  intro σ A ts H v u d e d' h hg Q q
  unfold gLeX at hg
  split at hg
  · rename_i a b a' b' hd he
    cases hg
    obtain ⟨G, L, L', gh, r, r', _⟩ := h.look2 (fun j q => by rw [he] at q; cases q) (fun j q => by rw [hd] at q; cases q)
    rw [he] at r
    rw [hd] at r'
    cases r with
    | tup q1 rs1 =>
      cases r' with
      | tup q2 rs2 =>
        have two : ∀ {xs : List V} {M : List Addr} {i j : Int}, Rs z.K G H xs [.int i, .int j] M → xs = [i, j].map V.int := fun {xs M i j} rs => by
          cases rs with
          | cons r0 t0 =>
            cases r0
            cases t0 with
            | cons r1 t1 =>
              cases r1
              cases t1; rfl
        have e1 := two rs1
        have e2 := two rs2
        subst e1
        subst e2
        refine .inr ⟨_, _, [a, b], [a', b'], rfl, rfl, .inl (.inl (gh _ _ q2)), .inl (.inl (gh _ _ q1)), ?_⟩
        have e : Ob.lexAt (fun j => decide ([a, b].getD j 0 = [a', b'].getD j 0)) (fun j => decide ([a, b].getD j 0 ≤ [a', b'].getD j 0)) (decide ([a, b].length ≤ [a', b'].length)) 0 (min [a, b].length [a', b'].length) = lePair a b a' b' := by
          simp [Ob.lexAt, lePair]
        rw [e]
        exact q _ _ (h.drop.drop.pbl _)
  · exact .inl (opd_le σ A ts H v u d e d' h hg Q q)
end
end Ab
namespace Ab
open PySem L2
theorem hu0 {k : Nat} {A : Around} (r : Room k A) : A.units < cLine := by have := r.un; omega
end Ab
end
section
/-! sorted of a tuple of pairs -/
namespace SrtO
open PySem PySem.Spec PyProof.Rows Srt
theorem collect_tupT {prog : Program} {w : World} {A : Around} {E : Value → Shared → Prop} {s : Shared} {l : Addr} {vs : List Value} {Q : List Value → Shared → Prop} (hl : s.heap.IsTuple l vs.toArray) (hsz : vs.length ≤ sizeLine)
    (h : Q vs { s with heap := (s.heap.push (seqObj "list" #[] 0)).update s.heap.objs.size (Obj.mapSeq (· ++ vs.toArray)) }) : wpAny (model prog w) A (collect (.ref l)) Q E s := by
  obtain ⟨o, ho, hc, n, hd⟩ := id hl
  have hk : (s.heap.push (seqObj "list" #[] 0)).get? l = some o := Heap.get?_push_of_some _ ho
  unfold collect
  refine wpAny_bind (wpAny_runValue (codeAny_builtin entry_proto_collect' ?_))
  show wpAny _ _ (do again (.builtin "list.__iadd__" ⟨[← newList [], .ref l], []⟩)) _ _ s
  refine wpAny_bind (wpAny_newList (wpAny_pure ⟨Code.quiet_builtin _ (by decide +kernel), codeAny_builtin entry_list_iadd' ?_⟩))
  show wpAny _ _ (Builtin.List.listExtendWith (.ref s.heap.objs.size) (.ref l) (.ref s.heap.objs.size)) _ _ { s with heap := s.heap.push (seqObj "list" #[] 0) }
  unfold Builtin.List.listExtendWith
  refine wpAny_bind (wpAny_typeOf (T := "tuple") ⟨o, hk, hc⟩ ?_)
  have c1 : (Value.type "tuple" == Value.type "list") = false := by decide
  have c2 : (Value.type "tuple" == Value.type "tuple") = true := by decide
  rw [if_pos (by rw [c1, c2, Bool.or_true])]
  refine wpAny_bind (listItems_at hk hd ?_)
  refine wpAny_bind (listItems_at (xs := #[]) (n := 0) (Heap.get?_push_size _ rfl) rfl ?_)
  rw [if_neg (by simp)]
  refine wpAny_bind (listUpdate_at (xs := #[]) (n := 0) (Heap.get?_push_size _ rfl) rfl ?_ (Nat.zero_le _) (by show (#[] ++ vs.toArray).size ≤ sizeLine + 1; simp only [Array.size_append, List.size_toArray, List.length_nil]; omega))
  refine wpAny_pure ?_
  show wpAny (model prog w) A (load s.heap.objs.size >>= fun o => match o.data with
    | .seq xs _ => pure xs.toList
    | _ => unsupported "internal:collect") Q E { s with heap := (s.heap.push (seqObj "list" #[] 0)).update s.heap.objs.size (Obj.mapSeq (· ++ vs.toArray)) }
  refine wpAny_bind (wpAny_load (get?_update_seq (Heap.get?_push_size _ rfl) _) ?_)
  have e : ((#[] : Array Value) ++ vs.toArray).toList = vs := by simp
  show wpAny _ _ (pure ((#[] : Array Value) ++ vs.toArray).toList) Q E _
  rw [e]
  exact wpAny_pure h
/-- sorted of a tuple of pairs of ints -/
theorem sorted_pairsT {prog : Program} {w : World} {A : Around} {E : Value → Shared → Prop} {s : Shared} {l : Addr} {vs : List Value} {k : Value → Int × Int} {Q : Value → Shared → Prop} (hl : s.heap.IsTuple l vs.toArray) (hz : vs.length ≤ sizeLine) (hp : ∀ v ∈ vs, IsPair s.heap v (k v).1 (k v).2)
    (h : ∀ (h' : Heap) (d : Addr) (out : List Value), Srtd (fun v u => lexB (k v) (k u)) out → Stb (fun v u => lexB (k v) (k u)) out vs → (∀ b o, s.heap.get? b = some o → h'.get? b = some o) → s.heap.objs.size ≤ d → (∃ n, h'.get? d = some (seqObj "list" out.toArray n)) → Q (.ref d) { s with heap := h' }) :
    wpAny (model prog w) A (call (.builtin "sorted") [.ref l]) Q E s := by
  refine Calls.call_function_entry kind_sorted plain_sorted entry_sorted (args_sorted1 _) ?_
  unfold Builtin.«sorted»
  refine wpAny_bind (m := checkCount "sorted" 1 1 _) (wpAny_pure ?_)
  refine wpAny_bind (collect_tupT hl hz (wpAny_bind (wpAny_newList ?_ hz)))
  have sz : ((s.heap.push (seqObj "list" #[] 0)).update s.heap.objs.size (Obj.mapSeq (· ++ vs.toArray))).objs.size = s.heap.objs.size + 1 := by rw [Heap.size_update, size_push']
  have at1 : (((s.heap.push (seqObj "list" #[] 0)).update s.heap.objs.size (Obj.mapSeq (· ++ vs.toArray))).push (seqObj "list" vs.toArray 0)).get? (s.heap.objs.size + 1) = some (seqObj "list" vs.toArray 0) := by
    rw [← sz]; exact Heap.get?_push_size _ rfl
  have keep : ∀ b o, s.heap.get? b = some o → b ≠ s.heap.objs.size + 1 ∧ (((s.heap.push (seqObj "list" #[] 0)).update s.heap.objs.size (Obj.mapSeq (· ++ vs.toArray))).push (seqObj "list" vs.toArray 0)).get? b = some o := fun b o q => by
    have lt := Heap.lt_size q
    exact ⟨Nat.ne_of_lt (Nat.lt_succ_of_lt lt), Heap.get?_push_of_some _ (by rw [Heap.get?_update_ne _ _ _ _ (Nat.ne_of_lt lt)]; exact Heap.get?_push_of_some _ q)⟩
  show wpAny _ _ _ _ _ { s with heap := ((s.heap.push (seqObj "list" #[] 0)).update s.heap.objs.size (Obj.mapSeq (· ++ vs.toArray))).push (seqObj "list" vs.toArray 0) }
  rw [sz]
  refine wpAny_bind (wpAny_holding (wpAny_call_entry slot_list_sort ⟨_, at1, rfl⟩ entry_list_sort (list_sort_ord (swo_lex k) at1 hz (fun h2 => ?_) fun out hs hb => ⟨_, rfl, ?_⟩) (args_list_sort _)))
  · refine pairs_sortableO (by omega) (fun v hm => (hp v hm).keeps fun b o e _ => (keep b o e).2) fun o e => ?_
    have e' : some o = some (seqObj "list" vs.toArray 0) := e.symm.trans at1
    cases e'
    exact fun c => absurd (Value.type.inj c) (by decide)
  · exact wpAny_pure ⟨_, rfl, h _ _ out hs hb (fun b o e => sortedAll_old e) (Nat.le_succ _) (sortedAll_at s.heap vs out.toArray)⟩
end SrtO
namespace L2
open PySem PySem.Spec PyProof.Rows
def rSortedPT (K : PySem.W.Frag) : List V → Hp → VK → Prop := fun vs H Q => ∃ (a : Addr) (xs : List V) (k : V → Int × Int), vs = [V.ref a] ∧ SqT K H a xs ∧ xs.length ≤ sizeLine ∧ (∀ x ∈ xs, ∃ t, x = V.ref t ∧ H t = some (.tup [.int (k x).1, .int (k x).2])) ∧
  ∀ ys p, SrtO.Srtd (ltP k) ys → SrtO.Stb (ltP k) ys xs → H p = none → Q (.ref p) (upd H p (.lst ys))
theorem cr_sortedPT {X : Cx} : CallR X (.builtin "sorted") (rSortedPT X.K) := by
  intro pins s σ H vs us Q I r h
  obtain ⟨a, xs, k, rfl, hs, hz, hx, q⟩ := h
  obtain ⟨its, rv, hl, _⟩ := I.tuple hs
  obtain ⟨u, rfl, ru⟩ := vals1 r
  obtain rfl : u = Value.ref a := ru
  obtain ⟨e1, e2⟩ := refs_back rv fun x m => (hx x m).elim fun t e => ⟨t, e.1⟩
  refine SrtO.sorted_pairsT (k := fun u => k (backV u)) hl (by rw [← rv.length]; exact hz) (fun v hv => ?_) fun h' d out h1 h2 kp hd hn => ?_
  · obtain ⟨t, rfl⟩ := e2 v hv
    obtain ⟨t', e, ht⟩ := hx (V.ref t) (by rw [e1]; exact List.mem_map.mpr ⟨_, hv, rfl⟩)
    cases e
    obtain ⟨_, its2, r2, o, ho, hc, n, hd⟩ := I.hok _ _ ht
    obtain ⟨u1, u2, rfl, ⟨t1, rfl⟩, ⟨t2, rfl⟩⟩ := vals2 r2
    exact ⟨t, o, t1, t2, n, rfl, ho, hc, hd⟩
  · obtain ⟨n, hn⟩ := hn
    have h3 : ∀ u ∈ out, ∃ a, u = Value.ref a := fun u hu => e2 u (h2.perm.mem_iff.mp hu)
    have hb : SrtO.Stb (ltP k) (out.map backV) xs := by rw [e1]; exact SrtO.Stb.map (ltP_swo k) backV h2
    exact ⟨.ref d, upd H d (.lst (out.map backV)), I.laid (t' := s.toks) kp hd ⟨by rw [hb.len]; exact hz, out, n, vals_back h3, hn⟩, rfl, q _ d (SrtO.srtd_map h1) hb (I.hok.fresh hd)⟩
end L2
namespace Ab
open PySem PySem.Spec PyProof.Rows L2
def gSortedT (ds : List D) (A : Sl) : Option D := match ds with
  | [d] => match see A d with
    | .tup es => match prsOf es with
      | some ps => if ps.length ≤ sizeLine then some (.mu ((sortP ps).map pd)) else none
      | none => none
    | _ => gSortedX [d] A
  | _ => none
section
variable {z : Z} {X : Cx}
theorem cr_sortedT2 : CallR X (.builtin "sorted") (fun vs H Q => rSortedX X.K vs H Q ∨ rSortedPT X.K vs H Q) := by
  intro pins s σ H vs us Q I r h
  rcases h with h | h
  · exact cr_sortedX pins s σ H vs us Q I r h
  · exact cr_sortedPT pins s σ H vs us Q I r h
theorem cd_sortedT : CallD z (fun vs H Q => rSortedX z.K vs H Q ∨ rSortedPT z.K vs H Q) gSortedT := by
  intro σ A ts H vs ds d' hl h hg Q q
  unfold gSortedT at hg
  split at hg
  · rename_i d
    split at hg
    · rename_i es hs
      split at hg
      · rename_i ps hp
        split at hg
        · rename_i hz
          cases hg
          obtain ⟨v, rfl⟩ := call1 hl rfl
          have h : z.A σ A ((v, d) :: ts) H := h
          have e1 := prsOf_eq hp
          subst e1
          obtain ⟨G, L, gh, r, f⟩ := h.open (fun j q => by rw [hs] at q; cases q)
          rw [hs] at r
          obtain ⟨a, xs, rfl, q1, s1⟩ := R.tup_inv r
          obtain ⟨m1, m2⟩ := rs_pd s1
          have hxl : xs.length ≤ sizeLine := by
            have := s1.length
            rw [List.length_map] at this
            omega
          refine .inr ⟨a, xs, kf G, rfl, .inl (.inl (gh _ _ q1)), hxl, fun x m => ?_, fun ys p hs hb hn => q _ _ (f.lst gh ?_ hn)⟩
          · obtain ⟨_, t, e2, e3⟩ := m2 x m
            exact ⟨t, e2, gh _ _ e3⟩
          · have pm := hb.perm
            have e4 : ys.map (kf G) = sortP ps := by
              refine sortP_uniq ?_ (by rw [← m1]; exact pm.map _)
              rw [List.pairwise_map]
              exact hs.imp fun {x y} u => by
                have u2 : SrtO.lexB (kf G y) (kf G x) = false := u
                unfold leP
                rw [u2]
                rfl
            rw [← e4]
            exact rs_of fun y m => (m2 y (pm.mem_iff.mp m)).1
        · cases hg
      · cases hg
    · exact .inl (cd_sortedX σ A ts H vs [d] d' hl h hg Q q)
  · cases hg
end
end Ab
end
section
namespace Ab
open PySem PySem.Spec PyProof.Rows L2
/-! ### methods of texts with one argument -/
def fS1 (g : Str → D → Sl → Option D) (fo fe : FE) : FE := fun A => (fo A).bind fun d A1 => match d with
  | .str a => (fe A1).bind fun e A2 => match g a e A2 with
    | some r => .ok r A2
    | none => .stuck
  | _ => .stuck
def MdS (z : Z) (r : V → List V → Hp → VK → Prop) (g : Str → D → Sl → Option D) : Prop :=
  ∀ (σ : L2.St) (A : Sl) (ts : Ts) (H : Hp) (a : Str) (v : V) (e d' : D), z.A σ A ((v, e) :: (.str a, .str a) :: ts) H → g a e A = some d' → ∀ Q : VK, (∀ w H', z.A σ A ((w, d') :: ts) H' → Q w H') → r (.str a) [v] H Q
def strsOf : List D → Option (List Str)
  | [] => some []
  | .str x :: ds => (strsOf ds).map (x :: ·)
  | _ :: _ => none
theorem strsOf_eq : ∀ {ds : List D} {xs : List Str}, strsOf ds = some xs → ds = xs.map D.str
  | [], xs, h => by cases h; rfl
  | d :: ds, xs, h => by
    unfold strsOf at h
    split at h
    · rename_i e; cases e
    · rename_i x ds' e
      injection e with e1 e2
      subst e1
      subst e2
      obtain ⟨ys, hy, rfl⟩ := Option.map_eq_some_iff.mp h
      rw [strsOf_eq hy]; rfl
    · cases h
theorem strsOf_map : ∀ xs : List Str, strsOf (xs.map D.str) = some xs
  | [] => rfl
  | x :: xs => by rw [List.map_cons, strsOf, strsOf_map xs]; rfl
section
variable {z : Z} {X : Cx} {fo fe : FE}
theorem s1_go {r : V → List V → Hp → VK → Prop} {g : Str → D → Sl → Option D} (hd : MdS z r g) {σ : L2.St} {H : Hp} {Q : VK} (h : tE z (fS1 g fo fe) σ H Q) : tM1 r (tE z fo) (tE z fe) σ H Q := by
  obtain ⟨A, ts, hA, hp⟩ := h
  refine ⟨A, ts, hA, ?_⟩
  unfold fS1 at hp
  cases eo : fo A with
  | stuck => rw [eo] at hp; exact hp.elim
  | exc c A1 => rw [eo] at hp; exact hp
  | ok d A1 =>
    rw [eo] at hp
    simp only [Ou.bind_ok] at hp
    intro v H1 h1
    split at hp
    · rename_i a
      have ev := h1.str
      refine ⟨⟨a, ev⟩, A1, (v, .str a) :: ts, h1, ?_⟩
      cases ee : fe A1 with
      | stuck => rw [ee] at hp; exact (show False from hp).elim
      | exc c A2 =>
        rw [ee] at hp
        have hp : ∀ H', z.A σ A2 ts H' → z.W (z.cl c) none σ H' := hp
        exact fun H' h' => hp H' h'.drop
      | ok e A2 =>
        rw [ee] at hp
        simp only [Ou.bind_ok] at hp
        intro u H2 h2
        split at hp
        · rename_i w hg
          subst ev
          exact hd σ A2 ts H2 a u e w h2 hg Q hp
        · exact (show False from hp).elim
    · exact (show False from hp).elim
theorem Rs.strs {K : Fw} {G H : Hp} : ∀ {vs : List V} {xs : List Str} {L : List Addr}, Rs K G H vs (xs.map D.str) L → vs = xs.map V.str
  | [], [], _, _ => rfl
  | [], _ :: _, _, h => nomatch h
  | _ :: _, [], _, h => nomatch h
  | v :: vs, x :: xs, _, .cons r t => by
    cases r
    rw [Rs.strs t]; rfl
theorem rs_strs {K : Fw} {G H : Hp} : ∀ xs : List Str, Rs K G H (xs.map V.str) (xs.map D.str) []
  | [] => .nil
  | x :: xs => .cons (L := []) (L' := []) (.str x) (rs_strs xs)
def gSplit (a : Str) (e : D) (_ : Sl) : Option D := match e with
  | .str b => if (b.length == 0) = false ∧ a.length + 2 ≤ sizeLine then some (.mu ((Txt.split a b).map D.str)) else none
  | _ => none
theorem md_split : MdS z (fun x xs H Q => ∃ a b, x = .str a ∧ xs = [.str b] ∧ (b.length == 0) = false ∧ a.length + 2 ≤ sizeLine ∧ rNewStrs (Txt.split a b) H Q) gSplit := by
  intro σ A ts H a v e d' h hg Q q
  unfold gSplit at hg
  split at hg
  · rename_i b
    split at hg
    · rename_i c
      cases hg
      have ev := h.str
      obtain ⟨G, gh, f⟩ := (Abs.drop (Abs.drop h)).fin
      exact ⟨a, b, rfl, by rw [ev], c.1, c.2, fun p hp => q _ _ (f.lst gh (rs_strs _) hp)⟩
    · cases hg
  · cases hg
def gPart (a : Str) (e : D) (_ : Sl) : Option D := match e with
  | .str b => if (b.length == 0) = false ∧ a.length ≤ sizeLine then some (.tup [.str (Txt.partition a b).1, .str (Txt.partition a b).2.1, .str (Txt.partition a b).2.2]) else none
  | _ => none
theorem md_part : MdS z (fun x xs H Q => ∃ a b, x = .str a ∧ xs = [.str b] ∧ (b.length == 0) = false ∧ a.length ≤ sizeLine ∧ ∀ p, H p = none → Q (.ref p) (upd H p (.tup [.str (Txt.partition a b).1, .str (Txt.partition a b).2.1, .str (Txt.partition a b).2.2]))) gPart := by
  intro σ A ts H a v e d' h hg Q q
  unfold gPart at hg
  split at hg
  · rename_i b
    split at hg
    · rename_i c
      cases hg
      have ev := h.str
      obtain ⟨G, gh, f⟩ := (Abs.drop (Abs.drop h)).fin
      exact ⟨a, b, rfl, by rw [ev], c.1, c.2, fun p hp => q _ _ (f.tup gh (rs_strs [_, _, _]) hp)⟩
    · cases hg
  · cases hg
def gJoin (a : Str) (e : D) (A : Sl) : Option D := match lsOf (see A e) with
  | some ds => match strsOf ds with
    | some ys => if (ys.map (·.length)).sum + ys.length * a.length ≤ 16777216 then some (.str (Txt.join a ys)) else none
    | none => none
  | none => none
theorem md_join : MdS z (fun x xs H Q => ∃ a p, ∃ ys : List Str, x = .str a ∧ xs = [.ref p] ∧ (SqL z.K H p (ys.map V.str) ∨ SqT z.K H p (ys.map V.str)) ∧ (ys.map (·.length)).sum + ys.length * a.length ≤ 16777216 ∧ Q (.str (Txt.join a ys)) H) gJoin := by
  intro σ A ts H a v e d' h hg Q q
  unfold gJoin at hg
  split at hg
  · rename_i ds hs
    split at hg
    · rename_i ys hy
      split at hg
      · rename_i c
        cases hg
        have e1 := strsOf_eq hy
        subst e1
        obtain ⟨G, L, gh, r, f⟩ := h.open (lsOf_al hs)
        obtain ⟨p, xs, M, rfl, k1, s1⟩ := r.list gh hs
        have e2 := s1.strs
        subst e2
        exact ⟨a, p, ys, rfl, rfl, .inl k1, c, q _ _ (Abs.pstr (Abs.drop (Abs.drop h)) _)⟩
      · cases hg
    · cases hg
  · cases hg
def gSIx (a : Str) (e : D) (_ : Sl) : Option D := match e with
  | .str b => match Builtin.Str.occurrences a b 0 a.length 1 with
    | i :: _ => some (.int (i : Nat))
    | [] => none
  | _ => none
theorem md_six : MdS z (fun x xs H Q => ∃ a b i rest, x = .str a ∧ xs = [.str b] ∧ Builtin.Str.occurrences a b 0 a.length 1 = i :: rest ∧ Q (.int (i : Nat)) H) gSIx := by
  intro σ A ts H a v e d' h hg Q q
  unfold gSIx at hg
  split at hg
  · rename_i b
    split at hg
    · rename_i i rest ho
      cases hg
      have ev := h.str
      exact ⟨a, b, i, rest, rfl, by rw [ev], ho, q _ _ (Abs.pint (Abs.drop (Abs.drop h)) _)⟩
    · cases hg
  · cases hg
def gFindS (a : Str) (e : D) (_ : Sl) : Option D := match e with
  | .str b => some (.int (Txt.find a b))
  | _ => none
theorem md_find : MdS z (fun x xs H Q => ∃ a b, x = .str a ∧ xs = [.str b] ∧ Q (.int (Txt.find a b)) H) gFindS := by
  intro σ A ts H a v e d' h hg Q q
  unfold gFindS at hg
  split at hg
  · rename_i b
    cases hg
    have ev := h.str
    exact ⟨a, b, rfl, by rw [ev], q _ _ (Abs.pint (Abs.drop (Abs.drop h)) _)⟩
  · cases hg
section
variable {o e : Expr} {apos pos : Pos} (hK : X.K = z.K) (ho : PE X o (tE z fo)) (he : PE X e (tE z fe)) (hs : starEach [e] X.env = [(false, eval e X.env)])
theorem qe_split (ho : PE X o (tE z fo)) (he : PE X e (tE z fe)) (hs : starEach [e] X.env = [(false, eval e X.env)] := by rfl) (hbase : attributeBase o "split" X.env (eval o X.env) = eval o X.env := by rfl) (hline : (apos.endLine == pos.line) = true := by rfl) :
    PE X (.Call (.Attribute o "split" apos) [e] [] pos) (tE z (fS1 gSplit fo fe)) := PE.imp (pe_split ho he hs hbase hline) fun _ _ _ h => s1_go md_split h
theorem qe_part (ho : PE X o (tE z fo)) (he : PE X e (tE z fe)) (hs : starEach [e] X.env = [(false, eval e X.env)] := by rfl) (hbase : attributeBase o "partition" X.env (eval o X.env) = eval o X.env := by rfl) (hline : (apos.endLine == pos.line) = true := by rfl) :
    PE X (.Call (.Attribute o "partition" apos) [e] [] pos) (tE z (fS1 gPart fo fe)) := PE.imp (pe_partition ho he hs hbase hline) fun _ _ _ h => s1_go md_part h
theorem qe_join (hK : X.K = z.K) (ho : PE X o (tE z fo)) (he : PE X e (tE z fe)) (hs : starEach [e] X.env = [(false, eval e X.env)] := by rfl) (hbase : attributeBase o "join" X.env (eval o X.env) = eval o X.env := by rfl) (hline : (apos.endLine == pos.line) = true := by rfl) :
    PE X (.Call (.Attribute o "join" apos) [e] [] pos) (tE z (fS1 gJoin fo fe)) := PE.imp (pe_join ho he hs hbase hline) fun _ _ _ h => by rw [hK]; exact s1_go md_join h
theorem qe_six (ho : PE X o (tE z fo)) (he : PE X e (tE z fe)) (hs : starEach [e] X.env = [(false, eval e X.env)] := by rfl) (hbase : attributeBase o "index" X.env (eval o X.env) = eval o X.env := by rfl) (hline : (apos.endLine == pos.line) = true := by rfl) :
    PE X (.Call (.Attribute o "index" apos) [e] [] pos) (tE z (fS1 gSIx fo fe)) := PE.imp (pe_m1 F.slot_str_index F.type_str_index mt_sindex ho he hs hbase hline) fun _ _ _ h => s1_go md_six h
theorem qe_findS (ho : PE X o (tE z fo)) (he : PE X e (tE z fe)) (hs : starEach [e] X.env = [(false, eval e X.env)] := by rfl) (hbase : attributeBase o "find" X.env (eval o X.env) = eval o X.env := by rfl) (hline : (apos.endLine == pos.line) = true := by rfl) :
    PE X (.Call (.Attribute o "find" apos) [e] [] pos) (tE z (fS1 gFindS fo fe)) := PE.imp (pe_m1 F.slot_str_find F.type_str_find mt_find ho he hs hbase hline) fun _ _ _ h => s1_go md_find h
end
/-! ### int(text), str(number) -/
def gIntT (ds : List D) (_ : Sl) : Option D := match ds with
  | [.str a] => if a.length ≤ 640 then (intText? a).map D.int else none
  | [.int i] => some (.int i)
  | [.bl b] => some (.int (if b then 1 else 0))
  | _ => none
def rIntT : List V → Hp → VK → Prop := fun xs H Q => (∃ a n, xs = [.str a] ∧ PySem.intText? a = some n ∧ a.length ≤ 640 ∧ Q (.int n) H) ∨ ((∃ i, xs = [.int i] ∧ Q (.int i) H) ∨ ∃ k, xs = [.bl k] ∧ Q (.int (if k then 1 else 0)) H)
theorem call_intT : CallR X (.type "int") rIntT := by
  intro pins s σ H vs us Q I r h
  rcases h with h | h
  · exact call_int_str pins s σ H vs us Q I r h
  · exact call_int1 pins s σ H vs us Q I r h
theorem cd_intT : CallD z rIntT gIntT := by
  intro σ A ts H vs ds d' hl h hg Q q
  unfold gIntT at hg
  split at hg
  · rename_i a
    obtain ⟨v, rfl⟩ := call1 hl rfl
    have h : z.A σ A ((v, .str a) :: ts) H := h
    split at hg
    · rename_i c
      obtain ⟨n, hn, rfl⟩ := Option.map_eq_some_iff.mp hg
      have ev := h.str
      exact .inl ⟨a, n, by rw [ev], hn, c, q _ _ (Abs.pint (Abs.drop h) _)⟩
    · cases hg
  · rename_i i
    obtain ⟨v, rfl⟩ := call1 hl rfl
    have h : z.A σ A ((v, .int i) :: ts) H := h
    cases hg
    have ev := h.int
    exact .inr (.inl ⟨i, by rw [ev], q _ _ (Abs.pint (Abs.drop h) _)⟩)
  · rename_i b
    obtain ⟨v, rfl⟩ := call1 hl rfl
    have h : z.A σ A ((v, .bl b) :: ts) H := h
    cases hg
    have ev := h.bl
    exact .inr (.inr ⟨b, by rw [ev], q _ _ (Abs.pint (Abs.drop h) _)⟩)
  · cases hg
def gStrI (ds : List D) (_ : Sl) : Option D := match ds with
  | [.int i] => if i.natAbs.log2 < 1920 then some (.str (toString i)) else none
  | _ => none
theorem cd_strI : CallD z (fun xs H Q => ∃ i, xs = [.int i] ∧ i.natAbs.log2 < 1920 ∧ Q (.str (toString i)) H) gStrI := by
  intro σ A ts H vs ds d' hl h hg Q q
  unfold gStrI at hg
  split at hg
  · rename_i i
    obtain ⟨v, rfl⟩ := call1 hl rfl
    have h : z.A σ A ((v, .int i) :: ts) H := h
    split at hg
    · rename_i c
      cases hg
      have ev := h.int
      exact ⟨i, by rw [ev], c, q _ _ (Abs.pstr (Abs.drop h) _)⟩
    · cases hg
  · cases hg
end
end Ab
end
section
/-! a caught exception that is kept in a slot -/
namespace L2
open PySem PySem.Spec PyProof.Rows
theorem kept_obj {P : Program} {w : World} {H : Hp} {h : Heap} {a : Addr} {cls : Value} {u : Obj} {fs : Array Value} (e : h.get? a = some u) (z : Zc cls none u) (d : u.data = .fields fs) : ObjOk P w H h a (KeptO cls a) :=
  ⟨⟨u, fs, e, z, d⟩, ⟨u, e⟩, fun _ _ ⟨o, v, q, r⟩ k => ⟨o, v, k o q, r⟩⟩
section
variable {X : Cx} {pins : List (Addr × Obj)} {σ : St} {H : Hp} {s : Shared}
/-- a pinned exception becomes a known object -/
theorem Inv.track {a : Addr} {u : Obj} {cls : Value} (I : Inv X ((a, u) :: pins) σ H s) (n0 : X.s_0.heap.get? a = none) (np : ∀ p ∈ X.pn ++ pins, p.1 ≠ a) (hz : Zc cls none u) (hf : ∃ fs, u.data = .fields fs) : Inv X pins σ (upd H a (KeptO cls a)) s := by
  obtain ⟨fs, hf⟩ := hf
  obtain ⟨p1, p2, p3, p4, p5⟩ := I.pin (a, u) (List.mem_append_right _ List.mem_cons_self)
  have old : ∀ b o, X.s_0.heap.get? b = some o → b ≠ a := fun b o e q => by rw [q, n0] at e; cases e
  have some_ne : ∀ {b : Addr} {o : HO}, H b = some o → b ≠ a := fun {b o} e q => by
    have p2 : H a = none := p2
    rw [q, p2] at e; cases e
  have cne : ∀ x c, X.env.cells.lookup x = some c → c ≠ a := fun x c e q => by
    obtain ⟨v, o, ho, hd⟩ := I.cell x c e
    have p1 : s.heap.get? a = some u := p1
    rw [q, p1] at ho
    cases ho
    exact p5 v hd
  exact {
    ok := I.ok
    os := I.os
    bare := I.bare
    base := {
      keep := I.base.keep
      slot := I.base.slot
      free := fun b o e n x => by rw [upd_ne (old b o e)]; exact I.base.free b o e n x
      there := I.base.there
      tups := fun b xs e => by
        have q := I.base.tups b xs e
        rw [upd_ne (some_ne q)]; exact q
      frzs := fun b o v e => by
        have q := I.base.frzs b o v e
        rw [upd_ne (some_ne q)]; exact q
      tbls := fun b ps e => by
        obtain ⟨m, q⟩ := I.base.tbls b ps e
        exact ⟨m, by rw [upd_ne (some_ne q)]; exact q⟩ }
    loc := I.loc
    cell := I.cell
    free := by rw [upd_ne (Ne.symm p3)]; exact I.free
    freeC := fun x c e => by rw [upd_ne (cne x c e)]; exact I.freeC x c e
    pin := fun p hp => by
      obtain ⟨q1, q2, q3⟩ := I.pin p (by
        rcases List.mem_append.mp hp with m | m
        · exact List.mem_append_left _ m
        · exact List.mem_append_right _ (List.mem_cons_of_mem _ m))
      exact ⟨q1, by rw [upd_ne (np p hp)]; exact q2, q3⟩
    hok := I.hok.laidN (fun _ _ q => q) p2 (kept_obj p1 hz hf)
    len := I.len }
theorem Inv.unsuiteK {a : Addr} {q : Addr × Obj} {pn' : List (Addr × Obj)} (I : Inv (X.suite a (q :: (X.pn ++ pins))) pn' σ H s) (ok : X.Ok) : Inv X (q :: pins) σ H s :=
  { ok := ok, os := I.os, bare := I.bare, base := I.base, loc := I.loc, cell := I.cell, free := I.free, freeC := I.freeC, hok := I.hok, len := I.len
    pin := fun p hp => I.pin p (by
      refine List.mem_append_left _ ?_
      rcases List.mem_append.mp hp with m | m
      · exact List.mem_cons_of_mem _ (List.mem_append_left _ m)
      · rcases List.mem_cons.mp m with rfl | m
        · exact List.mem_cons_self
        · exact List.mem_cons_of_mem _ (List.mem_append_right _ m)) }
end
/-- what 'except x as n: m = n' wishes of an exception of the body: slot i is n's, slot j m's -/
def wKeep (K : PySem.W.Frag) (c : Value) (i j : Nat) (Wout : WX) (D : Ends) : WX := fun cls d σ H =>
  d = none ∧ ∃ b, PySem.W.exmOne K cls c = some b ∧ (b = true → ∀ a, H a = none → D.nx (((σ.set i (some (.ref a))).set j (some (.ref a))).set i none) (upd H a (KeptO cls a))) ∧ (b = false → Wout cls none σ H)
section
variable {X : Cx} {x n : Str} {c : Value} {i j : Nat} {body suite : List Stmt} {b₀ : Stmt} {np pos pos' : Pos} {tb : WX → TS} {Wout : WX}
theorem ps_try_keep (hs : X.stack = X.env :: X.outer) (hf : X.env.frame = some X.env.locals) (hN : X.N.Nodup) (hi : X.N[i]? = some n) (hln : X.env.kindOf n = some .local) (hx : X.ex = []) (hc : Names X x c) (tk : Takes X Wout)
    (hb : ∀ (W : WX) (pn : List (Addr × Obj)) (xe : Value → Shared → Prop), Takes (X.tr pn xe) W → PassesOwn (model X.prog X.w) X.A X.env xe → PSs (X.tr pn xe) body (tb W))
    (hsu : ∀ (a : Addr) (oe : Obj) (pn : List (Addr × Obj)), PSs (X.suite a ((a, oe) :: pn)) (b₀ :: suite) (fun D σ H => ∃ v, σ[i]? = some (some v) ∧ D.nx (σ.set j (some v)) H)) :
    PS X (.Try body [.ExceptHandler (some (.Name x np)) (some n) (b₀ :: suite) pos'] [] [] pos) (fun D σ H => tb (wKeep X.K c i j Wout D) D σ H) := by
  refine ⟨fun pins s σ H D I h => wpAny_Try_except ?_⟩
  have ok := I.ok
  have eqFr : X.A.frames = some (X.env :: X.outer) := by rw [ok.frames]; exact congrArg some hs
  have hz0 : Loc X.env.scope n := Or.inl hln
  have hex : X.pn ++ pins = X.pn ++ pins := rfl
  refine wpAny_mono ((hb (wKeep X.K c i j Wout D) (X.pn ++ pins) (fun e t1 => wpAny (model X.prog X.w) X.A (noteFrame e X.env) (fun _ t2 => wpAny (model X.prog X.w) X.A (setFlight e none) (fun _ t3 => wpAny (model X.prog X.w) X.A (handleBy e X.env [.ExceptHandler (some (.Name x np)) (some n) (b₀ :: suite) pos']) (SP X pins D) X.xe t3) X.xe t2) X.xe t1) ?caught PassesOwn.looking).run [] s σ H D (I.toTry _) h) ?went fun _ _ he => he
  case went =>
    rintro f s1 q
    cases f with
    | next => obtain ⟨τ, G, J, q⟩ := q; exact wpAny_execs_nil ⟨τ, G, J.ofTry ok, q⟩
    | brk => obtain ⟨τ, G, J, q⟩ := q; exact ⟨τ, G, J.ofTry ok, q⟩
    | cont => obtain ⟨τ, G, J, q⟩ := q; exact ⟨τ, G, J.ofTry ok, q⟩
    | ret u => obtain ⟨v, τ, G, J, r, q⟩ := q; exact ⟨v, τ, G, J.ofTry ok, r, q⟩
  case caught =>
    rintro _ s1 ⟨a, gnd, sI, pins', τ, G, cls, d, rfl, J', nb, up, sky, na, os, ag, rfl, b, eb, yes, no⟩
    have J : Inv X pins τ G sI := J'.ofTry ok
    rw [hs] at sky
    refine Sky.land Zc.steady eqFr hf sky fun h3 fl3 up3 => ?_
    have J3 : Inv X pins τ G { s1 with heap := h3 } := J.landed nb fl3.1 (up.trans up3) os ag
    obtain ⟨u3, fs3, e3, z3, d3⟩ := fl3.there
    -- the exception is no frame, and new
    have offFr : a ∉ frs (X.env :: X.outer) := fun m => by
      obtain ⟨_, u', e', nf⟩ := fl3.2.2.1.mem m
      rw [e3] at e'; cases e'
      exact nf _ d3
    have offL : a ≠ X.env.locals := fun z => offFr (List.mem_filterMap.mpr ⟨X.env, List.mem_cons_self, by rw [hf, z]⟩)
    have offO : a ∉ X.fs := fun m => by
      obtain ⟨w, hw, q⟩ := List.mem_filterMap.mp m
      exact offFr (List.mem_filterMap.mpr ⟨w, List.mem_cons_of_mem _ hw, q⟩)
    have newI : sI.heap.get? a = none := by
      cases q : sI.heap.get? a with
      | none => rfl
      | some o =>
        have := nb a o q (by rw [hs]; exact offFr)
        rw [fl3.2.1] at this; cases this
    have n0 : X.s_0.heap.get? a = none := by
      cases q : X.s_0.heap.get? a with
      | none => rfl
      | some o =>
        obtain ⟨o', q'⟩ := J.base.there a o q (by rw [hx]; exact fun z => nomatch z)
        rw [newI] at q'; cases q'
    have offP : ∀ p ∈ X.pn ++ pins, p.1 ≠ a := fun p hp z => by
      have := (J.pin p hp).1
      rw [z, newI] at this; cases this
    have S3 := J3.suite e3 d3 na offL offO
    refine wpAny_handleBy_cons (codeAny_handlers_test ?_) (by intro q; cases q)
    have look : PySem.W.Looks (model X.prog X.w) h3 (typeOf (.ref a)) cls := fun A Q E t k q => wpAny_typeOf_ref (k _ _ e3) (by rw [z3.1]; exact q)
    have named : ∀ {Q E : Value → Shared → Prop}, Q c { s1 with heap := h3 } → wpAny (model X.prog X.w) (X.A.mark (some (.ref a))) (eval (.Name x np) X.env) Q E { s1 with heap := h3 } := fun {Q E} q => by
      obtain ⟨g1, g2, g3 | ⟨g3, g4, g5⟩⟩ := hc
      · exact ld_glob (X := X.suite a ((a, u3) :: (X.pn ++ pins))) S3 g1 g3 q g2
      · exact ld_blt (X := X.suite a ((a, u3) :: (X.pn ++ pins))) S3 g1 g3 g4 q g5 g2
    refine named ((PySem.W.exm_one (M := model X.prog X.w) J3.kIn look eb).here ?_)
    cases b with
    | true =>
      refine codeAny_handlers_suite_as (HandSPX.lands_againZ fl3 fun h4 fl4 up4 => ?_)
      have J4 : Inv X pins τ G { s1 with heap := h4 } := J.landed nb fl4.1 ((up.trans up3).trans up4) os ag
      obtain ⟨u4, fs4, e4, z4, d4⟩ := fl4.there
      have S4 := J4.suite e4 d4 na offL offO
      refine store_ok (X := X.suite a ((a, u4) :: (X.pn ++ pins))) (v := .ref a) S4 hN hi hz0 rfl (fun s5 S5 => ?_) (Or.inr hln)
      have hit : τ.length = X.N.length := J.len
      have il : i < τ.length := by rw [hit]; exact (List.getElem?_eq_some_iff.mp hi).1
      refine wpAny_mono ((hsu a u4 (X.pn ++ pins)).run [] s5 _ G { nx := fun τ' G' => D.nx (τ'.set i none) (upd G' a (KeptO cls a)), rt := fun _ _ => False } S5 ⟨.ref a, by rw [List.getElem?_set_self il], yes rfl a na⟩) (fun f s6 q => ?_) fun _ _ z => False.elim z
      cases f with
      | next =>
        obtain ⟨τ6, G6, S6, q6⟩ := q
        exact gone_ok (Inv.unsuiteK S6 ok) hN hi hln fun s7 J7 => ⟨_, _, J7.track n0 offP z4 ⟨fs4, d4⟩, q6⟩
      | brk => obtain ⟨_, _, _, q⟩ := q; exact q.elim
      | cont => obtain ⟨_, _, _, q⟩ := q; exact q.elim
      | ret u => obtain ⟨_, _, _, _, _, q⟩ := q; exact q.elim
    | false =>
      refine wpAny_handleBy_nil ?_
      obtain ⟨_, _, _, u5, fs5, T5, _, _, e5, _, d5, l5, _⟩ := id fl3
      have fin : wpAny (model X.prog X.w) X.A (setFlight (.ref a) X.env.frame) (fun _ t => wpAny (model X.prog X.w) X.A (throw (.ref a) : Sem Flow) (SP X pins D) X.xe t) X.xe { s1 with heap := h3 } := by
        rw [hf]
        exact HandSPX.setFlight_upZ fl3 fun h4 held up4 => wpAny_throw (tk _ _ ⟨a, gnd, sI, pins, τ, G, cls, none, rfl, J, nb, (up.trans up3).trans up4, Or.inr (Or.inr (by rw [hs]; exact held)), na, os, ag, no rfl⟩)
      unfold PySem.passOn
      refine wpAny_bind (wpAny_field e5 d5 l5 ?_)
      rw [if_neg (by simp)]
      first
        | exact wpAny_bind (wpAny_pure (wpAny_bind fin))
        | exact wpAny_bind fin
end
end L2
namespace Ab
open PySem PySem.Spec PyProof.Rows L2
theorem Abs.any {K : Fw} {B : Bs} {σ : L2.St} {A : Sl} {ts : Ts} {H : Hp} {i : Nat} {o : Option V} (h : Abs K B σ A ts H) (c : Cl ts) (e : A[i]? = some none ∨ A[i]? = none) : Abs K B (σ.set i o) A ts H := by
  obtain ⟨G, L1, L2, gd, tm, sl, nd, ow⟩ := h
  exact ⟨G, L1, L2, gd, tm.any c, sl.any e, nd, ow⟩
/-! ### try: body, except P as e: kept = e -/
def fTryK (j i : Nat) (tbl : List (Str × Bool)) (fb : FS) : FS := fun A => match fb A with
  | .exc c A1 => match tbl.lookup c with
    | some true => .ok .next ((A1.set j (some (.obj c [] []))).set i none)
    | some false => .exc c A1
    | none => .stuck
  | .ok r A1 => .ok r A1
  | .stuck => .stuck
theorem look_mem {α β : Type} [BEq α] [LawfulBEq α] {l : List (α × β)} {a : α} {b : β} (h : l.lookup a = some b) : (a, b) ∈ l := by
  induction l with
  | nil => cases h
  | cons p l ih =>
    obtain ⟨x, y⟩ := p
    rw [List.lookup_cons] at h
    by_cases q : a == x
    · simp only [q] at h
      cases h
      rw [LawfulBEq.eq_of_beq q]; exact List.mem_cons_self
    · simp only [q] at h
      exact List.mem_cons_of_mem _ (ih h)
theorem set_set_ne {α : Type} {l : List α} {i j : Nat} {x y w : α} (h : i ≠ j) : ((l.set i x).set j y).set i w = (l.set j y).set i w := by
  rw [List.set_comm _ _ h, List.set_set]
section
variable {z : Z} {X : Cx}
theorem keep_go {C : Value} {i j : Nat} {tbl : List (Str × Bool)} {fb : FS} (hij : i ≠ j) (hcl : z.K.cl = z.cl) (ht : ∀ p ∈ tbl, PySem.W.exmOne z.K (z.cl p.1) C = some p.2) {D : Ends} {σ : L2.St} {H : Hp} (h : tS z (fTryK j i tbl fb) D σ H) :
    tS { z with W := wKeep z.K C i j z.W D } fb D σ H := by
  obtain ⟨A, ts, hA, c, hp⟩ := h
  refine ⟨A, ts, hA, c, ?_⟩
  unfold fTryK at hp
  cases e : fb A with
  | stuck => rw [e] at hp; exact hp
  | ok r A1 => rw [e] at hp; cases r <;> exact hp
  | exc x A1 =>
    rw [e] at hp
    intro σ' H' h'
    simp only at hp
    cases el : tbl.lookup x with
    | none => rw [el] at hp; exact hp.elim
    | some b =>
      rw [el] at hp
      refine ⟨rfl, b, ht _ (look_mem el), fun hb a ha => ?_, fun hb => ?_⟩
      · subst hb
        have h1 : Abs z.K z.B σ' A1 ((.ref a, .obj x [] []) :: ts) (upd H' a (KeptO (z.cl x) a)) := by
          refine Abs.step h' (same_new ha) fun G g => ⟨upd G a (KeptO (z.cl x) a), [], same_new ?_, fun b o q => ?_, fun b q1 q2 => ?_, .kx (by rw [hcl]; exact upd_same), List.nodup_nil, fun _ m => nomatch m⟩
          · cases q : G a with
            | none => rfl
            | some o => rw [g a o q] at ha; cases ha
          · by_cases m : b = a
            · subst m; rw [upd_same] at q ⊢; exact q
            · rw [upd_ne m] at q ⊢; exact g b o q
          · have : b ≠ a := fun m => q1 (m ▸ ha)
            rw [upd_ne this]; exact q2
        have h2 := h1.set (i := j) (fun k q => nomatch q) c
        have h3 := h2.forget (i := i)
        have h4 := h3.any (i := i) (o := none) c (by
          by_cases q : i < ((A1.set j (some (Ab.D.obj x [] []))).set i none).length
          · left; rw [List.getElem?_set_self (by simpa using q)]
          · right; exact List.getElem?_eq_none (by omega))
        rw [set_set_ne hij]
        exact hp _ _ h4
      · subst hb
        exact hp σ' H' h'
theorem qs_tryK {x n m : Str} {C : Value} {i j : Nat} {body : List Stmt} {np p1 p2 p3 pos pos' : Pos} {tbl : List (Str × Bool)} {fb : FS} (hK : X.K = z.K) (hcl : z.K.cl = z.cl) (hs : X.stack = X.env :: X.outer) (hf : X.env.frame = some X.env.locals) (hN : X.N.Nodup) (hi : X.N[i]? = some n) (hj : X.N[j]? = some m) (hln : X.env.kindOf n = some .local) (hx : X.ex = []) (hij : i ≠ j) (hc : Names X x C) (tk : Takes X z.W)
    (ht : ∀ p ∈ tbl, PySem.W.exmOne z.K (z.cl p.1) C = some p.2)
    (hsu : ∀ (a : Addr) (oe : Obj) (pn : List (Addr × Obj)), PSs (X.suite a ((a, oe) :: pn)) [.Assign [.Name m p1] (.Name n p2) p3] (fun D σ H => ∃ v, σ[i]? = some (some v) ∧ D.nx (σ.set j (some v)) H))
    (hb : ∀ (W : WX) (pn : List (Addr × Obj)) (xe : Value → Shared → Prop), Takes (X.tr pn xe) W → PassesOwn (model X.prog X.w) X.A X.env xe → PSs (X.tr pn xe) body (tS { z with W := W } fb)) :
    PS X (.Try body [.ExceptHandler (some (.Name x np)) (some n) [.Assign [.Name m p1] (.Name n p2) p3] pos'] [] [] pos) (tS z (fTryK j i tbl fb)) :=
  PS.imp (ps_try_keep (tb := fun W => tS { z with W := W } fb) hs hf hN hi hln hx hc tk hb hsu) fun _ _ _ h => by rw [hK]; exact keep_go hij hcl ht h
/-! ### isinstance of a kept exception -/
/-- an own class by its name -/
theorem qe_cls {x : Str} {C : Addr} {pos : Pos} (h : PE X (.Name x pos) (tC (.ref C))) (hc : z.K.cl x = .ref C) : PE X (.Name x pos) (tE z (fC (.obj x ["C"] []))) := PE.imp h fun σ H Q ⟨A, ts, ha, hp⟩ => hp _ _ (ha.scal fun _ => .kc hc)
def rIsX (K : PySem.W.Frag) : List V → Hp → VK → Prop := fun xs H Q => ∃ (a D : Addr) (c : V) (u : Value) (b : Bool), xs = [.ref a, c] ∧ H a = some (KeptO (.ref D) a) ∧ ExcC K D ∧ ClsV c u ∧ PySem.W.kitOne K (.ref D) u = some b ∧ Q (.bl b) H
def rIsXT (K : PySem.W.Frag) : List V → Hp → VK → Prop := fun xs H Q => ∃ (a D tp : Addr) (cs : List V) (us : List Value) (b : Bool), xs = [.ref a, .ref tp] ∧ H a = some (KeptO (.ref D) a) ∧ ExcC K D ∧ H tp = some (.tup cs) ∧ Paired ClsV cs us ∧ PySem.W.kitAny K (.ref D) us = some b ∧ Q (.bl b) H
theorem kept_at {X : Cx} {pins : List (Addr × Obj)} {σ : L2.St} {H : Hp} {s : Shared} {a D : Addr} (I : Inv X pins σ H s) (e : H a = some (KeptO (.ref D) a)) : ∃ oe, PySem.W.InstAt s.heap a oe D none := by
  obtain ⟨⟨⟨cl, dc, dt, sl⟩, fs, h1, ⟨h2, h3⟩, h4⟩, _⟩ := I.hok a _ e
  dsimp only at h2 h3 h4
  subst h2 h3 h4
  exact ⟨_, h1, rfl, rfl, trivial⟩
theorem call_isX : CallR X (.builtin "isinstance") (fun xs H Q => rIsX X.K xs H Q ∨ rIsXT X.K xs H Q) := by
  intro pins s σ H xs us Q I r h
  rcases h with ⟨a, D, c, u, b, rfl, ea, C, k, e, q⟩ | ⟨a, D, tp, cs, ws, b, rfl, ea, C, hT, k, e, q⟩
  · obtain ⟨u1, u2, rfl, r1, r2⟩ := vals2 r
    cases (show u1 = Value.ref a from r1)
    have e2 := k.eq r2
    subst e2
    obtain ⟨oe, J⟩ := kept_at I ea
    exact PySem.W.kia_one (PySem.W.handS_kitx_exc C.hg C.hk C.hs C.hd C.ha C.hn C.ht C.hm) I.kIn J e (fun z => nomatch z) fun tk => ⟨.bl b, H, I.tok tk, rfl, q⟩
  · obtain ⟨u1, u2, rfl, r1, r2⟩ := vals2 r
    cases (show u1 = Value.ref a from r1)
    cases (show u2 = Value.ref tp from r2)
    obtain ⟨oe, J⟩ := kept_at I ea
    obtain ⟨_, its, rv, o, h1, h2, n, h3⟩ := (show ObjOk X.prog X.w H s.heap tp (.tup cs) from I.hok tp _ hT)
    have e3 := ClsV.all k rv
    subst e3
    obtain ⟨oc, od, dt, sl⟩ := o
    simp only at h2 h3
    subst h2 h3
    exact PySem.W.kia_tup (PySem.W.handS_kitx_exc C.hg C.hk C.hs C.hd C.ha C.hn C.ht C.hm) I.kIn J h1 e (fun z => nomatch z) fun tk => ⟨.bl b, H, I.tok tk, rfl, q⟩
/-- the answers: of an own class and an own class, of an own class and a built-in one -/
def clsAns (to : List ((Str × Str) × Bool)) (tt : List ((Str × String) × Bool)) (c : Str) : D → Option Bool
  | .obj C ["C"] [] => to.lookup (c, C)
  | .ty n => tt.lookup (c, n)
  | _ => none
def anyAns (f : D → Option Bool) : List D → Option Bool
  | [] => some false
  | d :: ds => match f d with
    | some true => (anyAns f ds).map fun _ => true
    | some false => anyAns f ds
    | none => none
def clsAll (to : List ((Str × Str) × Bool)) (tt : List ((Str × String) × Bool)) (c : Str) : D → Option Bool
  | .tup (e0 :: es) => anyAns (clsAns to tt c) (e0 :: es)
  | e => clsAns to tt c e
def gIsX (to : List ((Str × Str) × Bool)) (tt : List ((Str × String) × Bool)) (ds : List D) (A : Sl) : Option D := match ds with
  | [d, e] => match see A d with
    | .obj c [] [] => (clsAll to tt c e).map .bl
    | _ => none
  | _ => none
structure ClsT (K : PySem.W.Frag) (cl : Str → Value) (to : List ((Str × Str) × Bool)) (tt : List ((Str × String) × Bool)) : Prop where
  ho : ∀ p ∈ to, ∃ D, cl p.1.1 = .ref D ∧ ExcC K D ∧ PySem.W.kitOne K (.ref D) (cl p.1.2) = some p.2
  ht : ∀ p ∈ tt, ∃ D, cl p.1.1 = .ref D ∧ ExcC K D ∧ PySem.W.kitOne K (.ref D) (.type p.1.2) = some p.2
theorem cls_one {G H : Hp} {to : List ((Str × Str) × Bool)} {tt : List ((Str × String) × Bool)} (T : ClsT z.K.f z.K.cl to tt) {c : Str} {e : D} {b : Bool} (h : clsAns to tt c e = some b) {v : V} {L : List Addr} (r : R z.K G H v e L) :
    ∃ D u, z.K.cl c = .ref D ∧ ExcC z.K.f D ∧ ClsV v u ∧ PySem.W.kitOne z.K.f (.ref D) u = some b := by
  unfold clsAns at h
  split at h
  · rename_i C
    obtain ⟨D, e1, e2, e3⟩ := T.ho _ (look_mem h)
    cases r with
    | kc q =>
      refine ⟨D, _, e1, e2, .own _, ?_⟩
      simp only at e3
      rw [q] at e3; exact e3
  · rename_i n
    obtain ⟨D, e1, e2, e3⟩ := T.ht _ (look_mem h)
    cases r with
    | ty => exact ⟨D, _, e1, e2, .ty _, e3⟩
  · cases h
theorem cls_any {G H : Hp} {to : List ((Str × Str) × Bool)} {tt : List ((Str × String) × Bool)} (T : ClsT z.K.f z.K.cl to tt) {c : Str} {Da : Addr} (hD : z.K.cl c = .ref Da) : ∀ {es : List D} {b : Bool} {vs : List V} {L : List Addr}, anyAns (clsAns to tt c) es = some b → Rs z.K G H vs es L → ∃ us, Paired ClsV vs us ∧ PySem.W.kitAny z.K.f (.ref Da) us = some b
  | [], b, _, _, h, .nil => by cases h; exact ⟨[], .nil, rfl⟩
  | e :: es, b, _, _, h, .cons r t => by
    unfold anyAns at h
    cases he : clsAns to tt c e with
    | none => rw [he] at h; cases h
    | some b1 =>
      rw [he] at h
      obtain ⟨D', u, e1, e2, e3, e4⟩ := cls_one T he r
      rw [hD] at e1
      cases e1
      cases b1 with
      | true =>
        cases hr : anyAns (clsAns to tt c) es with
        | none => rw [hr] at h; cases h
        | some b2 =>
          rw [hr] at h
          cases h
          obtain ⟨us, k1, k2⟩ := cls_any T hD hr t
          exact ⟨u :: us, .cons e3 k1, by unfold PySem.W.kitAny; rw [e4]⟩
      | false =>
        obtain ⟨us, k1, k2⟩ := cls_any T hD h t
        exact ⟨u :: us, .cons e3 k1, by unfold PySem.W.kitAny; rw [e4]; exact k2⟩
theorem cd_isX {to : List ((Str × Str) × Bool)} {tt : List ((Str × String) × Bool)} (T : ClsT z.K.f z.K.cl to tt) : CallD z (fun xs H Q => rIsX z.K xs H Q ∨ rIsXT z.K xs H Q) (gIsX to tt) := by
  intro σ A ts H vs ds d' hl h hg Q q
  unfold gIsX at hg
  split at hg
  · rename_i d e
    obtain ⟨v, u, rfl⟩ := call2 hl rfl
    have h : z.A σ A ((v, d) :: (u, e) :: ts) H := h
    split at hg
    · rename_i c hc
      have hn : ∀ j, see A d ≠ .al j := fun j z => by rw [z] at hc; cases hc
      obtain ⟨G, L, gh, r, _⟩ := h.look hn
      rw [hc] at r
      have hfin : ∀ b, d' = .bl b → Q (.bl b) H := fun b e => by
        subst e
        exact q _ _ (h.drop.drop.pbl b)
      have h2 := h.drop
      cases r with
      | @kx a _ ea =>
        have ea' := gh _ _ ea
        obtain ⟨b, hb, rfl⟩ := Option.map_eq_some_iff.mp hg
        unfold clsAll at hb
        split at hb
        · rename_i e0 es _ _
          obtain ⟨G2, L2', gh2, r2, _⟩ := h2.look (fun j z => nomatch z)
          have r2 : R z.K G2 H u (.tup (e0 :: es)) L2' := r2
          obtain ⟨a2, xs, rfl, g2, rs⟩ := R.tup_inv r2
          have h0 : ∃ b0, clsAns to tt c e0 = some b0 := by
            unfold anyAns at hb
            cases he : clsAns to tt c e0 with
            | none => rw [he] at hb; cases hb
            | some b0 => exact ⟨b0, rfl⟩
          obtain ⟨b0, h0⟩ := h0
          have key : ∃ Ca, z.K.cl c = .ref Ca ∧ ExcC z.K.f Ca := by
            cases rs with
            | cons r t =>
              obtain ⟨Ca, _, q1, q2, _⟩ := cls_one T h0 r
              exact ⟨Ca, q1, q2⟩
          obtain ⟨Ca, q1, q2⟩ := key
          obtain ⟨us, k1, k2⟩ := cls_any T q1 hb rs
          rw [q1] at ea'
          exact .inr ⟨a, Ca, a2, xs, us, b, rfl, ea', q2, gh2 _ _ g2, k1, k2, hfin b rfl⟩
        · have hcase : (∃ C, e = .obj C ["C"] []) ∨ ∃ n, e = .ty n := by
            unfold clsAns at hb
            split at hb
            · exact .inl ⟨_, rfl⟩
            · exact .inr ⟨_, rfl⟩
            · cases hb
          have es : see A e = e := by rcases hcase with ⟨C, rfl⟩ | ⟨n, rfl⟩ <;> rfl
          have hna : ∀ j, see A e ≠ .al j := fun j z => by
            rw [es] at z
            rcases hcase with ⟨C, rfl⟩ | ⟨n, rfl⟩ <;> cases z
          obtain ⟨G2, L2', gh2, r2, _⟩ := h2.look hna
          rw [es] at r2
          obtain ⟨Ca, u', e1, e2, e3, e4⟩ := cls_one T hb r2
          rw [e1] at ea'
          exact .inl ⟨a, Ca, u, u', b, rfl, ea', e2, e3, e4, hfin b rfl⟩
    · cases hg
  · cases hg
end
end Ab
namespace Ab
open PySem PySem.Spec PyProof.Rows L2
section
variable {K : PySem.W.Frag} {cl : Str → Value} {C : Value} {c c' : Str} {v v' : Value} {b : Bool} {tbl : List (Str × Bool)} {to : List ((Str × Str) × Bool)} {tt : List ((Str × String) × Bool)} {D D' : Addr} {n : String}
theorem exl_nil : ∀ p ∈ ([] : List (Str × Bool)), PySem.W.exmOne K (cl p.1) C = some p.2 := fun _ m => nomatch m
theorem exl_cons (h : cl c = v) (e : PySem.W.exmOne K v C = some b) (r : ∀ p ∈ tbl, PySem.W.exmOne K (cl p.1) C = some p.2) : ∀ p ∈ (c, b) :: tbl, PySem.W.exmOne K (cl p.1) C = some p.2 := fun p m => by
  rcases List.mem_cons.mp m with rfl | m
  · show PySem.W.exmOne K (cl c) C = some b
    rw [h]; exact e
  · exact r p m
theorem cto_nil : ∀ p ∈ ([] : List ((Str × Str) × Bool)), ∃ D, cl p.1.1 = .ref D ∧ ExcC K D ∧ PySem.W.kitOne K (.ref D) (cl p.1.2) = some p.2 := fun _ m => nomatch m
theorem cto_cons (h : cl c = .ref D) (x : ExcC K D) (h2 : cl c' = v) (e : PySem.W.kitOne K (.ref D) v = some b) (r : ∀ p ∈ to, ∃ D, cl p.1.1 = .ref D ∧ ExcC K D ∧ PySem.W.kitOne K (.ref D) (cl p.1.2) = some p.2) : ∀ p ∈ ((c, c'), b) :: to, ∃ D, cl p.1.1 = .ref D ∧ ExcC K D ∧ PySem.W.kitOne K (.ref D) (cl p.1.2) = some p.2 := fun p m => by
  rcases List.mem_cons.mp m with rfl | m
  · refine ⟨D, h, x, ?_⟩
    show PySem.W.kitOne K (.ref D) (cl c') = some b
    rw [h2]; exact e
  · exact r p m
theorem ctt_nil : ∀ p ∈ ([] : List ((Str × String) × Bool)), ∃ D, cl p.1.1 = .ref D ∧ ExcC K D ∧ PySem.W.kitOne K (.ref D) (.type p.1.2) = some p.2 := fun _ m => nomatch m
theorem ctt_cons (h : cl c = .ref D) (x : ExcC K D) (e : PySem.W.kitOne K (.ref D) (.type n) = some b) (r : ∀ p ∈ tt, ∃ D, cl p.1.1 = .ref D ∧ ExcC K D ∧ PySem.W.kitOne K (.ref D) (.type p.1.2) = some p.2) : ∀ p ∈ ((c, n), b) :: tt, ∃ D, cl p.1.1 = .ref D ∧ ExcC K D ∧ PySem.W.kitOne K (.ref D) (.type p.1.2) = some p.2 := fun p m => by
  rcases List.mem_cons.mp m with rfl | m
  · exact ⟨D, h, x, e⟩
  · exact r p m
end
end Ab
namespace Ab
open PySem PySem.Spec PyProof.Rows L2
section
variable {K : PySem.W.Frag} {C D : Addr} {n : String} {b : Bool}
theorem kit_cls_own (hd : PySem.W.hasDictIn K C = true) (ht : PySem.W.typeIn K (.ref C) = some (.type "type")) (h : PySem.W.subIn K (.ref D) (.ref C) = some b) : PySem.W.kitCls K (.ref D) (.ref C) = some b := by
  obtain ⟨cd, hc, _⟩ := PySem.W.any_some hd
  have e2 : ((PySem.W.clsIn K C).isSome && PySem.W.typeIn K (.ref C) == some (.type "type")) = true := by rw [hc, ht] <;> rfl
  show (if ((PySem.W.clsIn K C).isSome && PySem.W.typeIn K (.ref C) == some (.type "type")) = true then PySem.W.subIn K (.ref D) (.ref C) else none) = some b
  rw [if_pos e2]; exact h
theorem kit_t (hd : PySem.W.hasDictIn K C = true) (ht : PySem.W.typeIn K (.ref C) = some (.type "type")) (h : PySem.W.subIn K (.ref D) (.ref C) = some true) : PySem.W.kitOne K (.ref D) (.ref C) = some true := by
  show (if _ then _ else _) = _
  split
  · rfl
  · exact kit_cls_own hd ht h
theorem kit_f (hd : PySem.W.hasDictIn K C = true) (ht : PySem.W.typeIn K (.ref C) = some (.type "type")) (h : PySem.W.subIn K (.ref D) (.ref C) = some false) (hn : (Value.ref D == .ref C) = false) : PySem.W.kitOne K (.ref D) (.ref C) = some false := by
  show (if _ then _ else _) = _
  rw [if_neg (by rw [hn]; exact Bool.false_ne_true)]
  exact kit_cls_own hd ht h
theorem kit_n (hm : PySem.W.kitMeta n = true) (h : PySem.W.subIn K (.ref D) (.type n) = some b) : PySem.W.kitOne K (.ref D) (.type n) = some b := by
  show (if _ then _ else _) = _
  have hn : (Value.ref D == Value.type n) = false := rfl
  rw [if_neg (by rw [hn]; exact Bool.false_ne_true)]
  show (if PySem.W.kitMeta n = true then _ else _) = _
  rw [if_pos hm]; exact h
end
end Ab
end
section
/-! typed data as told values -/
namespace Ab
open PySem L2
structure EncOk {α : Type} [DecidableEq α] (e : α → D) (n : Nat) : Prop where
  f : ∀ x, isF (e x) = true
  lay : ∀ x, (dat (e x)).canLay0 = true
  dep : ∀ x, (dat (e x)).depth ≤ n
  eqv : ∀ x y, PyData.eqv (dat (e x)) (dat (e y)) = decide (x = y)
section
variable {α β : Type} [DecidableEq α] [DecidableEq β] {e : α → D} {e' : β → D} {n m : Nat}
theorem enc_int : EncOk D.int 0 := ⟨fun _ => by simp [isF], fun _ => by simp [dat, PyData.canLay0], fun _ => by simp [dat, PyData.depth], fun x y => by rw [dat, dat]; exact eqv_int x y⟩
theorem EncOk.fs (h : EncOk e n) : ∀ xs : List α, isFs (xs.map e) = true
  | [] => by simp [isFs]
  | x :: xs => by rw [List.map_cons, isFs, h.f x, EncOk.fs h xs]; rfl
theorem EncOk.lays (h : EncOk e n) : ∀ xs : List α, PyData.canLayAll0 (dats (xs.map e)) = true
  | [] => by simp [dats, PyData.canLayAll0]
  | x :: xs => by rw [List.map_cons, dats, PyData.canLayAll0, h.lay x, EncOk.lays h xs]; rfl
theorem EncOk.deps (h : EncOk e n) : ∀ xs : List α, PyData.depthAll (dats (xs.map e)) ≤ n
  | [] => by simp [dats, PyData.depthAll]
  | x :: xs => by
    rw [List.map_cons, dats, PyData.depthAll]
    exact Nat.max_le.mpr ⟨h.dep x, EncOk.deps h xs⟩
theorem EncOk.eqvs (h : EncOk e n) : ∀ xs ys : List α, PyData.eqvAll (dats (xs.map e)) (dats (ys.map e)) = decide (xs = ys)
  | [], [] => by simp [dats, PyData.eqvAll]
  | [], _ :: _ => by simp [dats, PyData.eqvAll]
  | _ :: _, [] => by simp [dats, PyData.eqvAll]
  | x :: xs, y :: ys => by
    rw [List.map_cons, List.map_cons, dats, dats, PyData.eqvAll, h.eqv, EncOk.eqvs h xs ys]
    simp only [List.cons.injEq]
    by_cases h1 : x = y <;> by_cases h2 : xs = ys <;> simp [h1, h2]
abbrev eT (e : α → D) : List α → D := fun xs => .tup (xs.map e)
abbrev eL (e : α → D) : List α → D := fun xs => .lst (xs.map e)
abbrev eM (e : α → D) : List α → D := fun xs => .mu (xs.map e)
abbrev eP (e : α → D) (e' : β → D) : α × β → D := fun p => .tup [e p.1, e' p.2]
theorem enc_tup (h : EncOk e n) : EncOk (eT e) (n + 1) where
  f := fun xs => by rw [isF]; exact h.fs xs
  lay := fun xs => by rw [dat, PyData.canLay0]; exact h.lays xs
  dep := fun xs => by rw [dat, PyData.depth]; have := h.deps xs; omega
  eqv := fun xs ys => by rw [dat, dat, PyData.eqv]; exact h.eqvs xs ys
theorem enc_lst (h : EncOk e n) : EncOk (eL e) (n + 1) where
  f := fun xs => by simp [isF]
  lay := fun xs => by rw [dat, PyData.canLay0]; exact h.lays xs
  dep := fun xs => by rw [dat, PyData.depth]; have := h.deps xs; omega
  eqv := fun xs ys => by rw [dat, dat, PyData.eqv]; exact h.eqvs xs ys
theorem enc_pair (h : EncOk e n) (h' : EncOk e' m) : EncOk (eP e e') (max n m + 1) where
  f := fun p => by simp [isF, isFs, h.f, h'.f]
  lay := fun p => by simp [dat, dats, PyData.canLay0, PyData.canLayAll0, h.lay, h'.lay]
  dep := fun p => by
    simp only [dat, dats, PyData.depth, PyData.depthAll]
    have := h.dep p.1; have := h'.dep p.2
    omega
  eqv := fun p q => by
    cases p with | mk a b => cases q with | mk c d =>
    simp only [dat, dats, PyData.eqv, PyData.eqvAll, h.eqv, h'.eqv, Bool.and_true, Prod.mk.injEq]
    by_cases h1 : a = c <;> by_cases h2 : b = d <;> simp [h1, h2]
/-- None, or a value that is never None -/
def eO (e : α → D) : Option α → D
  | none => .non
  | some x => e x
theorem enc_opt (h : EncOk e n) (hn : ∀ x, PyData.eqv .none (dat (e x)) = false) (hn' : ∀ x, PyData.eqv (dat (e x)) .none = false) : EncOk (eO e) n where
  f := fun o => by cases o <;> simp [eO, isF, h.f]
  lay := fun o => by cases o <;> simp [eO, dat, PyData.canLay0, h.lay]
  dep := fun o => by
    cases o with
    | none => simp [eO, dat, PyData.depth]
    | some x => exact h.dep x
  eqv := fun o q => by
    cases o <;> cases q
    · simp [eO, dat, PyData.eqv]
    · simp only [eO, dat, hn]; simp
    · simp only [eO, dat, hn']; simp
    · simp only [eO, h.eqv]; simp
theorem EncOk.ok (h : EncOk e n) (hn : n ≤ 64 := by decide) (x : α) : okD (e x) = true := by
  unfold okD SeqAt.shaped
  rw [h.lay x, Bool.true_and, decide_eq_true_iff]
  exact Nat.le_trans (h.dep x) hn
theorem EncOk.okSeq (h : EncOk e n) (hn : n ≤ 63 := by decide) {d : D} {xs : List α} (hd : sqOf d = some (xs.map e)) : okD d = true := by
  have l := h.lays xs
  have p := h.deps xs
  unfold okD SeqAt.shaped
  rcases dat_seq hd with q | q <;> rw [q, PyData.canLay0, l, PyData.depth, Bool.true_and, decide_eq_true_iff] <;> omega
theorem EncOk.see (h : EncOk e n) (A : Sl) (x : α) : see A (e x) = e x := see_isF (h.f x)
section
variable {A : Sl} {d : D} {xs ys : List α} {x y : α}
theorem gEq_enc (h : EncOk e n) (hn : n ≤ 64 := by decide) : gEq (e x) (e y) A = some (.bl (decide (x = y))) := by
  unfold gEq; simp only [h.see, h.ok hn, Bool.and_self, if_true, h.eqv]
theorem gNe_enc (h : EncOk e n) (hn : n ≤ 64 := by decide) : gNe (e x) (e y) A = some (.bl (!decide (x = y))) := by
  unfold gNe; simp only [h.see, h.ok hn, Bool.and_self, if_true, h.eqv]
theorem EncOk.any (h : EncOk e n) (x : α) : ∀ ys : List α, ((dats (ys.map e)).any fun z => PyData.eqv z (dat (e x))) = decide (x ∈ ys)
  | [] => by simp [dats]
  | y :: ys => by
    rw [List.map_cons, dats, List.any_cons, h.eqv, EncOk.any h x ys]
    by_cases h1 : y = x <;> by_cases h2 : x ∈ ys <;> simp [h1, h2, eq_comm]
    · intro q; exact h1 q.symm
theorem inB_enc (h : EncOk e n) (hs : sqOf (Ab.see A d) = some (ys.map e)) (hn : n ≤ 63 := by decide) : inB (e x) d A = some (decide (x ∈ ys)) := by
  unfold inB
  split
  · rename_i z hz; rw [hz] at hs; cases hs
  · rw [hs]
    simp only [h.see, h.ok (Nat.le_trans hn (by decide)), h.okSeq hn hs, Bool.and_self, if_true, h.any]
theorem gIn_enc (h : EncOk e n) (hs : sqOf (Ab.see A d) = some (ys.map e)) (hn : n ≤ 63 := by decide) : gIn (e x) d A = some (.bl (decide (x ∈ ys))) := by
  unfold gIn; rw [inB_enc h hs hn]; rfl
theorem gNotIn_enc (h : EncOk e n) (hs : sqOf (Ab.see A d) = some (ys.map e)) (hn : n ≤ 63 := by decide) : gNotIn (e x) d A = some (.bl (!decide (x ∈ ys))) := by
  unfold gNotIn; rw [inB_enc h hs hn]; rfl
end
end
/-! ### items -/
section
variable {A : Sl} {d e : D} {ds : List D} {i : Int}
theorem atI_nn {α : Type} {xs : List α} {i : Int} {x : α} (h0 : 0 ≤ i) (h : xs[i.toNat]? = some x) : atI xs i = some x := by
  have hl := (List.getElem?_eq_some_iff.mp h).1
  unfold atI ixN
  rw [if_pos h0, if_pos (by omega)]
  exact h
theorem atI_neg {α : Type} {xs : List α} {i : Int} {x : α} (h0 : i < 0) (h1 : 0 ≤ i + xs.length) (h : xs[(i + xs.length).toNat]? = some x) : atI xs i = some x := by
  unfold atI ixN
  rw [if_neg (by omega), if_pos (by omega)]
  exact h
theorem gIx_at (hs : sqOf (see A d) = some ds) (h : atI ds i = some e) (hf : isF e = true) : gIx d (.int i) A = some e := by
  unfold gIx
  simp only
  split
  · rename_i z hz; rw [hz] at hs; cases hs
  · rw [hs]; simp only [h, hf, if_true]
theorem gIx_map {α : Type} {f : α → D} {xs : List α} {x : α} (hs : sqOf (see A d) = some (xs.map f)) (h0 : 0 ≤ i) (h : xs[i.toNat]? = some x) (hf : isF (f x) = true) : gIx d (.int i) A = some (f x) :=
  gIx_at hs (atI_nn h0 (by rw [List.getElem?_map, h]; rfl)) hf
theorem idxOf_enc {α : Type} [DecidableEq α] {f : α → D} {n : Nat} (h : EncOk f n) (x : α) : ∀ (ys : List α) (k : Nat), x ∈ ys → idxOf (dat (f x)) (dats (ys.map f)) k = some (k + ys.idxOf x)
  | y :: ys, k, m => by
    rw [List.map_cons, dats, idxOf, h.eqv]
    by_cases e : y = x
    · subst e; simp
    · have m' : x ∈ ys := (List.mem_cons.mp m).resolve_left fun q => e q.symm
      rw [decide_eq_false e, if_neg Bool.false_ne_true, idxOf_enc h x ys (k + 1) m', List.idxOf_cons, show (y == x) = false by simpa using e]
      simp only [cond_false]
      congr 1; omega
theorem gIndex_enc {α : Type} [DecidableEq α] {f : α → D} {n : Nat} {x : α} {ys : List α} (h : EncOk f n) (hs : lsOf (see A d) = some (ys.map f)) (m : x ∈ ys) (hn : n ≤ 63 := by decide) : gIndex d [f x] A = some (.int ((ys.idxOf x : Nat) : Int)) := by
  have hs2 : sqOf (see A d) = some (ys.map f) := by
    revert hs
    cases see A d <;> simp [lsOf, sqOf]
  unfold gIndex
  simp only [hs, h.see, h.ok (Nat.le_trans hn (by decide)), h.okSeq hn hs2, Bool.and_self, if_true, idxOf_enc h x ys 0 m, Option.map_some, Nat.zero_add]
end
section
variable {A A1 : Sl} {fe : FE} {i : Nat} {ds es : List D}
theorem ev_it_al (h : A[i]? = some (some (.mu ds))) (hf : isFs ds = true) : fIt (fVar i) A = .ok ds (A.set i (some (.lst ds))) := by
  unfold fIt
  rw [ev_al h (by simp [isF])]
  simp only [Ou.bind_ok, closeD, h, fz, fzs_isFs hf, iterOf]
theorem gAdd_tup (h1 : isFs ds = true) (h2 : isFs es = true) (h3 : ds.length + es.length ≤ sizeLine) : gAdd (.tup ds) (.tup es) A = some (.tup (ds ++ es)) := by
  unfold gAdd
  simp only [see, h1, h2, h3, and_self, if_true]
theorem gAdd_lst {d e : D} (h0 : exOf (see A d) = some ds) (h00 : exOf (see A e) = some es) (h1 : isFs ds = true) (h2 : isFs es = true) (h3 : ds.length + es.length ≤ sizeLine) : gAdd d e A = some (.mu (ds ++ es)) := by
  unfold gAdd
  split
  · rename_i q _; rw [q] at h0; cases h0
  · rename_i q _; rw [q] at h0; cases h0
  · rename_i q _; rw [q] at h0; cases h0
  · rw [h0, h00]; simp only [h1, h2, h3, and_self, if_true]
end
end Ab
end
section
/-! statements by what holds behind them -/
namespace Ab
open PySem L2
def W (o : Ou Fl) (P : Fl → Sl → Prop) : Prop := ∃ r A', o = .ok r A' ∧ P r A'
section
variable {A A0 A1 A2 : Sl} {f g k : FS} {fe fa fb : FE} {ft : FT} {P Q : Fl → Sl → Prop} {r : Fl} {b : Bool}
theorem w_of (h : f A = .ok r A1) (hp : P r A1) : W (f A) P := ⟨r, A1, h, hp⟩
theorem w_imp (h : W (f A) P) (hq : ∀ r A, P r A → Q r A) : W (f A) Q := let ⟨r, A', e, p⟩ := h; ⟨r, A', e, hq _ _ p⟩
theorem w_seq_n (h : f A = .ok .next A1) (hk : W (g A1) P) : W (fSeq f g A) P := by
  obtain ⟨r, A', e, p⟩ := hk
  exact ⟨r, A', (seq_next h).trans e, p⟩
theorem w_seq (h : W (f A) fun r A1 => match r with | .next => W (g A1) P | r => P r A1) : W (fSeq f g A) P := by
  obtain ⟨r, A', e, p⟩ := h
  unfold fSeq
  rw [e]
  simp only [Ou.bind_ok]
  cases r with
  | next => exact p
  | brk => exact ⟨_, _, rfl, p⟩
  | cont => exact ⟨_, _, rfl, p⟩
  | ret d => exact ⟨_, _, rfl, p⟩
theorem w_seq_W (h : W (f A) fun r A1 => r = .next ∧ W (g A1) P) : W (fSeq f g A) P := by
  obtain ⟨r, A', e, rfl, p⟩ := h
  exact w_seq_n e p
theorem wf_next (h : P .next A) : W (fNext A) P := ⟨_, _, rfl, h⟩
theorem w_cont (h : P .cont A) : W (fCont A) P := ⟨_, _, rfl, h⟩
theorem w_brk (h : P .brk A) : W (fBrk A) P := ⟨_, _, rfl, h⟩
theorem w_seq_next (h : W (k A) P) : W (fSeq fNext k A) P := w_seq_n rfl h
theorem w_seq_cont (h : P .cont A) : W (fSeq fCont k A) P := w_seq ⟨_, _, rfl, h⟩
theorem w_if (h : ft A = .ok b A1) (ht : b = true → W (f A1) P) (hf : b = false → W (g A1) P) : W (fIf ft f g A) P := by
  cases b with
  | true => obtain ⟨r, A', e, p⟩ := ht rfl; exact ⟨r, A', (fif_t h).trans e, p⟩
  | false => obtain ⟨r, A', e, p⟩ := hf rfl; exact ⟨r, A', (fif_f h).trans e, p⟩
theorem w_seq_if (h : ft A = .ok b A1) (ht : b = true → W (fSeq f k A1) P) (hf : b = false → W (fSeq g k A1) P) : W (fSeq (fIf ft f g) k A) P := by
  cases b with
  | true =>
    have := ht rfl
    unfold fSeq at this ⊢
    rw [fif_t h]; exact this
  | false =>
    have := hf rfl
    unfold fSeq at this ⊢
    rw [fif_f h]; exact this
theorem w_assoc (h : W (fSeq f (fSeq g k) A) P) : W (fSeq (fSeq f g) k A) P := by
  have e : fSeq (fSeq f g) k A = fSeq f (fSeq g k) A := by
    unfold fSeq
    cases f A with
    | ok r A1 => cases r <;> rfl
    | exc _ _ => rfl
    | stuck => rfl
  rw [e]; exact h
/-- a for by an invariant; its turns go on -/
theorem w_seq_for {fi : FI} {t : Tg} {fb : FS} {xs : List D} (I : Nat → Sl → Prop) (hi : fi A = .ok xs A0) (h0 : I 0 A0) (hs : ∀ j d A, xs[j]? = some d → I j A → ∃ A1, t.set d A = some A1 ∧ W (fb A1) fun r A2 => (r = .next ∨ r = .cont) ∧ I (j + 1) A2)
    (hk : ∀ A', I xs.length A' → W (k A') P) : W (fSeq (fFor fi t fb) k A) P := by
  obtain ⟨A', h1, h2⟩ := for_ind I hi h0 fun j d A e h => by
    obtain ⟨A1, e1, r, A2, e2, hr, hI⟩ := hs j d A e h
    exact ⟨A1, A2, e1, hr.elim (fun z => .inl (by rw [← z]; exact e2)) fun z => .inr (by rw [← z]; exact e2), hI⟩
  exact w_seq_n h1 (hk A' h2)
theorem w_for {fi : FI} {t : Tg} {fb : FS} {xs : List D} (I : Nat → Sl → Prop) (hi : fi A = .ok xs A0) (h0 : I 0 A0) (hs : ∀ j d A, xs[j]? = some d → I j A → ∃ A1, t.set d A = some A1 ∧ W (fb A1) fun r A2 => (r = .next ∨ r = .cont) ∧ I (j + 1) A2)
    (hk : ∀ A', I xs.length A' → P .next A') : W (fFor fi t fb A) P := by
  obtain ⟨A', h1, h2⟩ := for_ind I hi h0 fun j d A e h => by
    obtain ⟨A1, e1, r, A2, e2, hr, hI⟩ := hs j d A e h
    exact ⟨A1, A2, e1, hr.elim (fun z => .inl (by rw [← z]; exact e2)) fun z => .inr (by rw [← z]; exact e2), hI⟩
  exact ⟨_, _, h1, hk A' h2⟩
/-- a for that may be left by a return: up to some turn all go on, then one gives r -/
theorem forL_find {t : Tg} {fb : FS} (I : Nat → Sl → Prop) (E : D → Prop) : ∀ (xs : List D) (n : Nat) (A : Sl), I n A → (∀ j d A, xs[j]? = some d → I (n + j) A → ∃ A1, t.set d A = some A1 ∧ W (fb A1) fun r A2 => (r = .next ∨ r = .cont) ∧ I (n + j + 1) A2 ∨ ∃ v, r = .ret v ∧ E v) →
    W (forL t fb xs A) fun r A' => r = .next ∧ I (n + xs.length) A' ∨ ∃ v, r = .ret v ∧ E v
  | [], n, A, h0, _ => ⟨.next, A, rfl, .inl ⟨rfl, h0⟩⟩
  | x :: xs, n, A, h0, hs => by
    obtain ⟨A1, h1, r, A2, h2, h3⟩ := hs 0 x A rfl h0
    unfold forL
    simp only [h1]
    rcases h3 with ⟨hr, h3⟩ | ⟨v, rfl, hv⟩
    · have ih := forL_find I E xs (n + 1) A2 h3 fun j d A e h => by
        have := hs (j + 1) d A (by simpa using e) (by rw [show n + (j + 1) = n + 1 + j by omega]; exact h)
        rw [show n + (j + 1) + 1 = n + 1 + j + 1 by omega] at this
        exact this
      rw [List.length_cons, show n + (xs.length + 1) = n + 1 + xs.length by omega]
      rcases hr with rfl | rfl <;> simp only [h2] <;> exact ih
    · simp only [h2]
      exact ⟨_, _, rfl, .inr ⟨v, rfl, hv⟩⟩
theorem w_seq_find {fi : FI} {t : Tg} {fb : FS} {xs : List D} (I : Nat → Sl → Prop) (E : D → Prop) (hi : fi A = .ok xs A0) (h0 : I 0 A0) (hs : ∀ j d A, xs[j]? = some d → I j A → ∃ A1, t.set d A = some A1 ∧ W (fb A1) fun r A2 => (r = .next ∨ r = .cont) ∧ I (j + 1) A2 ∨ ∃ v, r = .ret v ∧ E v)
    (hk : ∀ A', I xs.length A' → W (k A') P) (he : ∀ v A', E v → P (.ret v) A') : W (fSeq (fFor fi t fb) k A) P := by
  obtain ⟨r, A', h1, h2⟩ := forL_find (t := t) (fb := fb) I E xs 0 A0 h0 fun j d A e h => by rw [Nat.zero_add] at h ⊢; exact hs j d A e h
  have e : fFor fi t fb A = .ok r A' := by unfold fFor; rw [hi]; exact h1
  rcases h2 with ⟨rfl, h2⟩ | ⟨v, rfl, hv⟩
  · exact w_seq_n e (hk A' (by simpa using h2))
  · exact w_seq ⟨_, _, e, he v A' hv⟩
/-- while, by an invariant that falls -/
theorem whileN_w {c : FT} {fb : FS} (I : Nat → Sl → Prop) : ∀ (m n : Nat) (A : Sl), m < n → I m A → (∀ m A, I m A → ∃ b A1, c A = .ok b A1 ∧ (b = true → W (fb A1) fun r A2 => (r = .next ∨ r = .cont) ∧ ∃ m', m' < m ∧ I m' A2) ∧ (b = false → P .next A1)) → W (whileN c fb n A) P
  | m, 0, A, h, _, _ => absurd h (Nat.not_lt_zero _)
  | m, n + 1, A, h, hI, hs => by
    obtain ⟨b, A1, h1, h2, h3⟩ := hs m A hI
    unfold whileN
    cases b with
    | false => simp only [h1]; exact ⟨_, _, rfl, h3 rfl⟩
    | true =>
      obtain ⟨r, A2, h4, hr, m', hm, hI'⟩ := h2 rfl
      simp only [h1]
      have ih := whileN_w I m' n A2 (by omega) hI' hs
      rcases hr with rfl | rfl <;> simp only [h4] <;> exact ih
theorem w_seq_while {n : Nat} {c : FT} {fb : FS} (I : Nat → Sl → Prop) (m : Nat) (hm : m < n) (h0 : I m A) (hs : ∀ m A, I m A → ∃ b A1, c A = .ok b A1 ∧ (b = true → W (fb A1) fun r A2 => (r = .next ∨ r = .cont) ∧ ∃ m', m' < m ∧ I m' A2) ∧ (b = false → W (k A1) P)) : W (fSeq (fWhile n c fb) k A) P := by
  obtain ⟨r, A', e, p⟩ := whileN_w (P := fun r A1 => r = .next ∧ W (k A1) P) I m n A hm h0 fun m A hI => by
    obtain ⟨b, A1, h1, h2, h3⟩ := hs m A hI
    exact ⟨b, A1, h1, h2, fun hb => ⟨rfl, h3 hb⟩⟩
  obtain ⟨rfl, p⟩ := p
  exact w_seq_n e p
theorem w_ret {d : D} (h : fe A = .ok d A1) (hd : isF d = true) (hp : P (.ret d) A1) : W (fRet fe A) P := ⟨_, _, ev_ret h (isF_al hd), hp⟩
theorem w_ret_mu {ds : List D} (h : fe A = .ok (.mu ds) A1) (hp : P (.ret (.mu ds)) A1) : W (fRet fe A) P := ⟨_, _, ev_ret h (fun _ q => nomatch q), hp⟩
theorem w_ret_al {i : Nat} {ds : List D} (h : A[i]? = some (some (.mu ds))) (hp : P (.ret (.mu ds)) (A.set i none)) : W (fRet (fVar i) A) P := ⟨_, _, ev_ret_al h, hp⟩
theorem w_seq_ret (h : W (f A) fun r A1 => ∃ v, r = .ret v ∧ P (.ret v) A1) : W (fSeq f g A) P := by
  obtain ⟨r, A', e, v, rfl, p⟩ := h
  exact w_seq ⟨_, _, e, p⟩
end
/-- a def's answer -/
def Ret (P : D → Prop) : Fl → Sl → Prop := fun r _ => match r with
  | .ret d => (∀ i, d ≠ .al i) ∧ P d
  | .next => P .non
  | _ => False
theorem ret_of {P : D → Prop} {d : D} {A : Sl} (hd : isF d = true) (h : P d) : Ret P (.ret d) A := ⟨isF_al hd, h⟩
theorem ret_mu {P : D → Prop} {ds : List D} {A : Sl} (h : P (.mu ds)) : Ret P (.ret (.mu ds)) A := ⟨(fun _ q => nomatch q), h⟩
theorem def_w {ds : List D} {k n : Nat} {fs : FS} {P : D → Prop} (A0 : Sl) (hA : ds.map some ++ List.replicate (n - ds.length) none = A0) (hk : ds.length = k) (h : W (fs A0) (Ret P)) : ∃ d, defF k n fs ds = .ok d ∧ P d := by
  obtain ⟨r, A', e, p⟩ := h
  unfold defF runF
  rw [if_pos hk, hA, e]
  cases r with
  | next => exact ⟨_, rfl, p⟩
  | brk => exact p.elim
  | cont => exact p.elim
  | ret d =>
    obtain ⟨p1, p2⟩ := p
    refine ⟨d, ?_, p2⟩
    cases d <;> first | rfl | exact absurd rfl (p1 _)
theorem def_is {ds : List D} {k n : Nat} {fs : FS} {d : D} (A0 : Sl) (hA : ds.map some ++ List.replicate (n - ds.length) none = A0) (hk : ds.length = k) (h : W (fs A0) (Ret fun x => x = d)) : defF k n fs ds = .ok d := by
  obtain ⟨_, e, rfl⟩ := def_w A0 hA hk h
  exact e
theorem getD_get {α : Type} {xs : List α} {k : Nat} {d : α} (h : k < xs.length) : xs[k]? = some (xs.getD k d) := by
  rw [List.getD_eq_getElem?_getD, List.getElem?_eq_getElem h]; rfl
/-- menus -/
theorem gIx_2 {a b i : Int} {A : Sl} (h0 : 0 ≤ i) (h1 : i < 2) : gIx (.mu [.int a, .int b]) (.int i) A = some (.int (if i = 0 then a else b)) := by
  rcases (by omega : i = 0 ∨ i = 1) with rfl | rfl
  · exact gIx_at (ds := [.int a, .int b]) rfl rfl rfl
  · exact gIx_at (ds := [.int a, .int b]) rfl rfl rfl
theorem gIx_3 {a b c i : Int} {A : Sl} (h0 : 0 ≤ i) (h1 : i < 3) : gIx (.mu [.int a, .int b, .int c]) (.int i) A = some (.int (if i = 0 then a else if i = 1 then b else c)) := by
  rcases (by omega : i = 0 ∨ i = 1 ∨ i = 2) with rfl | rfl | rfl
  · exact gIx_at (ds := [.int a, .int b, .int c]) rfl rfl rfl
  · exact gIx_at (ds := [.int a, .int b, .int c]) rfl rfl rfl
  · exact gIx_at (ds := [.int a, .int b, .int c]) rfl rfl rfl
theorem gIx_4 {a b c d i : Int} {A : Sl} (h0 : 0 ≤ i) (h1 : i < 4) : gIx (.mu [.int a, .int b, .int c, .int d]) (.int i) A = some (.int (if i = 0 then a else if i = 1 then b else if i = 2 then c else d)) := by
  rcases (by omega : i = 0 ∨ i = 1 ∨ i = 2 ∨ i = 3) with rfl | rfl | rfl | rfl
  · exact gIx_at (ds := [.int a, .int b, .int c, .int d]) rfl rfl rfl
  · exact gIx_at (ds := [.int a, .int b, .int c, .int d]) rfl rfl rfl
  · exact gIx_at (ds := [.int a, .int b, .int c, .int d]) rfl rfl rfl
  · exact gIx_at (ds := [.int a, .int b, .int c, .int d]) rfl rfl rfl
theorem range_get {n j : Nat} {d : D} (h : ((List.range n).map fun i => D.int (i : Nat))[j]? = some d) : d = .int (j : Nat) ∧ j < n := by
  have hj : j < n := by simpa using (List.getElem?_eq_some_iff.mp h).1
  rw [List.getElem?_map, List.getElem?_range hj] at h
  exact ⟨(Option.some.inj h).symm, hj⟩
theorem map_get {α : Type} {f : α → D} {xs : List α} {j : Nat} {d : D} (h : (xs.map f)[j]? = some d) : ∃ x, xs[j]? = some x ∧ d = f x := by
  rw [List.getElem?_map] at h
  cases q : xs[j]? with
  | none => rw [q] at h; cases h
  | some x => rw [q] at h; exact ⟨x, rfl, (Option.some.inj h).symm⟩
theorem compL_map {α β : Type} {e : α → D} {e' : β → D} {t : Tg} {ft : FT} {fe : FE} {A : Sl} (f : α → β) (p : α → Bool) : ∀ (xs : List α) (acc : List D), acc.length + xs.length ≤ sizeLine → (∀ x ∈ xs, ∃ A1, t.set (e x) A = some A1 ∧ ft A1 = .ok (p x) A1 ∧ (p x = true → fe A1 = .ok (e' (f x)) A1 ∧ ∀ i, e' (f x) ≠ .al i) ∧ wipeA A1 t.own = A) →
    compL t ft fe (xs.map e) acc A = .ok (acc ++ ((xs.filter p).map f).map e') A
  | [], acc, _, _ => by simp [compL]
  | d :: ds, acc, hl, h => by
    obtain ⟨A1, h1, h2, h3, h4⟩ := h d List.mem_cons_self
    have ih := fun acc' h' => compL_map f p ds acc' h' (fun d' m => h d' (List.mem_cons_of_mem _ m))
    rw [List.length_cons] at hl
    rw [List.map_cons]
    unfold compL
    rw [h1]
    simp only [h2]
    cases hp : p d with
    | false =>
      simp only [h4]
      rw [ih acc (by omega), List.filter_cons_of_neg (by simp [hp])]
    | true =>
      obtain ⟨h5, h6⟩ := h3 hp
      have ec : closeD (e' (f d)) A1 = some (e' (f d), A1) := by
        unfold closeD
        cases hg : e' (f d) <;> first | rfl | exact absurd hg (h6 _)
      simp only [h5, ec, h4]
      rw [if_pos (by omega), ih _ (by simp; omega), List.filter_cons_of_pos hp, List.map_cons, List.map_cons, List.append_assoc]
      rfl
theorem fcomp_filter {α β : Type} {e : α → D} {e' : β → D} {fi : FI} {t : Tg} {ft : FT} {fe : FE} {A A0 : Sl} {xs : List α} (f : α → β) (p : α → Bool) (hi : fi A = .ok (xs.map e) A0) (hl : xs.length ≤ sizeLine) (h : ∀ x ∈ xs, ∃ A1, t.set (e x) (wipeA A0 t.own) = some A1 ∧ ft A1 = .ok (p x) A1 ∧ (p x = true → fe A1 = .ok (e' (f x)) A1 ∧ ∀ i, e' (f x) ≠ .al i) ∧ wipeA A1 t.own = wipeA A0 t.own) :
    fComp fi t ft fe A = .ok (.mu (((xs.filter p).map f).map e')) (wipeA (wipeA A0 t.own) t.own) := by
  unfold fComp
  rw [hi]
  simp only [Ou.bind_ok]
  rw [compL_map f p xs [] (by simpa using hl) h]
  simp
theorem fcomp_map {α β : Type} {e : α → D} {e' : β → D} {fi : FI} {t : Tg} {fe : FE} {A A0 : Sl} {xs : List α} (f : α → β) (hi : fi A = .ok (xs.map e) A0) (hl : xs.length ≤ sizeLine) (h : ∀ x ∈ xs, ∃ A1, t.set (e x) (wipeA A0 t.own) = some A1 ∧ fe A1 = .ok (e' (f x)) A1 ∧ (∀ i, e' (f x) ≠ .al i) ∧ wipeA A1 t.own = wipeA A0 t.own) :
    fComp fi t fYes fe A = .ok (.mu ((xs.map f).map e')) (wipeA (wipeA A0 t.own) t.own) := by
  have := fcomp_filter (ft := fYes) f (fun _ => true) hi hl fun x m => by
    obtain ⟨A1, h1, h2, h3, h4⟩ := h x m
    exact ⟨A1, h1, rfl, fun _ => ⟨h2, h3⟩, h4⟩
  rw [List.filter_eq_self.mpr (fun _ _ => rfl)] at this
  exact this
/-! isinstance -/
section
variable {A : Sl} {v : Int} {ds : List D}
theorem isi_ii : gIsi [.int v, .ty "int"] A = some (.bl true) := by
  show (kitB "int" "int").map D.bl = _; rw [show kitB "int" "int" = some true by decide +kernel]; rfl
theorem isi_ib : gIsi [.int v, .ty "bool"] A = some (.bl false) := by
  show (kitB "int" "bool").map D.bl = _; rw [show kitB "int" "bool" = some false by decide +kernel]; rfl
theorem isi_tt : gIsi [.tup ds, .ty "tuple"] A = some (.bl true) := by
  show (kitB "tuple" "tuple").map D.bl = _; rw [show kitB "tuple" "tuple" = some true by decide +kernel]; rfl
theorem isi_ll : gIsi [.lst ds, .ty "list"] A = some (.bl true) := by
  show (kitB "list" "list").map D.bl = _; rw [show kitB "list" "list" = some true by decide +kernel]; rfl
theorem isi_ml : gIsi [.mu ds, .ty "list"] A = some (.bl true) := by
  show (kitB "list" "list").map D.bl = _; rw [show kitB "list" "list" = some true by decide +kernel]; rfl
theorem isi_bi {b : Bool} : gIsi [.bl b, .ty "int"] A = some (.bl true) := by
  show (kitB "bool" "int").map D.bl = _; rw [show kitB "bool" "int" = some true by decide +kernel]; rfl
theorem isi_bb {b : Bool} : gIsi [.bl b, .ty "bool"] A = some (.bl true) := by
  show (kitB "bool" "bool").map D.bl = _; rw [show kitB "bool" "bool" = some true by decide +kernel]; rfl
theorem isi_ss {x : Str} : gIsi [.str x, .ty "str"] A = some (.bl true) := by
  show (kitB "str" "str").map D.bl = _; rw [show kitB "str" "str" = some true by decide +kernel]; rfl
end
end Ab
end
section
/-! typed functions and that the told ones do what they say -/
namespace Ab
open PySem L2

/-! ### typed steps -/
inductive Stp (S R : Type) where
  | go (s : S) | brk (s : S) | ret (r : R)
section
variable {α β γ S R T : Type}
def forS (body : α → S → Option S) : List α → S → Option S
  | [], s => some s
  | x :: xs, s => (body x s).bind fun s' => forS body xs s'
def forP (body : α → S → Option (Stp S R)) : List α → S → Option (S ⊕ R)
  | [], s => some (.inl s)
  | x :: xs, s => (body x s).bind fun r => match r with
    | .go s' => forP body xs s'
    | .brk s' => some (.inl s')
    | .ret r => some (.inr r)
def whileS (c : S → Option Bool) (body : S → Option S) : Nat → S → Option S
  | 0, _ => none
  | n + 1, s => (c s).bind fun b => if b = true then (body s).bind fun s' => whileS c body n s' else some s
def compO (xs : List α) (c : α → Bool) (f : α → β) : Option (List β) := if xs.length ≤ sizeLine then some ((xs.filter c).map f) else none
def compR (c : α → Option Bool) (f : α → Option β) : List α → Option (List β)
  | [] => some []
  | x :: xs => (c x).bind fun b => if b = true then (f x).bind fun y => (compR c f xs).bind fun ys => some (y :: ys) else compR c f xs
def compP (xs : List α) (c : α → Option Bool) (f : α → Option β) : Option (List β) := if xs.length ≤ sizeLine then compR c f xs else none
def rgO (n : Int) : Option (List Int) := if n.natAbs < 4611686018427387904 then some ((List.range n.toNat).map fun i : Nat => (i : Int)) else none
def mulO (a b : Int) : Option Int := if cMul a b = true then some (a * b) else none
def divO (a b : Int) : Option Int := if 0 < b ∧ b ≤ 1000000000000000000000000000000000000000000000000000000000000000000000 then some (a / b) else none
def modO (a b : Int) : Option Int := if 0 < b then some (a % b) else none
def catO (xs ys : List α) : Option (List α) := if xs.length + ys.length ≤ sizeLine then some (xs ++ ys) else none
def appO (xs : List α) (x : α) : Option (List α) := if xs.length < sizeLine then some (xs ++ [x]) else none
def repO (xs : List α) (k : Int) : Option (List α) := if k.natAbs < 4611686018427387904 ∧ xs.length * k.toNat ≤ sizeLine then some (List.replicate k.toNat xs).flatten else none
def setO (xs : List α) (i : Int) (x : α) : Option (List α) := (ixN xs.length i).map fun j => xs.set j x
def idxO [DecidableEq α] (xs : List α) (x : α) : Option Int := if x ∈ xs then some (xs.idxOf x : Nat) else none
def isIn [DecidableEq α] (x : α) (xs : List α) : Bool := decide (x ∈ xs)
theorem isIn_iff [DecidableEq α] {x : α} {xs : List α} : isIn x xs = true ↔ x ∈ xs := by unfold isIn; exact decide_eq_true_iff
theorem isIn_f [DecidableEq α] {x : α} {xs : List α} : isIn x xs = false ↔ x ∉ xs := by unfold isIn; exact decide_eq_false_iff_not
/-! ### what a told step answers -/
def Sm (o : Ou Fl) (Φ : T → Ou Fl → Prop) (p : Option T) : Prop := ∀ t, p = some t → Φ t o
section
variable {o : Ou Fl} {Φ : T → Ou Fl → Prop} {A A1 A0 : Sl} {f g k : FS} {fe : FE} {ft : FT} {p q : Option T} {b : Bool} {t : T}
theorem sm_need {x : Option α} {k : α → Option T} (h : ∀ v, x = some v → Sm o Φ (k v)) : Sm o Φ (x.bind k) := fun t e => by
  cases hx : x with
  | none => rw [hx] at e; cases e
  | some v => rw [hx] at e; exact h v hx t e
theorem sm_n (h : f A = .ok .next A1) (hk : Sm (k A1) Φ p) : Sm (fSeq f k A) Φ p := by rw [seq_next h]; exact hk
theorem sm_if (h : ft A = .ok b A1) (h1 : b = true → Sm (f A1) Φ p) (h2 : b = false → Sm (g A1) Φ q) : Sm (fIf ft f g A) Φ (if b = true then p else q) := by
  cases b with
  | true => rw [fif_t h]; exact h1 rfl
  | false => rw [fif_f h]; exact h2 rfl
theorem sm_ifs (h : ft A = .ok b A1) (h1 : b = true → Sm (fSeq f k A1) Φ p) (h2 : b = false → Sm (fSeq g k A1) Φ q) : Sm (fSeq (fIf ft f g) k A) Φ (if b = true then p else q) := by
  cases b with
  | true =>
    have := h1 rfl
    unfold fSeq at this ⊢
    rw [fif_t h]; exact this
  | false =>
    have := h2 rfl
    unfold fSeq at this ⊢
    rw [fif_f h]; exact this
theorem fSeq_assoc : fSeq (fSeq f g) k A = fSeq f (fSeq g k) A := by
  unfold fSeq
  cases f A with
  | ok r A1 => cases r <;> rfl
  | exc _ _ => rfl
  | stuck => rfl
theorem sm_as (h : Sm (fSeq f (fSeq g k) A) Φ p) : Sm (fSeq (fSeq f g) k A) Φ p := by rw [fSeq_assoc]; exact h
theorem sm_skip (h : Sm (k A) Φ p) : Sm (fSeq fNext k A) Φ p := sm_n rfl h
theorem sm_last (h : Sm (fSeq f fNext A) Φ p) : Sm (f A) Φ p := by
  have e : fSeq f fNext A = f A := by
    unfold fSeq
    cases f A with
    | ok r A1 => cases r <;> rfl
    | exc _ _ => rfl
    | stuck => rfl
  rw [← e]; exact h
theorem sm_end {t : T} (h : Φ t (.ok .next A)) : Sm (fNext A) Φ (some t) := fun t' e => by cases e; exact h
theorem sm_cont {t : T} (h : Φ t (.ok .cont A)) : Sm (fSeq fCont k A) Φ (some t) := fun t' e => by cases e; exact h
theorem sm_brk {t : T} (h : Φ t (.ok .brk A)) : Sm (fSeq fBrk k A) Φ (some t) := fun t' e => by cases e; exact h
theorem sm_ret {t : T} {d : D} (h : fRet fe A = .ok (.ret d) A1) (hp : Φ t (.ok (.ret d) A1)) : Sm (fSeq (fRet fe) k A) Φ (some t) := fun t' e => by
  cases e
  unfold fSeq
  rw [h]; exact hp
theorem sm_exc {t : T} {c : Str} (h : f A = .exc c A1) (hp : Φ t (.exc c A1)) : Sm (fSeq f k A) Φ (some t) := fun t' e => by
  cases e
  unfold fSeq
  rw [h]; exact hp
/-! what is asked of a block's end -/
def ΦS (Rg : S → Sl → Prop) : S → Ou Fl → Prop := fun s o => ∃ A', o = .ok .next A' ∧ Rg s A'
def ΦC (Rg : S → Sl → Prop) : S → Ou Fl → Prop := fun s o => ∃ A', (o = .ok .next A' ∨ o = .ok .cont A') ∧ Rg s A'
def ΦP (Rg : S → Sl → Prop) (RR : R → Ou Fl → Prop) : Stp S R → Ou Fl → Prop := fun r o => match r with
  | .go s => ∃ A', (o = .ok .next A' ∨ o = .ok .cont A') ∧ Rg s A'
  | .brk s => ∃ A', o = .ok .brk A' ∧ Rg s A'
  | .ret r => RR r o
/-- a return of r -/
def RS (e : R → D) : R → Ou Fl → Prop := fun r o => ∃ A', o = .ok (.ret (e r)) A'
/-- a return, or a raise -/
def RX (e : R → D) : Except Str R → Ou Fl → Prop := fun r o => match r with
  | .ok v => ∃ A', o = .ok (.ret (e v)) A'
  | .error c => ∃ A', o = .exc c A'
/-- .. or the def's end -/
def RF (e : R → D) : R → Ou Fl → Prop := fun r o => (∃ A', o = .ok (.ret (e r)) A') ∨ ∃ A', o = .ok .next A' ∧ e r = .non
def RXF (e : R → D) : Except Str R → Ou Fl → Prop := fun r o => RX e r o ∨ ∃ A' v, o = .ok .next A' ∧ r = .ok v ∧ e v = .non
def Ex (o : Ou Fl) : Prop := (∃ d A', o = .ok (.ret d) A') ∨ ∃ c A', o = .exc c A'
theorem rs_ex {e : R → D} (r : R) (o : Ou Fl) (h : RS e r o) : Ex o := let ⟨A', h⟩ := h; .inl ⟨_, A', h⟩
theorem rx_ex {e : R → D} (r : Except Str R) (o : Ou Fl) (h : RX e r o) : Ex o := by
  cases r with
  | ok v => obtain ⟨A', h⟩ := h; exact .inl ⟨_, A', h⟩
  | error c => obtain ⟨A', h⟩ := h; exact .inr ⟨_, A', h⟩
theorem rs_rf {e : R → D} (r : R) (o : Ou Fl) (h : RS e r o) : RF e r o := .inl h
theorem rx_rxf {e : R → D} (r : Except Str R) (o : Ou Fl) (h : RX e r o) : RXF e r o := .inl h
variable {Rg : S → Sl → Prop} {RR : R → Ou Fl → Prop}
theorem sm_endS {s : S} (h : Rg s A) : Sm (fNext A) (ΦS Rg) (some s) := sm_end ⟨A, rfl, h⟩
theorem sm_endC {s : S} (h : Rg s A) : Sm (fNext A) (ΦC Rg) (some s) := sm_end ⟨A, .inl rfl, h⟩
theorem sm_endP {s : S} (h : Rg s A) : Sm (fNext A) (ΦP Rg RR) (some (.go s)) := sm_end ⟨A, .inl rfl, h⟩
theorem sm_contC {s : S} (h : Rg s A) : Sm (fSeq fCont k A) (ΦC Rg) (some s) := sm_cont ⟨A, .inr rfl, h⟩
theorem sm_contP {s : S} (h : Rg s A) : Sm (fSeq fCont k A) (ΦP Rg RR) (some (.go s)) := sm_cont ⟨A, .inr rfl, h⟩
theorem sm_brkP {s : S} (h : Rg s A) : Sm (fSeq fBrk k A) (ΦP Rg RR) (some (.brk s)) := sm_brk ⟨A, rfl, h⟩
theorem sm_retF {e : R → D} {r : R} (h : fRet fe A = .ok (.ret (e r)) A1) : Sm (fSeq (fRet fe) k A) (RF e) (some r) := sm_ret h (.inl ⟨A1, rfl⟩)
theorem sm_retP {e : R → D} {r : R} (h : fRet fe A = .ok (.ret (e r)) A1) : Sm (fSeq (fRet fe) k A) (ΦP Rg (RS e)) (some (.ret r)) := sm_ret h ⟨A1, rfl⟩
theorem sm_retXF {e : R → D} {r : R} (h : fRet fe A = .ok (.ret (e r)) A1) : Sm (fSeq (fRet fe) k A) (RXF e) (some (.ok r)) := sm_ret h (.inl ⟨A1, rfl⟩)
theorem sm_retXP {e : R → D} {r : R} (h : fRet fe A = .ok (.ret (e r)) A1) : Sm (fSeq (fRet fe) k A) (ΦP Rg (RX e)) (some (.ret (.ok r))) := sm_ret h ⟨A1, rfl⟩
theorem sm_excXF {e : R → D} {c : Str} (h : f A = .exc c A1) : Sm (fSeq f k A) (RXF e) (some (.error c)) := sm_exc h (.inl ⟨A1, rfl⟩)
theorem sm_excXP {e : R → D} {c : Str} (h : f A = .exc c A1) : Sm (fSeq f k A) (ΦP Rg (RX e)) (some (.ret (.error c))) := sm_exc h ⟨A1, rfl⟩
theorem sm_endF {e : R → D} {r : R} (h : e r = .non) : Sm (fNext A) (RF e) (some r) := sm_end (.inr ⟨A, rfl, h⟩)
theorem sm_endXF {e : R → D} {r : R} (h : e r = .non) : Sm (fNext A) (RXF e) (some (.ok r)) := sm_end (.inr ⟨A, r, rfl, rfl, h⟩)
theorem sm_seqS {x : Option S} {kk : S → Option T} (h : Sm (f A) (ΦS Rg) x) (hk : ∀ s A', Rg s A' → Sm (k A') Φ (kk s)) : Sm (fSeq f k A) Φ (x.bind kk) := fun t e => by
  cases hx : x with
  | none => rw [hx] at e; cases e
  | some s =>
    rw [hx] at e
    obtain ⟨A', h1, h2⟩ := h s hx
    rw [seq_next h1]
    exact hk s A' h2 t e
theorem forS_ok {tg : Tg} {fb : FS} {e : α → D} {body : α → S → Option S} : ∀ (xs : List α) (s0 : S) (A : Sl), Rg s0 A → (∀ x s A, Rg s A → ∃ A2, tg.set (e x) A = some A2 ∧ Sm (fb A2) (ΦC Rg) (body x s)) → ∀ s, forS body xs s0 = some s → ∃ A', forL tg fb (xs.map e) A = .ok .next A' ∧ Rg s A'
  | [], s0, A, h0, _, s, h => by cases h; exact ⟨A, rfl, h0⟩
  | x :: xs, s0, A, h0, hb, s, h => by
    obtain ⟨A2, h1, h2⟩ := hb x s0 A h0
    unfold forS at h
    cases hx : body x s0 with
    | none => rw [hx] at h; cases h
    | some s1 =>
      rw [hx] at h
      obtain ⟨A3, h3, h4⟩ := h2 s1 hx
      obtain ⟨A', h5, h6⟩ := forS_ok xs s1 A3 h4 hb s h
      refine ⟨A', ?_, h6⟩
      rw [List.map_cons]
      unfold forL
      rw [h1]
      rcases h3 with h3 | h3 <;> simp only [h3] <;> exact h5
theorem sm_forS {fi : FI} {tg : Tg} {fb : FS} {e : α → D} {body : α → S → Option S} {xs : List α} {s0 : S} {kk : S → Option T} (Rg : S → Sl → Prop) (hi : fi A = .ok (xs.map e) A0) (h0 : Rg s0 A0) (hb : ∀ x s A, Rg s A → ∃ A2, tg.set (e x) A = some A2 ∧ Sm (fb A2) (ΦC Rg) (body x s))
    (hk : ∀ s A', Rg s A' → Sm (k A') Φ (kk s)) : Sm (fSeq (fFor fi tg fb) k A) Φ ((forS body xs s0).bind kk) := by
  refine sm_seqS (Rg := Rg) (fun s hs => ?_) hk
  obtain ⟨A', h1, h2⟩ := forS_ok xs s0 A0 h0 hb s hs
  refine ⟨A', ?_, h2⟩
  unfold fFor
  rw [hi]; exact h1
theorem forP_ok {tg : Tg} {fb : FS} {e : α → D} {body : α → S → Option (Stp S R)} (hx : ∀ r o, RR r o → Ex o) : ∀ (xs : List α) (s0 : S) (A : Sl), Rg s0 A → (∀ x s A, Rg s A → ∃ A2, tg.set (e x) A = some A2 ∧ Sm (fb A2) (ΦP Rg RR) (body x s)) → ∀ s, forP body xs s0 = some s → match s with
    | .inl s => ∃ A', forL tg fb (xs.map e) A = .ok .next A' ∧ Rg s A'
    | .inr r => RR r (forL tg fb (xs.map e) A)
  | [], s0, A, h0, _, s, h => by cases h; exact ⟨A, rfl, h0⟩
  | x :: xs, s0, A, h0, hb, s, h => by
    obtain ⟨A2, h1, h2⟩ := hb x s0 A h0
    unfold forP at h
    rw [List.map_cons]
    unfold forL
    simp only [h1]
    cases hb1 : body x s0 with
    | none => rw [hb1] at h; cases h
    | some r =>
      rw [hb1] at h
      have h3 := h2 r hb1
      cases r with
      | go s1 =>
        obtain ⟨A3, h3, h4⟩ := h3
        have h5 := forP_ok hx xs s1 A3 h4 hb s h
        rcases h3 with h3 | h3 <;> simp only [h3] <;> exact h5
      | brk s1 =>
        obtain ⟨A3, h3, h4⟩ := h3
        cases h
        simp only [h3]
        exact ⟨A3, rfl, h4⟩
      | ret r =>
        cases h
        have h3 : RR r (fb A2) := h3
        have h4 := hx r _ h3
        rcases h4 with ⟨d, A', h4⟩ | ⟨c, A', h4⟩ <;> rw [h4] at h3 <;> simp only [h4] <;> exact h3
theorem sm_forP {fi : FI} {tg : Tg} {fb : FS} {e : α → D} {body : α → S → Option (Stp S R)} {xs : List α} {s0 : S} {kk : S → Option T} {kr : R → T} (Rg : S → Sl → Prop) (RR : R → Ou Fl → Prop) (hi : fi A = .ok (xs.map e) A0) (h0 : Rg s0 A0) (hb : ∀ x s A, Rg s A → ∃ A2, tg.set (e x) A = some A2 ∧ Sm (fb A2) (ΦP Rg RR) (body x s))
    (hx : ∀ r o, RR r o → Ex o) (hr : ∀ r o, RR r o → Φ (kr r) o) (hk : ∀ s A', Rg s A' → Sm (k A') Φ (kk s)) : Sm (fSeq (fFor fi tg fb) k A) Φ ((forP body xs s0).bind fun z => z.elim kk fun r => some (kr r)) := fun t et => by
  cases hs : forP body xs s0 with
  | none => rw [hs] at et; cases et
  | some z =>
    rw [hs] at et
    have h1 := forP_ok hx xs s0 A0 h0 hb z hs
    have e : fFor fi tg fb A = forL tg fb (xs.map e) A0 := by unfold fFor; rw [hi]; rfl
    cases z with
    | inl s =>
      obtain ⟨A', h1, h2⟩ := h1
      rw [seq_next (e.trans h1)]
      exact hk s A' h2 t et
    | inr r =>
      cases et
      have h1 : RR r (forL tg fb (xs.map _) A0) := h1
      rw [← e] at h1
      have h2 := hr r _ h1
      rcases hx r _ h1 with ⟨d, A', h4⟩ | ⟨c, A', h4⟩
      · rw [h4] at h2
        unfold fSeq
        rw [h4]; exact h2
      · rw [h4] at h2
        unfold fSeq
        rw [h4]; exact h2
theorem whileS_ok {ft : FT} {fb : FS} {c : S → Option Bool} {body : S → Option S} (hc : ∀ s A b, Rg s A → c s = some b → ft A = .ok b A) (hb : ∀ s A, Rg s A → c s = some true → Sm (fb A) (ΦC Rg) (body s)) : ∀ (n : Nat) (s0 : S) (A : Sl), Rg s0 A → ∀ s, whileS c body n s0 = some s → ∃ A', whileN ft fb n A = .ok .next A' ∧ Rg s A'
  | 0, s0, A, _, s, h => by cases h
  | n + 1, s0, A, h0, s, h => by
    unfold whileS at h
    cases hc1 : c s0 with
    | none => rw [hc1] at h; cases h
    | some b =>
      rw [hc1] at h
      have e1 := hc s0 A b h0 hc1
      unfold whileN
      cases b with
      | false => cases h; simp only [e1]; exact ⟨A, rfl, h0⟩
      | true =>
        have h : (body s0).bind (fun s' => whileS c body n s') = some s := h
        cases hx : body s0 with
        | none => rw [hx] at h; cases h
        | some s1 =>
          rw [hx] at h
          obtain ⟨A3, h3, h4⟩ := hb s0 A h0 hc1 s1 hx
          have h5 := whileS_ok hc hb n s1 A3 h4 s h
          simp only [e1]
          rcases h3 with h3 | h3 <;> simp only [h3] <;> exact h5
theorem sm_whileS {ft : FT} {fb : FS} {n : Nat} {c : S → Option Bool} {body : S → Option S} {s0 : S} {kk : S → Option T} (Rg : S → Sl → Prop) (h0 : Rg s0 A) (hc : ∀ s A b, Rg s A → c s = some b → ft A = .ok b A) (hb : ∀ s A, Rg s A → c s = some true → Sm (fb A) (ΦC Rg) (body s))
    (hk : ∀ s A', Rg s A' → Sm (k A') Φ (kk s)) : Sm (fSeq (fWhile n ft fb) k A) Φ ((whileS c body n s0).bind kk) := by
  refine sm_seqS (Rg := Rg) (fun s hs => ?_) hk
  exact whileS_ok hc hb n s0 A h0 s hs
end
/-! ### expressions: nested needs -/
theorem se_need {x : Option α} {k : α → Option β} {c : β} {P : Prop} (h : ∀ v, x = some v → k v = some c → P) (e : x.bind k = some c) : P := by
  cases hx : x with
  | none => rw [hx] at e; cases e
  | some v => rw [hx] at e; exact h v hx e
theorem se_some {t c : β} {P : β → Prop} (h : P t) (e : some t = some c) : P c := by cases e; exact h
section
variable {A A1 A2 A0 : Sl} {fe fa fb : FE} {ft fu : FT} {fl : FA} {d e r : D} {ds es : List D}
theorem ev_andO {a c : Bool} {q : Option Bool} (h : fa A = .ok (.bl a) A1) (e : (if a = true then q else some false) = some c) (k : a = true → q = some c → fb A1 = .ok (.bl c) A1) : fAndV fa fb A = .ok (.bl c) A1 := by
  unfold fAndV; rw [h]; simp only [Ou.bind_ok]
  cases a with
  | true => rw [if_pos rfl] at e ⊢; exact k rfl e
  | false => cases e; rfl
theorem ev_orO {a c : Bool} {q : Option Bool} (h : fa A = .ok (.bl a) A1) (e : (if a = true then some true else q) = some c) (k : a = false → q = some c → fb A1 = .ok (.bl c) A1) : fOrV fa fb A = .ok (.bl c) A1 := by
  unfold fOrV; rw [h]; simp only [Ou.bind_ok]
  cases a with
  | true => cases e; rfl
  | false => exact k rfl e
theorem ev_tandO {a c : Bool} {q : Option Bool} (h : ft A = .ok a A1) (e : (if a = true then q else some false) = some c) (k : a = true → q = some c → fu A1 = .ok c A1) : fAnd ft fu A = .ok c A1 := by
  unfold fAnd; rw [h]; simp only [Ou.bind_ok]
  cases a with
  | true => rw [if_pos rfl] at e ⊢; exact k rfl e
  | false => cases e; rfl
theorem ev_torO {a c : Bool} {q : Option Bool} (h : ft A = .ok a A1) (e : (if a = true then some true else q) = some c) (k : a = false → q = some c → fu A1 = .ok c A1) : fOr ft fu A = .ok c A1 := by
  unfold fOr; rw [h]; simp only [Ou.bind_ok]
  cases a with
  | true => cases e; rfl
  | false => exact k rfl e
/-! operators under a check -/
theorem gMul_o {a b v : Int} (h : mulO a b = some v) : gMulA (.int a) (.int b) A = some (.int v) := by
  unfold mulO at h
  split at h
  · rename_i q; cases h; unfold gMulA; simp only [q, if_true]
  · cases h
theorem gDiv_o {a b v : Int} (h : divO a b = some v) : gDiv (.int a) (.int b) A = some (.int v) := by
  unfold divO at h
  split at h
  · rename_i q; cases h; exact gDiv_ok q.1 q.2
  · cases h
theorem gMod_o {a b v : Int} (h : modO a b = some v) : gMod (.int a) (.int b) A = some (.int v) := by
  unfold modO at h
  split at h
  · rename_i q; cases h; exact gMod_ok q
  · cases h
theorem gMul_cl {a b : Int} (h : a.natAbs < 18446744073709551616) : gMulA (.int a) (.int b) A = some (.int (a * b)) := gMul_l (by omega)
theorem gMul_cr {a b : Int} (h : b.natAbs < 18446744073709551616) : gMulA (.int a) (.int b) A = some (.int (a * b)) := gMul_r (by omega)
theorem atI_map {e : α → D} {xs : List α} {i : Int} {v : α} (h : atI xs i = some v) : atI (xs.map e) i = some (e v) := by
  unfold atI at h ⊢
  rw [List.length_map]
  cases hi : ixN xs.length i with
  | none => rw [hi] at h; cases h
  | some j =>
    rw [hi] at h
    show (xs.map e)[j]? = _
    rw [List.getElem?_map, show xs[j]? = some v from h]; rfl
theorem gIx_o {e : α → D} {xs : List α} {i : Int} {v : α} (hs : sqOf (see A d) = some (xs.map e)) (h : atI xs i = some v) (hf : isF (e v) = true) : gIx d (.int i) A = some (e v) := gIx_at hs (atI_map h) hf
theorem gIx_str {x : Str} {i : Int} {c : Nat} (hs : see A d = .str x) (hl : x.length ≤ sizeLine) (h : atI x.cps.toList i = some c) : gIx d (.int i) A = some (.str ⟨#[c]⟩) := by
  unfold gIx
  simp only [hs, hl, if_true, h, Option.map_some]
theorem gAdd_tupO {e : α → D} {xs ys v : List α} (hs : see A d = .tup (xs.map e)) (ht : see A r = .tup (ys.map e)) (h : catO xs ys = some v) (hf : ∀ x, isF (e x) = true) : gAdd d r A = some (.tup (v.map e)) := by
  have fs : ∀ zs : List α, isFs (zs.map e) = true := fun zs => by rw [isFs_all]; simp [hf]
  unfold catO at h
  split at h
  · rename_i q; cases h
    unfold gAdd
    simp only [hs, ht, fs, List.length_map, q, and_self, if_true, List.map_append]
  · cases h
theorem gAdd_lstO {e : α → D} {xs ys v : List α} (hs : exOf (see A d) = some (xs.map e)) (ht : exOf (see A r) = some (ys.map e)) (h : catO xs ys = some v) (hf : ∀ x, isF (e x) = true) : gAdd d r A = some (.mu (v.map e)) := by
  have fs : ∀ zs : List α, isFs (zs.map e) = true := fun zs => by rw [isFs_all]; simp [hf]
  unfold catO at h
  split at h
  · rename_i q; cases h
    rw [gAdd_lst hs ht (fs _) (fs _) (by simpa using q), List.map_append]
  · cases h
theorem flatten_map_rep {e : α → D} (xs : List α) (n : Nat) : (List.replicate n (xs.map e)).flatten = ((List.replicate n xs).flatten).map e := by
  rw [List.map_flatten, List.map_replicate]
theorem gMul_repO {e : α → D} {xs v : List α} {k : Int} (hs : exOf (see A d) = some (xs.map e)) (h : repO xs k = some v) (hf : ∀ x, isF (e x) = true) (hd : ∀ i, d ≠ .int i) : gMulA d (.int k) A = some (.mu (v.map e)) := by
  have fs : ∀ zs : List α, isFs (zs.map e) = true := fun zs => by rw [isFs_all]; simp [hf]
  unfold repO at h
  split at h
  · rename_i q; cases h
    have e62 : (2 : Nat) ^ 62 = 4611686018427387904 := by decide
    unfold gMulA
    split
    · rename_i i j; exact absurd rfl (hd _)
    · rename_i k' hh heq
      cases heq
      rw [hs]
      simp only [fs, List.length_map, e62, q, and_self, if_true, flatten_map_rep]
    · rename_i h1 h2
      first | exact (h1 _ rfl).elim | exact (h2 _ rfl).elim | simp_all
  · cases h
/-! == and in, whatever is owned -/
/-- e tells the same data as the known e' -/
def Dt (e e' : α → D) : Prop := ∀ x, dat (e x) = dat (e' x)
theorem dt_rfl {e : α → D} : Dt e e := fun _ => rfl
theorem dats_congr {e e' : α → D} (h : Dt e e') : ∀ xs : List α, dats (xs.map e) = dats (xs.map e')
  | [] => rfl
  | x :: xs => by rw [List.map_cons, List.map_cons, dats, dats, h x, dats_congr h xs]
theorem dt_M {e e' : α → D} (h : Dt e e') : Dt (eM e) (eL e') := fun xs => by rw [dat, dat, dats_congr h]
theorem dt_L {e e' : α → D} (h : Dt e e') : Dt (eL e) (eL e') := fun xs => by rw [dat, dat, dats_congr h]
theorem dt_T {e e' : α → D} (h : Dt e e') : Dt (eT e) (eT e') := fun xs => by rw [dat, dat, dats_congr h]
theorem dt_P {e e' : α → D} {f f' : β → D} (h : Dt e e') (h' : Dt f f') : Dt (eP e f) (eP e' f') := fun p => by simp only [dat, dats, h p.1, h' p.2]
theorem gEq_v {α : Type} [DecidableEq α] {e : α → D} {n : Nat} {d d' : D} {x y : α} (k : EncOk e n) (h1 : dat (see A d) = dat (e x)) (h2 : dat (see A d') = dat (e y)) (hn : n ≤ 64 := by decide) : gEq d d' A = some (.bl (decide (x = y))) := by
  have o1 := k.ok hn x
  have o2 := k.ok hn y
  unfold okD at o1 o2
  unfold gEq okD
  simp only [h1, h2, o1, o2, Bool.and_self, if_true, k.eqv]
theorem gNe_v {α : Type} [DecidableEq α] {e : α → D} {n : Nat} {d d' : D} {x y : α} (k : EncOk e n) (h1 : dat (see A d) = dat (e x)) (h2 : dat (see A d') = dat (e y)) (hn : n ≤ 64 := by decide) : gNe d d' A = some (.bl (!decide (x = y))) := by
  have o1 := k.ok hn x
  have o2 := k.ok hn y
  unfold okD at o1 o2
  unfold gNe okD
  simp only [h1, h2, o1, o2, Bool.and_self, if_true, k.eqv]
theorem inB_v {α : Type} [DecidableEq α] {e : α → D} {n : Nat} {d d' : D} {x : α} {ys : List α} (k : EncOk e n) (h1 : dat (see A d) = dat (e x)) (h2 : ∃ es, sqOf (see A d') = some es ∧ dats es = dats (ys.map e)) (hn : n ≤ 63 := by decide) : inB d d' A = some (isIn x ys) := by
  obtain ⟨es, h3, h4⟩ := h2
  have o1 := k.ok (Nat.le_trans hn (by decide)) x
  have l := k.lays ys
  have p := k.deps ys
  have o2 : okD (see A d') = true := by
    unfold okD SeqAt.shaped
    rcases dat_seq h3 with q | q <;> rw [q, PyData.canLay0, h4, l, PyData.depth, Bool.true_and, decide_eq_true_iff] <;> omega
  unfold okD at o1
  unfold inB
  split
  · rename_i z hz; rw [hz] at h3; cases h3
  · rw [h3]
    simp only [o2, Bool.and_true]
    unfold okD
    simp only [h1, o1, if_true, h4, k.any, isIn]
theorem gIn_v {α : Type} [DecidableEq α] {e : α → D} {n : Nat} {d d' : D} {x : α} {ys : List α} (k : EncOk e n) (h1 : dat (see A d) = dat (e x)) (h2 : ∃ es, sqOf (see A d') = some es ∧ dats es = dats (ys.map e)) (hn : n ≤ 63 := by decide) : gIn d d' A = some (.bl (isIn x ys)) := by unfold gIn; rw [inB_v k h1 h2 hn]; rfl
theorem gNotIn_v {α : Type} [DecidableEq α] {e : α → D} {n : Nat} {d d' : D} {x : α} {ys : List α} (k : EncOk e n) (h1 : dat (see A d) = dat (e x)) (h2 : ∃ es, sqOf (see A d') = some es ∧ dats es = dats (ys.map e)) (hn : n ≤ 63 := by decide) : gNotIn d d' A = some (.bl (!isIn x ys)) := by unfold gNotIn; rw [inB_v k h1 h2 hn]; rfl
theorem see_eq {d d' : D} (h : see A d = d') : dat (see A d) = dat d' := by rw [h]
theorem see_dat {e e' : α → D} {x : α} (h : see A d = e x) (t : Dt e e') : dat (see A d) = dat (e' x) := by rw [h]; exact t x
theorem sq_v {e e' : α → D} {xs : List α} (h : sqOf (see A d) = some (xs.map e)) (t : Dt e e') : ∃ es, sqOf (see A d) = some es ∧ dats es = dats (xs.map e') := ⟨_, h, dats_congr t xs⟩
/-! a call's arguments -/
def Args (ds : List D) (A : Sl) (es : List D) (A2 : Sl) : Prop := ∃ es', closeL ds A = some (es', A2) ∧ fzs es' = es
theorem ar_nil : Args [] A [] A := ⟨[], rfl, by rw [fzs]⟩
theorem closeL_nal {d : D} {ds es : List D} {A2 : Sl} (hd : ∀ i, d ≠ .al i) (h : closeL ds A = some (es, A2)) : closeL (d :: ds) A = some (d :: es, A2) := by
  unfold closeL
  rw [h]
  cases d <;> first | rfl | exact absurd rfl (hd _)
theorem ar_F {d : D} {ds es : List D} {A2 : Sl} (hf : isF d = true) (r : Args ds A es A2) : Args (d :: ds) A (d :: es) A2 := by
  obtain ⟨es', h1, h2⟩ := r
  exact ⟨d :: es', closeL_nal (isF_al hf) h1, by rw [fzs, fz_isF hf, h2]⟩
theorem ar_M {d d' : D} {ds es : List D} {A2 : Sl} (hd : ∀ i, d ≠ .al i) (hz : fz d = d') (r : Args ds A es A2) : Args (d :: ds) A (d' :: es) A2 := by
  obtain ⟨es', h1, h2⟩ := r
  exact ⟨d :: es', closeL_nal hd h1, by rw [fzs, hz, h2]⟩
theorem ar_al {i : Nat} {t d' : D} {ds es : List D} {A2 : Sl} (h : A[i]? = some (some t)) (hz : fz t = d') (hz2 : fz d' = d') (r : Args ds (A.set i (some d')) es A2) : Args (.al i :: ds) A (d' :: es) A2 := by
  obtain ⟨es', h1, h2⟩ := r
  refine ⟨d' :: es', ?_, by rw [fzs, hz2, h2]⟩
  unfold closeL
  simp only [h, hz, h1]
theorem ev_fcall {F : List D → Ro} (h1 : fl A = .ok ds A1) (h2 : Args ds A1 es A2) (h3 : F es = .ok r) (hs : isScal r = false) : fCall F fl A = .ok r A2 := by
  obtain ⟨es', h4, h5⟩ := h2
  unfold fCall; rw [h1]; simp only [Ou.bind_ok, h4, h5, h3, hs, Bool.false_eq_true, if_false]
theorem ev_fcallS {F : List D → Ro} (h1 : fl A = .ok ds A1) (h2 : Args ds A1 es A2) (h3 : F es = .ok r) (hs : isScal r = true) : fCall F fl A = .ok r A1 := by
  obtain ⟨es', h4, h5⟩ := h2
  unfold fCall; rw [h1]; simp only [Ou.bind_ok, h4, h5, h3, hs, if_true]
/-- where the slots stay whatever comes -/
theorem ev_fcallN {F : List D → Ro} (h1 : fl A = .ok ds A1) (h2 : Args ds A1 es A1) (h3 : F es = .ok r) : fCall F fl A = .ok r A1 := by
  obtain ⟨es', h4, h5⟩ := h2
  unfold fCall; rw [h1]; simp only [Ou.bind_ok, h4, h5, h3]; split <;> rfl
theorem ex_fcall {F : List D → Ro} {c : Str} (h1 : fl A = .ok ds A1) (h2 : Args ds A1 es A2) (h3 : F es = .exc c) : fCall F fl A = .exc c A1 := by
  obtain ⟨es', h4, h5⟩ := h2
  unfold fCall; rw [h1]; simp only [Ou.bind_ok, h4, h5, h3]
/-! displays with what is owned -/
def Cls (ds : List D) (A : Sl) (es : List D) (A2 : Sl) : Prop := closeL ds A = some (es, A2)
theorem cl_nil : Cls [] A [] A := rfl
theorem cl_N {d : D} {ds es : List D} {A2 : Sl} (hd : ∀ i, d ≠ .al i) (r : Cls ds A es A2) : Cls (d :: ds) A (d :: es) A2 := closeL_nal hd r
theorem cl_al {i : Nat} {t d' : D} {ds es : List D} {A2 : Sl} (h : A[i]? = some (some t)) (hz : fz t = d') (r : Cls ds (A.set i (some d')) es A2) : Cls (.al i :: ds) A (d' :: es) A2 := by
  have r : closeL ds (A.set i (some d')) = some (es, A2) := r
  show closeL _ _ = _
  unfold closeL
  simp only [h, hz, r]
theorem ev_tupG (h1 : fl A = .ok ds A1) (h2 : Cls ds A1 es A2) (h3 : es.length ≤ sizeLine) : fTup fl A = .ok (.tup es) A2 := by
  have h2 : closeL ds A1 = some (es, A2) := h2
  unfold fTup; rw [h1]; simp only [Ou.bind_ok]; rw [h2]; simp only [h3, if_true]
theorem ev_lstG (h1 : fl A = .ok ds A1) (h2 : Cls ds A1 es A2) (h3 : es.length ≤ sizeLine) : fLst fl A = .ok (.mu es) A2 := by
  have h2 : closeL ds A1 = some (es, A2) := h2
  unfold fLst; rw [h1]; simp only [Ou.bind_ok]; rw [h2]; simp only [h3, if_true]
/-! freezing -/
def Fz (e e' : α → D) : Prop := ∀ x, fz (e x) = e' x
theorem fzs_congr {e e' : α → D} (h : Fz e e') : ∀ xs : List α, fzs (xs.map e) = xs.map e'
  | [] => by simp [fzs]
  | x :: xs => by rw [List.map_cons, List.map_cons, fzs, h x, fzs_congr h xs]
theorem fz_M {e e' : α → D} (h : Fz e e') : Fz (eM e) (eL e') := fun xs => by rw [fz, fzs_congr h]
theorem fz_T {e e' : α → D} (h : Fz e e') : Fz (eT e) (eT e') := fun xs => by rw [fz, fzs_congr h]
theorem fz_P {e e' : α → D} {f f' : β → D} (h : Fz e e') (h' : Fz f f') : Fz (eP e f) (eP e' f') := fun p => by
  show fz (.tup [e p.1, f p.2]) = .tup [e' p.1, f' p.2]
  rw [fz, fzs, fzs, fzs, h, h']
theorem fz_Q {e e' : α → D} {f f' : β → D} {g g' : γ → D} (h : Fz e e') (h' : Fz f f') (h2 : Fz g g') : Fz (fun v : α × β × γ => .tup [e v.1, f v.2.1, g v.2.2]) (fun v => .tup [e' v.1, f' v.2.1, g' v.2.2]) := fun p => by
  show fz (.tup [_, _, _]) = .tup [_, _, _]
  rw [fz, fzs, fzs, fzs, fzs, h, h', h2]
theorem fz_F {α : Type} [DecidableEq α] {e : α → D} {n : Nat} (k : EncOk e n) : Fz e e := fun x => fz_isF (k.f x)
/-! slots -/
theorem ev_asgM_t {i : Nat} {d : D} (h : fe A = .ok d A1) (hd : ∀ j, d ≠ .al j) : fAsgM i fe A = .ok .next (A1.set i (some d)) := by
  unfold fAsgM; rw [h]
  cases d <;> first | rfl | exact absurd rfl (hd _)
theorem ev_asgM_al {i j : Nat} {t : D} (h0 : fe A = .ok (.al j) A1) (h : A1[j]? = some (some t)) : fAsgM i fe A = .ok .next ((A1.set j none).set i (some t)) := by
  unfold fAsgM
  rw [h0]
  simp only [Ou.bind_ok, h]
theorem ev_asg_al {i j : Nat} {t d' : D} (h0 : fe A = .ok (.al j) A1) (h : A1[j]? = some (some t)) (hz : fz t = d') : fAsg i fe A = .ok .next ((A1.set j (some d')).set i (some d')) := by
  unfold fAsg
  rw [h0]
  simp only [Ou.bind_ok, closeD, h, hz]
theorem ev_asgF_alG {i j : Nat} {t d' : D} (h0 : fe A = .ok (.al j) A1) (h : A1[j]? = some (some t)) (hz : fz t = d') (hz2 : fz d' = d') : fAsgF i fe A = .ok .next ((A1.set j (some d')).set i (some d')) := by
  unfold fAsgF
  rw [h0]
  simp only [Ou.bind_ok, closeD, h, hz, hz2]
theorem ev_asgF_G {i : Nat} {d d' : D} (h : fe A = .ok d A1) (hd : ∀ j, d ≠ .al j) (hz : fz d = d') : fAsgF i fe A = .ok .next (A1.set i (some d')) := by
  have ec : closeD d A1 = some (d, A1) := by unfold closeD; cases d <;> first | rfl | exact absurd rfl (hd _)
  unfold fAsgF; rw [h]; simp only [Ou.bind_ok, ec, hz]
theorem ev_ret_alG {j : Nat} {t : D} (h0 : fe A = .ok (.al j) A1) (h : A1[j]? = some (some t)) : fRet fe A = .ok (.ret t) (A1.set j none) := by
  unfold fRet
  rw [h0]
  simp only [Ou.bind_ok, h]
theorem closeD_na {d : D} (hd : ∀ j, d ≠ .al j) : closeD d A = some (d, A) := by unfold closeD; cases d <;> first | rfl | exact absurd rfl (hd _)
theorem ev_appO {i : Nat} {e : α → D} {xs v : List α} {x : α} (hs : A[i]? = some (some (.mu (xs.map e)))) (h : fe A = .ok (e x) A1) (hs1 : A1[i]? = some (some (.mu (xs.map e)))) (hd : ∀ j, e x ≠ .al j) (ha : appO xs x = some v) : fApp i fe A = .ok .non (A1.set i (some (.mu (v.map e)))) := by
  have s : slotL i A = some (xs.map e) := by unfold slotL; rw [hs]
  have s1 : slotL i A1 = some (xs.map e) := by unfold slotL; rw [hs1]
  unfold appO at ha
  split at ha
  · rename_i q; cases ha
    unfold fApp
    simp only [s, h, Ou.bind_ok, closeD_na hd, s1, List.length_map, q, if_true, List.map_append]
    rfl
  · cases ha
theorem ev_app_al {i j : Nat} {e : α → D} {xs v : List α} {x : α} {t : D} (hs : A[i]? = some (some (.mu (xs.map e)))) (h : fe A = .ok (.al j) A1) (ht : A1[j]? = some (some t)) (hz : fz t = e x) (hs1 : (A1.set j (some (e x)))[i]? = some (some (.mu (xs.map e)))) (ha : appO xs x = some v) : fApp i fe A = .ok .non ((A1.set j (some (e x))).set i (some (.mu (v.map e)))) := by
  have s : slotL i A = some (xs.map e) := by unfold slotL; rw [hs]
  have s1 : slotL i (A1.set j (some (e x))) = some (xs.map e) := by unfold slotL; rw [hs1]
  unfold appO at ha
  split at ha
  · rename_i q; cases ha
    unfold fApp
    simp only [s, h, Ou.bind_ok, closeD, ht, hz, s1, List.length_map, q, if_true, List.map_append]
    rfl
  · cases ha
theorem ev_extO {i : Nat} {e : α → D} {xs ys v : List α} {d : D} (hs : A[i]? = some (some (.mu (xs.map e)))) (h : fe A = .ok d A1) (hd : ∀ j, d ≠ .al j) (hz : fz d = .lst (ys.map e)) (hs1 : A1[i]? = some (some (.mu (xs.map e)))) (ha : catO xs ys = some v) : fExt i fe A = .ok .non (A1.set i (some (.mu (v.map e)))) := by
  have s : slotL i A = some (xs.map e) := by unfold slotL; rw [hs]
  have s1 : slotL i A1 = some (xs.map e) := by unfold slotL; rw [hs1]
  unfold catO at ha
  split at ha
  · rename_i q; cases ha
    unfold fExt
    simp only [s, h, Ou.bind_ok, closeD_na hd, s1, hz, List.length_map, q, if_true, List.map_append]
  · cases ha
theorem ev_clrO {i : Nat} {es : List D} (hs : A[i]? = some (some (.mu es))) : fClr i A = .ok .non (A.set i (some (.mu []))) := ev_clr hs
theorem ev_setO {i : Nat} {e : α → D} {xs v : List α} {x : α} {fk : FE} {n : Int} (h : fe A = .ok (e x) A1) (hd : ∀ j, e x ≠ .al j) (hs : A1[i]? = some (some (.mu (xs.map e)))) (hk : fk A1 = .ok (.int n) A1) (ha : setO xs n x = some v) : fSetI i fk fe A = .ok .next (A1.set i (some (.mu (v.map e)))) := by
  have s1 : slotL i A1 = some (xs.map e) := by unfold slotL; rw [hs]
  unfold setO at ha
  cases hi : ixN xs.length n with
  | none => rw [hi] at ha; cases ha
  | some j =>
    rw [hi] at ha
    cases ha
    unfold fSetI
    simp only [h, Ou.bind_ok, closeD_na hd, s1, hk, List.length_map, hi, List.map_set]
/-! what is walked -/
theorem ev_rangeO {n : Int} {v : List Int} (h : fe A = .ok (.int n) A1) (hv : rgO n = some v) : fRange fe A = .ok (v.map D.int) A1 := by
  unfold rgO at hv
  split at hv
  · rename_i q; cases hv
    rw [ev_range h q, List.map_map]; rfl
  · cases hv
theorem ev_itF {e : α → D} {xs : List α} (h : fe A = .ok d A1) (hf : isF d = true) (hi : iterOf d = some (xs.map e)) : fIt fe A = .ok (xs.map e) A1 := ev_it h hf hi
theorem ev_itM {d d' : D} {es : List D} (h : fe A = .ok d A1) (hd : ∀ j, d ≠ .al j) (hz : fz d = d') (hi : iterOf d' = some es) : fIt fe A = .ok es A1 := by
  unfold fIt; rw [h]; simp only [Ou.bind_ok, closeD_na hd, hz, hi]
theorem ev_itA {j : Nat} {t d' : D} {es : List D} (h : fe A = .ok (.al j) A1) (ht : A1[j]? = some (some t)) (hz : fz t = d') (hz2 : fz d' = d') (hi : iterOf d' = some es) : fIt fe A = .ok es (A1.set j (some d')) := by
  unfold fIt; rw [h]; simp only [Ou.bind_ok, closeD, ht, hz, hz2, hi]
theorem iter_T {e : α → D} {xs : List α} (hf : ∀ x, isF (e x) = true) : iterOf (.tup (xs.map e)) = some (xs.map e) := by
  show (if isFs (xs.map e) = true then some (xs.map e) else none) = _
  rw [if_pos (by rw [isFs_all]; simp [hf])]
/-! comprehensions -/
theorem compL_R {e : α → D} {e' : β → D} {t : Tg} {c : α → Option Bool} {f : α → Option β} (hn : ∀ y i, e' y ≠ .al i) : ∀ (xs : List α) (acc : List D) (v : List β), acc.length + xs.length ≤ sizeLine → compR c f xs = some v → (∀ x, ∃ A1, t.set (e x) A = some A1 ∧ (∀ b, c x = some b → ft A1 = .ok b A1) ∧ (c x = some true → ∀ y, f x = some y → fe A1 = .ok (e' y) A1) ∧ wipeA A1 t.own = A) →
    compL t ft fe (xs.map e) acc A = .ok (acc ++ v.map e') A
  | [], acc, v, _, h, _ => by cases h; simp [compL]
  | x :: xs, acc, v, hl, h, hs => by
    obtain ⟨A1, h1, h2, h3, h4⟩ := hs x
    rw [List.length_cons] at hl
    rw [List.map_cons]
    unfold compL
    rw [h1]
    unfold compR at h
    cases hc : c x with
    | none => rw [hc] at h; cases h
    | some b =>
      rw [hc] at h
      simp only [h2 b hc]
      cases b with
      | false =>
        have h : compR c f xs = some v := h
        simp only [h4]
        exact compL_R hn xs acc v (by omega) h hs
      | true =>
        have h : (f x).bind (fun y => (compR c f xs).bind fun ys => some (y :: ys)) = some v := h
        cases hf : f x with
        | none => rw [hf] at h; cases h
        | some y =>
          rw [hf] at h
          have h : (compR c f xs).bind (fun ys => some (y :: ys)) = some v := h
          cases hr : compR c f xs with
          | none => rw [hr] at h; cases h
          | some ys =>
            rw [hr] at h
            cases h
            simp only [h3 hc y hf, closeD_na (hn y), h4]
            rw [if_pos (by omega), compL_R hn xs _ ys (by simp; omega) hr hs, List.map_cons, List.append_assoc]
            rfl
theorem ev_compP {e : α → D} {e' : β → D} {fi : FI} {t : Tg} {xs : List α} {c : α → Option Bool} {f : α → Option β} {v : List β} (hi : fi A = .ok (xs.map e) A0) (hv : compP xs c f = some v) (hn : ∀ y i, e' y ≠ .al i) (hs : ∀ x, ∃ A1, t.set (e x) (wipeA A0 t.own) = some A1 ∧ (∀ b, c x = some b → ft A1 = .ok b A1) ∧ (c x = some true → ∀ y, f x = some y → fe A1 = .ok (e' y) A1) ∧ wipeA A1 t.own = wipeA A0 t.own) :
    fComp fi t ft fe A = .ok (.mu (v.map e')) (wipeA (wipeA A0 t.own) t.own) := by
  unfold compP at hv
  split at hv
  · rename_i q
    unfold fComp
    rw [hi]
    simp only [Ou.bind_ok]
    rw [compL_R hn xs [] v (by simpa using q) hv hs]
    simp
  · cases hv
theorem compR_total {c : α → Bool} {f : α → β} : ∀ xs : List α, compR (fun x => some (c x)) (fun x => some (f x)) xs = some ((xs.filter c).map f)
  | [] => rfl
  | x :: xs => by
    unfold compR
    simp only [Option.bind_some, compR_total xs]
    cases h : c x <;> simp [h]
theorem ev_compO {e : α → D} {e' : β → D} {fi : FI} {t : Tg} {xs : List α} {c : α → Bool} {f : α → β} {v : List β} (hi : fi A = .ok (xs.map e) A0) (hv : compO xs c f = some v) (hn : ∀ y i, e' y ≠ .al i) (hs : ∀ x, ∃ A1, t.set (e x) (wipeA A0 t.own) = some A1 ∧ ft A1 = .ok (c x) A1 ∧ (c x = true → fe A1 = .ok (e' (f x)) A1) ∧ wipeA A1 t.own = wipeA A0 t.own) :
    fComp fi t ft fe A = .ok (.mu (v.map e')) (wipeA (wipeA A0 t.own) t.own) := by
  refine ev_compP (c := fun x => some (c x)) (f := fun x => some (f x)) hi ?_ hn fun x => ?_
  · unfold compO at hv
    unfold compP
    split at hv
    · rename_i q; rw [if_pos q, compR_total]; exact hv
    · cases hv
  · obtain ⟨A1, h1, h2, h3, h4⟩ := hs x
    exact ⟨A1, h1, fun b hb => by cases hb; exact h2, fun hc y hy => by cases hy; exact h3 (Option.some.inj hc), h4⟩
/-! a def -/
theorem def_F {e : R → D} {p : Option R} {r : R} {k n : Nat} {fs : FS} (A0 : Sl) (hA : ds.map some ++ List.replicate (n - ds.length) none = A0) (hk : ds.length = k) (hd : ∀ r i, e r ≠ .al i) (hp : p = some r) (h : Sm (fs A0) (RF e) p) : defF k n fs ds = .ok (e r) := by
  have h1 := h r hp
  unfold defF runF
  rw [if_pos hk, hA]
  rcases h1 with ⟨A', h1⟩ | ⟨A', h1, h2⟩
  · rw [h1]
    cases he : e r <;> first | rfl | exact absurd he (hd _ _)
  · rw [h1, h2]
/-- what a def that may raise does -/
def RoX (e : R → D) : Except Str R → Ro → Prop := fun r o => match r with
  | .ok v => o = .ok (e v)
  | .error c => o = .exc c
theorem def_X {e : R → D} {p : Option (Except Str R)} {r : Except Str R} {k n : Nat} {fs : FS} (A0 : Sl) (hA : ds.map some ++ List.replicate (n - ds.length) none = A0) (hk : ds.length = k) (hd : ∀ r i, e r ≠ .al i) (hp : p = some r) (h : Sm (fs A0) (RXF e) p) : RoX e r (defF k n fs ds) := by
  have h1 := h r hp
  unfold defF runF
  rw [if_pos hk, hA]
  rcases h1 with h1 | ⟨A', v, h1, rfl, h2⟩
  · cases r with
    | ok v =>
      obtain ⟨A', h1⟩ := h1
      rw [h1]
      show (_ : Ro) = _
      cases he : e v <;> first | rfl | exact absurd he (hd _ _)
    | error c =>
      obtain ⟨A', h1⟩ := h1
      rw [h1]
      rfl
  · rw [h1]
    show (_ : Ro) = _
    rw [h2]
end
end
end Ab
end
section
/-! typed data: more encoders and what the built-ins do with them -/
namespace Ab
open PySem L2
theorem sm_nl {α T : Type} {f k : FS} {A : Sl} {Φ : T → Ou Fl → Prop} {t : α} {p : α → Option T} (A1 : α → Sl) (h : f A = .ok .next (A1 t)) (hk : ∀ x, Sm (k (A1 x)) Φ (p x)) : Sm (fSeq f k A) Φ ((some t).bind p) := by
  rw [seq_next h]; exact hk t
theorem of_bind {α β : Type} {x : Option α} {k : α → Option β} {c : β} (h : x.bind k = some c) : ∃ v, x = some v ∧ k v = some c := by
  cases x with
  | none => cases h
  | some v => exact ⟨v, rfl, h⟩
theorem if_some {p : Prop} [Decidable p] {v : Unit} (h : (if p then some () else none : Option Unit) = some v) : p := by
  by_cases q : p
  · exact q
  · rw [if_neg q] at h; cases h
/-! ### encoders -/
section
variable {α β γ δ : Type} [DecidableEq α] [DecidableEq β] [DecidableEq γ] [DecidableEq δ] {e : α → D} {e1 : β → D} {e2 : γ → D} {e3 : δ → D} {n m : Nat}
theorem enc_up (h : EncOk e n) (k : n ≤ m) : EncOk e m := ⟨h.f, h.lay, fun x => Nat.le_trans (h.dep x) k, h.eqv⟩
theorem enc_bl : EncOk D.bl 0 := ⟨fun _ => by simp [isF], fun _ => by simp [dat, PyData.canLay0], fun _ => by simp [dat, PyData.depth], fun x y => by
  rw [dat, dat, PyData.eqv]
  cases x <;> cases y <;> rfl⟩
theorem enc_non : EncOk (fun _ : Unit => D.non) 0 := ⟨fun _ => by simp [isF], fun _ => by simp [dat, PyData.canLay0], fun _ => by simp [dat, PyData.depth], fun x y => by
  rw [dat, PyData.eqv]
  simp⟩
theorem enc_fro (h : EncOk e n) : EncOk (fun xs : List α => D.fro (xs.map e)) (n + 1) where
  f := fun xs => by simp [isF]
  lay := fun xs => by rw [dat, PyData.canLay0]; exact h.lays xs
  dep := fun xs => by rw [dat, PyData.depth]; have := h.deps xs; omega
  eqv := fun xs ys => by rw [dat, dat, PyData.eqv]; exact h.eqvs xs ys
theorem enc_P0 : EncOk (fun _ : Unit => D.tup []) 1 where
  f := fun p => by simp [isF, isFs]
  lay := fun p => by simp [dat, dats, PyData.canLay0, PyData.canLayAll0]
  dep := fun p => by simp [dat, dats, PyData.depth, PyData.depthAll]
  eqv := fun p q => by simp [dat, dats, PyData.eqv, PyData.eqvAll]
theorem enc_P1 (h : EncOk e n) : EncOk (fun v : α => D.tup [e v]) (n + 1) where
  f := fun p => by simp [isF, isFs, h.f]
  lay := fun p => by simp [dat, dats, PyData.canLay0, PyData.canLayAll0, h.lay]
  dep := fun p => by
    simp only [dat, dats, PyData.depth, PyData.depthAll]
    have := h.dep p
    omega
  eqv := fun p q => by simp only [dat, dats, PyData.eqv, PyData.eqvAll, h.eqv, Bool.and_true]
theorem enc_P2 (h : EncOk e n) (h1 : EncOk e1 n) : EncOk (eP e e1) (n + 1) := enc_up (enc_pair h h1) (by omega)
theorem enc_P3 (h : EncOk e n) (h1 : EncOk e1 n) (h2 : EncOk e2 n) : EncOk (fun v : α × β × γ => .tup [e v.1, e1 v.2.1, e2 v.2.2]) (n + 1) where
  f := fun p => by simp [isF, isFs, h.f, h1.f, h2.f]
  lay := fun p => by simp [dat, dats, PyData.canLay0, PyData.canLayAll0, h.lay, h1.lay, h2.lay]
  dep := fun p => by
    simp only [dat, dats, PyData.depth, PyData.depthAll]
    have := h.dep p.1; have := h1.dep p.2.1; have := h2.dep p.2.2
    omega
  eqv := fun p q => by
    obtain ⟨a, b, c⟩ := p
    obtain ⟨a', b', c'⟩ := q
    simp only [dat, dats, PyData.eqv, PyData.eqvAll, h.eqv, h1.eqv, h2.eqv, Bool.and_true, Prod.mk.injEq]
    by_cases h1 : a = a' <;> by_cases h2 : b = b' <;> by_cases h3 : c = c' <;> simp [h1, h2, h3]
theorem enc_P4 (h : EncOk e n) (h1 : EncOk e1 n) (h2 : EncOk e2 n) (h3 : EncOk e3 n) : EncOk (fun v : α × β × γ × δ => .tup [e v.1, e1 v.2.1, e2 v.2.2.1, e3 v.2.2.2]) (n + 1) where
  f := fun p => by simp [isF, isFs, h.f, h1.f, h2.f, h3.f]
  lay := fun p => by simp [dat, dats, PyData.canLay0, PyData.canLayAll0, h.lay, h1.lay, h2.lay, h3.lay]
  dep := fun p => by
    simp only [dat, dats, PyData.depth, PyData.depthAll]
    have := h.dep p.1; have := h1.dep p.2.1; have := h2.dep p.2.2.1; have := h3.dep p.2.2.2
    omega
  eqv := fun p q => by
    obtain ⟨a, b, c, d⟩ := p
    obtain ⟨a', b', c', d'⟩ := q
    simp only [dat, dats, PyData.eqv, PyData.eqvAll, h.eqv, h1.eqv, h2.eqv, h3.eqv, Bool.and_true, Prod.mk.injEq]
    by_cases h1 : a = a' <;> by_cases h2 : b = b' <;> by_cases h3 : c = c' <;> by_cases h4 : d = d' <;> simp [h1, h2, h3, h4]
theorem enc_H1 (h : EncOk e n) : EncOk (fun v : α => D.lst [e v]) (n + 1) where
  f := fun p => by simp [isF]
  lay := fun p => by have := (enc_P1 h).lay p; simpa only [dat, PyData.canLay0] using this
  dep := fun p => by have := (enc_P1 h).dep p; simpa only [dat, PyData.depth] using this
  eqv := fun p q => by have := (enc_P1 h).eqv p q; simpa only [dat, PyData.eqv] using this
theorem enc_H2 (h : EncOk e n) (h1 : EncOk e1 n) : EncOk (fun v : α × β => D.lst [e v.1, e1 v.2]) (n + 1) where
  f := fun p => by simp [isF]
  lay := fun p => by have := (enc_P2 h h1).lay p; simpa only [dat, PyData.canLay0] using this
  dep := fun p => by have := (enc_P2 h h1).dep p; simpa only [dat, PyData.depth] using this
  eqv := fun p q => by have := (enc_P2 h h1).eqv p q; simpa only [dat, PyData.eqv] using this
theorem enc_H3 (h : EncOk e n) (h1 : EncOk e1 n) (h2 : EncOk e2 n) : EncOk (fun v : α × β × γ => D.lst [e v.1, e1 v.2.1, e2 v.2.2]) (n + 1) where
  f := fun p => by simp [isF]
  lay := fun p => by have := (enc_P3 h h1 h2).lay p; simpa only [dat, PyData.canLay0] using this
  dep := fun p => by have := (enc_P3 h h1 h2).dep p; simpa only [dat, PyData.depth] using this
  eqv := fun p q => by have := (enc_P3 h h1 h2).eqv p q; simpa only [dat, PyData.eqv] using this
theorem enc_H4 (h : EncOk e n) (h1 : EncOk e1 n) (h2 : EncOk e2 n) (h3 : EncOk e3 n) : EncOk (fun v : α × β × γ × δ => D.lst [e v.1, e1 v.2.1, e2 v.2.2.1, e3 v.2.2.2]) (n + 1) where
  f := fun p => by simp [isF]
  lay := fun p => by have := (enc_P4 h h1 h2 h3).lay p; simpa only [dat, PyData.canLay0] using this
  dep := fun p => by have := (enc_P4 h h1 h2 h3).dep p; simpa only [dat, PyData.depth] using this
  eqv := fun p q => by have := (enc_P4 h h1 h2 h3).eqv p q; simpa only [dat, PyData.eqv] using this
end
section
variable {α β γ : Type} {e : α → D} {e1 : β → D} {e2 : γ → D}
def NN (e : α → D) : Prop := (∀ x, PyData.eqv .none (dat (e x)) = false) ∧ ∀ x, PyData.eqv (dat (e x)) .none = false
theorem nn_int : NN D.int := ⟨fun x => by simp [dat, PyData.eqv], fun x => by simp [dat, PyData.eqv]⟩
theorem nn_bl : NN D.bl := ⟨fun x => by simp [dat, PyData.eqv], fun x => by simp [dat, PyData.eqv]⟩
theorem nn_str : NN D.str := ⟨fun x => by simp [dat, PyData.eqv], fun x => by simp [dat, PyData.eqv]⟩
theorem nn_T : NN (eT e) := ⟨fun x => by simp [dat, PyData.eqv], fun x => by simp [dat, PyData.eqv]⟩
theorem nn_L : NN (eL e) := ⟨fun x => by simp [dat, PyData.eqv], fun x => by simp [dat, PyData.eqv]⟩
theorem nn_M : NN (eM e) := ⟨fun x => by simp [dat, PyData.eqv], fun x => by simp [dat, PyData.eqv]⟩
theorem nn_P : NN (eP e e1) := ⟨fun x => by simp [dat, PyData.eqv], fun x => by simp [dat, PyData.eqv]⟩
theorem isF_mu {ds : List D} : isF (.mu ds) = false := by simp [isF]
theorem isFs_nil : isFs [] = true := by simp [isFs]
theorem isFs_cons {d : D} {ds : List D} (h : isF d = true) (h2 : isFs ds = true) : isFs (d :: ds) = true := by rw [isFs, h, h2]; rfl
theorem scal_O (h : ∀ x, isScal (e x) = true) {o : Option α} : isScal (eO e o) = true := by
  cases o with
  | none => rfl
  | some x => exact h x
end
/-! ### built-ins -/
section
variable {α β : Type} {A A1 A2 A3 A4 : Sl} {fe fa fb : FE} {fl : FA} {d r : D} {ds es : List D} {e : α → D} {e' : β → D}
theorem gLen_o {xs : List α} (hs : sqOf (see A d) = some (xs.map e)) : gLen [d] A = some (.int xs.length) := by
  show (match see A d with
    | .str x => if x.length ≤ sizeLine then some (D.int x.length) else none
    | s => match sqOf s with
      | some es => some (.int es.length)
      | none => none) = _
  revert hs
  cases see A d <;> intro hs <;> simp only [sqOf] at hs ⊢ <;> cases hs <;> simp
theorem gTuple_sq (h : sqOf (see A d) = some es) (hf : isFs es = true) : gTuple [d] A = some (.tup es) := by unfold gTuple; simp only [h, hf, if_true]
theorem gList_sq (h : sqOf (see A d) = some es) (hf : isFs es = true) : gList [d] A = some (.mu es) := by unfold gList; simp only [h, hf, if_true]
theorem gSorted_o {ps : List (Int × Int)} (h : lsOf (see A d) = some (ps.map (eP D.int D.int))) : gSorted [d] A = some (.mu ((sortP ps).map (eP D.int D.int))) := by
  have e1 : (eP D.int D.int) = pd := rfl
  rw [e1] at h ⊢
  unfold gSorted; simp only [h, prsOf_map]
theorem isi_m {m n : String} {b : Bool} (h : tyN (see A d) = some m) (k : kitB m n = some b) : gIsi [d, .ty n] A = some (.bl b) := by
  unfold gIsi; simp only [h, k, Option.map_some]
theorem isi_O {m n : String} {o : Option α} (h : ∀ x, tyN (e x) = some m) (hs : see A d = eO e o) (k : kitB m n = some true) (k0 : kitB "NoneType" n = some false) : gIsi [d, .ty n] A = some (.bl o.isSome) := by
  cases o with
  | none => exact isi_m (by rw [hs]; rfl) k0
  | some x => exact isi_m (by rw [hs]; exact h x) k
theorem isi_O0 {m n : String} {o : Option α} (h : ∀ x, tyN (e x) = some m) (hs : see A d = eO e o) (k : kitB m n = some false) (k0 : kitB "NoneType" n = some false) : gIsi [d, .ty n] A = some (.bl false) := by
  cases o with
  | none => exact isi_m (by rw [hs]; rfl) k0
  | some x => exact isi_m (by rw [hs]; exact h x) k
/-- told values that are something, not None -/
def Some_ (d : D) : Prop := d ≠ .non ∧ ∀ i, d ≠ .al i
theorem nnon_I (i : Int) : Some_ (.int i) := ⟨(fun q => nomatch q), (fun _ q => nomatch q)⟩
theorem nnon_B (i : Bool) : Some_ (.bl i) := ⟨(fun q => nomatch q), (fun _ q => nomatch q)⟩
theorem nnon_S (i : Str) : Some_ (.str i) := ⟨(fun q => nomatch q), (fun _ q => nomatch q)⟩
theorem nnon_T (xs : List α) : Some_ (eT e xs) := ⟨(fun q => nomatch q), (fun _ q => nomatch q)⟩
theorem nnon_L (xs : List α) : Some_ (eL e xs) := ⟨(fun q => nomatch q), (fun _ q => nomatch q)⟩
theorem nnon_P (p : α × β) : Some_ (eP e e' p) := ⟨(fun q => nomatch q), (fun _ q => nomatch q)⟩
theorem gIsN_some (h : Some_ d) (hs : see A d = d) : gIsN d .non A = some (.bl false) := by
  obtain ⟨h1, h2⟩ := h
  unfold gIsN; rw [hs]
  cases d <;> first | rfl | exact absurd rfl h1 | exact absurd rfl (h2 _)
theorem gNotN_some (h : Some_ d) (hs : see A d = d) : gNotN d .non A = some (.bl true) := by
  obtain ⟨h1, h2⟩ := h
  unfold gNotN; rw [hs]
  cases d <;> first | rfl | exact absurd rfl h1 | exact absurd rfl (h2 _)
theorem see_some (h : Some_ d) : see A d = d := by
  obtain ⟨h1, h2⟩ := h
  cases d <;> first | rfl | exact absurd rfl (h2 _)
theorem gIsN_O {o : Option α} (h : ∀ x, Some_ (e x)) : gIsN (eO e o) .non A = some (.bl o.isNone) := by
  cases o with
  | none => rfl
  | some x => exact gIsN_some (h x) (see_some (h x))
theorem gNotN_O {o : Option α} (h : ∀ x, Some_ (e x)) : gNotN (eO e o) .non A = some (.bl o.isSome) := by
  cases o with
  | none => rfl
  | some x => exact gNotN_some (h x) (see_some (h x))
theorem gIndex_o {α : Type} [DecidableEq α] {f : α → D} {n : Nat} {x : α} {ys : List α} {v : Int} (h : EncOk f n) (hs : lsOf (see A d) = some (ys.map f)) (hv : idxO ys x = some v) (hn : n ≤ 63 := by decide) : gIndex d [f x] A = some (.int v) := by
  unfold idxO at hv
  split at hv
  · rename_i m; cases hv; exact gIndex_enc h hs m hn
  · cases hv
/-! slices -/
theorem cutG_map (f : α → β) (xs : List α) (lo hi : Option Int) : cutG (xs.map f) lo hi = (cutG xs lo hi).map f := by
  unfold cutG; rw [List.length_map, List.map_take, List.map_drop]
theorem pickG_map (f : α → β) (xs : List α) (lo hi st : Option Int) : pickG (xs.map f) lo hi st = (pickG xs lo hi st).map f := by
  unfold pickG pickAt
  rw [List.length_map, List.map_filterMap]
  refine filterMap_same fun j _ => ?_
  rw [List.getElem?_map]
theorem pickG_rev (xs : List α) : pickG xs none none (some (-1)) = xs.reverse := by
  have hj : pickJs none none (some (-1)) xs.length = (List.range xs.length).map fun k => xs.length - 1 - k := by
    unfold pickJs sliceBounds sliceRange
    simp only [Option.getD_some, show ¬ ((-1 : Int) > 0) from by decide, if_false, show (-(-1) : Int) = 1 from by decide, Int.ediv_one]
    have : (if (xs.length : Int) - 1 > -1 then (xs.length : Int) - 1 - -1 - -1 - 1 else 0).toNat = xs.length := by split <;> omega
    rw [this]
    refine List.map_congr_left fun k hk => ?_
    have := List.mem_range.mp hk
    omega
  unfold pickG pickAt
  rw [hj, List.filterMap_map]
  rw [filterMap_same (g := fun m => xs.reverse[m]?)]
  · have := pick_run xs.reverse.toArray 0 xs.length
    simp only [Nat.zero_add, List.getElem?_toArray] at this
    rw [List.map_id'] at this
    rw [this]
    simp only [List.drop_zero]
    rw [List.take_of_length_le (by simp)]
  · intro m hm
    have h1 : m < xs.length := List.mem_range.mp hm
    show xs[xs.length - 1 - m]? = _
    rw [List.getElem?_reverse h1]
theorem gSl_tup {f : α → D} {xs : List α} {lo hi : Option Int} (hd : see A d = .tup (xs.map f)) (hf : isFs (xs.map f) = true) : gSl d lo hi A = some (.tup ((cutG xs lo hi).map f)) := by
  unfold gSl; simp only [hd, hf, if_true, cutG_map]
theorem gSl_lst {f : α → D} {xs : List α} {lo hi : Option Int} (hd : lsOf (see A d) = some (xs.map f)) (hf : isFs (xs.map f) = true) : gSl d lo hi A = some (.mu ((cutG xs lo hi).map f)) := by
  unfold gSl
  split
  · rename_i q; rw [q] at hd; cases hd
  · rename_i q; rw [q] at hd; cases hd
  · rw [hd]; simp only [hf, if_true, cutG_map]
theorem gSlS_lst {f : α → D} {xs : List α} {lo hi st : Option Int} (hd : lsOf (see A d) = some (xs.map f)) (hf : isFs (xs.map f) = true) (h0 : st ≠ some 0) : gSlS d lo hi st A = some (.mu ((pickG xs lo hi st).map f)) := by
  unfold gSlS
  split
  · rename_i q; rw [q] at hd; cases hd
  · rw [hd]; simp only [hf, h0, ne_eq, not_false_eq_true, and_self, if_true, pickG_map]
theorem gSlS_lrev {f : α → D} {xs : List α} (hd : lsOf (see A d) = some (xs.map f)) (hf : isFs (xs.map f) = true) : gSlS d none none (some (-1)) A = some (.mu (xs.reverse.map f)) := by
  rw [gSlS_lst hd hf (by decide), pickG_rev]
theorem gSlS_rev {f : α → D} {xs : List α} (hd : see A d = .tup (xs.map f)) (hf : isFs (xs.map f) = true) : gSlS d none none (some (-1)) A = some (.tup (xs.reverse.map f)) := by
  unfold gSlS; simp only [hd, hf, and_self, if_true, List.map_reverse]
theorem ev_slS {fl fh ft : FO} {l h t : Option Int} (h1 : fe A = .ok d A1) (h2 : fl A1 = .ok l A2) (h3 : fh A2 = .ok h A3) (h4 : ft A3 = .ok t A4) (h5 : gSlS d l h t A4 = some r) : fSlS fe fl fh ft A = .ok r A4 := by
  unfold fSlS; rw [h1]; simp only [Ou.bind_ok, h2, h3, h4, h5]
theorem ev_retN : fRetN A = .ok (.ret .non) A := rfl
theorem sm_retN {T : Type} {Φ : T → Ou Fl → Prop} {k : FS} {t : T} (hp : Φ t (.ok (.ret .non) A)) : Sm (fSeq fRetN k A) Φ (some t) := fun t' e => by
  cases e
  unfold fSeq fRetN
  exact hp
/-! targets -/
theorem set_nm {i : Nat} (h : isF d = true) : (Tg.nm i).set d A = some (A.set i (some d)) := by
  unfold Tg.set
  cases d <;> first | rfl | exact absurd rfl (isF_al h _)
theorem set_tu {is : List Nat} {B : Sl} (hf : isFs ds = true) (h : setAll is ds A = some B) : (Tg.tu is).set (.tup ds) A = some B := by
  show (if isFs ds = true then setAll is ds A else none) = _
  rw [if_pos hf]; exact h
theorem set_tu2 {i j : Nat} {a b : D} (h1 : isF a = true) (h2 : isF b = true) : (Tg.tu [i, j]).set (.tup [a, b]) A = some ((A.set i (some a)).set j (some b)) := set_tu (isFs_cons h1 (isFs_cons h2 isFs_nil)) rfl
theorem set_tu3 {i j k : Nat} {a b c : D} (h1 : isF a = true) (h2 : isF b = true) (h3 : isF c = true) : (Tg.tu [i, j, k]).set (.tup [a, b, c]) A = some (((A.set i (some a)).set j (some b)).set k (some c)) := set_tu (isFs_cons h1 (isFs_cons h2 (isFs_cons h3 isFs_nil))) rfl
theorem set_tu4 {i j k l : Nat} {a b c d : D} (h1 : isF a = true) (h2 : isF b = true) (h3 : isF c = true) (h4 : isF d = true) : (Tg.tu [i, j, k, l]).set (.tup [a, b, c, d]) A = some ((((A.set i (some a)).set j (some b)).set k (some c)).set l (some d)) := set_tu (isFs_cons h1 (isFs_cons h2 (isFs_cons h3 (isFs_cons h4 isFs_nil)))) rfl
theorem ev_asgT_G {t : Tg} {d d' : D} {B : Sl} (h : fe A = .ok d A1) (hd : ∀ j, d ≠ .al j) (hz : fz d = d') (hs : t.set d' A1 = some B) : fAsgT t fe A = .ok .next B := by
  unfold fAsgT; rw [h]; simp only [Ou.bind_ok, closeD_na hd, hz, hs]
/-! what is walked -/
theorem zipW_map (xs : List α) (ys : List β) : List.zipWith (fun x y => D.tup [x, y]) (xs.map e) (ys.map e') = (xs.zip ys).map (eP e e') := by
  rw [List.zipWith_map]
  induction xs generalizing ys with
  | nil => rfl
  | cons x xs ih => cases ys with
    | nil => rfl
    | cons y ys => rw [List.zipWith_cons_cons, List.zip_cons_cons, List.map_cons, ih]
theorem isFs_map (hf : ∀ x, isF (e x) = true) (xs : List α) : isFs (xs.map e) = true := by rw [isFs_all]; simp [hf]
theorem ev_zipT {xs : List α} {ys : List β} (h1 : fa A = .ok (.mu (xs.map e)) A1) (h2 : fb A1 = .ok (.tup (ys.map e')) A2) (f1 : ∀ x, isF (e x) = true) (f2 : ∀ x, isF (e' x) = true) : fZip fa fb A = .ok ((xs.zip ys).map (eP e e')) A2 := by
  unfold fZip
  rw [ev_cons h1 (ev_cons h2 ev_nil)]
  simp only [Ou.bind_ok]
  rw [if_pos ⟨isFs_map f1 xs, isFs_map f2 ys⟩, zipW_map]
theorem ev_zipL {d1 d2 d1' d2' : D} {xs : List α} {ys : List β} (h : fCons fa (fCons fb fNil) A = .ok [d1, d2] A1) (ha : Args [d1, d2] A1 [d1', d2'] A2) (h1 : frOf d1' = some (xs.map e)) (h2 : frOf d2' = some (ys.map e')) (f1 : ∀ x, isF (e x) = true) (f2 : ∀ x, isF (e' x) = true) : fZipL fa fb A = .ok ((xs.zip ys).map (eP e e')) A2 := by
  obtain ⟨es', h3, h4⟩ := ha
  unfold fZipL
  rw [h]
  simp only [Ou.bind_ok, h3]
  match es', h4 with
  | [x, y], h4 =>
    simp only [fzs, List.cons.injEq, and_true] at h4
    simp only [h4.1, h4.2, h1, h2]
    rw [if_pos ⟨isFs_map f1 xs, isFs_map f2 ys⟩, zipW_map]
  | [], h4 => simp [fzs] at h4
  | [_], h4 => simp [fzs] at h4
  | _ :: _ :: _ :: _, h4 => simp [fzs] at h4
def enumL (xs : List α) : List (Int × α) := List.zip ((List.range xs.length).map fun i : Nat => (i : Int)) xs
theorem enumD_map (xs : List α) : enumD (xs.map e) = (enumL xs).map (eP D.int e) := by
  unfold enumD enumL
  rw [List.length_map]
  have : (List.zipWith (fun (i : Nat) d => D.tup [.int (i : Nat), d]) (List.range xs.length) (xs.map e)) = List.zipWith (fun x y => D.tup [x, y]) (((List.range xs.length).map fun i : Nat => (i : Int)).map D.int) (xs.map e) := by
    rw [List.map_map, List.zipWith_map_left]; rfl
  rw [this, zipW_map]
theorem ev_enumT {xs : List α} (h : fa A = .ok (.tup (xs.map e)) A1) (f1 : ∀ x, isF (e x) = true) : fEnum fa A = .ok ((enumL xs).map (eP D.int e)) A1 := by
  unfold fEnum
  rw [h]
  have z : fz (.tup (xs.map e)) = .tup (xs.map e) := fz_isF (by rw [isF]; exact isFs_map f1 xs)
  simp only [Ou.bind_ok, closeD_na (d := .tup (xs.map e)) (fun _ q => nomatch q), z, isFs_map f1 xs, if_true, enumD_map]
theorem ev_enumL {xs : List α} (h : fa A = .ok (.lst (xs.map e)) A1) (f1 : ∀ x, isF (e x) = true) : fEnum fa A = .ok ((enumL xs).map (eP D.int e)) A1 := by
  unfold fEnum
  rw [h]
  have z : fz (.lst (xs.map e)) = .lst (xs.map e) := fz_isF (by simp [isF])
  simp only [Ou.bind_ok, closeD_na (d := .lst (xs.map e)) (fun _ q => nomatch q), z, enumD_map]
theorem ev_enumF {xs : List α} (h : fa A = .ok (.fro (xs.map e)) A1) (f1 : ∀ x, isF (e x) = true) : fEnum fa A = .ok ((enumL xs).map (eP D.int e)) A1 := by
  unfold fEnum
  rw [h]
  have z : fz (.fro (xs.map e)) = .fro (xs.map e) := fz_isF (by simp [isF])
  simp only [Ou.bind_ok, closeD_na (d := .fro (xs.map e)) (fun _ q => nomatch q), z, enumD_map]
theorem ev_enumM {xs : List α} {es : List D} (h : fa A = .ok (.mu es) A1) (hz : fz (.mu es) = .lst (xs.map e)) (f1 : ∀ x, isF (e x) = true) : fEnum fa A = .ok ((enumL xs).map (eP D.int e)) A1 := by
  unfold fEnum
  rw [h]
  simp only [Ou.bind_ok, closeD_na (d := .mu es) (fun _ q => nomatch q), hz, enumD_map]
theorem ev_enumA {j : Nat} {t : D} {xs : List α} (h : fa A = .ok (.al j) A1) (ht : A1[j]? = some (some t)) (hz : fz t = .lst (xs.map e)) (hz2 : fz (.lst (xs.map e)) = .lst (xs.map e)) (f1 : ∀ x, isF (e x) = true) : fEnum fa A = .ok ((enumL xs).map (eP D.int e)) (A1.set j (some (.lst (xs.map e)))) := by
  unfold fEnum
  rw [h]
  simp only [Ou.bind_ok, closeD, ht, hz, hz2, enumD_map]
end
/-! ### a bag's letter turned -/
def bagA {α : Type} (m c : Int) (ls : List α) : Int := m / c % (ls.length : Int)
def bagO {α : Type} (xs : List (List Int)) (k m c : Int) (ls : List α) : Option (List (List Int)) :=
  (ixN xs.length k).bind fun j => (xs[j]?).bind fun bg => if cDiv m c = true ∧ 0 < ls.length then (ixN bg.length (m / c % (ls.length : Int))).bind fun u => (bg[u]?).bind fun w => some (xs.set j (bg.set u (1 - w))) else none
theorem ev_bagO {α : Type} {e : α → D} {i b a n l : Nat} {c k m : Int} {fe : FE} {A A1 : Sl} {xs v : List (List Int)} {ls : List α} (h0 : A[i]? = some (some (.mu (xs.map (eM D.int))))) (h1 : fe A = .ok (.int k) A1) (h2 : A1[i]? = some (some (.mu (xs.map (eM D.int))))) (h3 : A1[n]? = some (some (.int m))) (h4 : A1[l]? = some (some (.lst (ls.map e))))
    (hb : b < A1.length) (ha : a < A1.length) (hv : bagO xs k m c ls = some v) : fBag i b a n l c fe A = .ok .next (((A1.set i (some (.mu (v.map (eM D.int))))).set b none).set a (some (.int (bagA m c ls)))) := by
  have s : slotL i A = some (xs.map (eM D.int)) := by unfold slotL; rw [h0]
  have s1 : slotL i A1 = some (xs.map (eM D.int)) := by unfold slotL; rw [h2]
  unfold bagO at hv
  obtain ⟨j, hj, hv⟩ := of_bind hv
  obtain ⟨bg, hbg, hv⟩ := of_bind hv
  split at hv
  · rename_i q
    obtain ⟨u, hu, hv⟩ := of_bind hv
    obtain ⟨w, hw, hv⟩ := of_bind hv
    cases hv
    have fs : isFs (bg.map D.int) = true := enc_int.fs bg
    unfold fBag
    simp only [s, h1, Ou.bind_ok, s1, h3, h4, List.length_map, hj, List.getElem?_map, hbg, Option.map_some, fs, q.1, q.2, hb, ha, and_self, if_true, hu, hw, bagA, List.map_set]
    rw [show eM D.int (bg.set u (1 - w)) = D.mu ((bg.map D.int).set u (D.int (1 - w))) from by rw [← List.map_set]]
  · cases hv
end Ab
namespace Ab
open PySem L2
theorem short_ (ds : List D) (k : Nat) (h : ds.length = k) (hk : k ≤ 1000) : ds.length ≤ sizeLine := by
  have := sizeLine_eq
  omega
end Ab
end
section
/-! typed dicts -/
namespace Ab
open PySem L2
section
variable {κ ν : Type} [DecidableEq κ]
def dGet : List (κ × ν) → κ → Option ν
  | [], _ => none
  | p :: r, k => if p.1 = k then some p.2 else dGet r k
def dPut : List (κ × ν) → κ → ν → List (κ × ν)
  | [], k, v => [(k, v)]
  | p :: r, k, v => if p.1 = k then (p.1, v) :: r else p :: dPut r k v
def dHas (d : List (κ × ν)) (k : κ) : Bool := (dGet d k).isSome
def dMrg (d e : List (κ × ν)) : List (κ × ν) := e.foldl (fun a p => dPut a p.1 p.2) d
def dPutO (d : List (κ × ν)) (k : κ) (v : ν) : Option (List (κ × ν)) := if d.length < sizeLine then some (dPut d k v) else none
def dIx (d : List (κ × ν)) (k : κ) : Option Nat := d.findIdx? fun p => decide (p.1 = k)
theorem dGet_ix (d : List (κ × ν)) (k : κ) : dGet d k = (dIx d k).bind fun j => (d[j]?).map (·.2) := by
  induction d with
  | nil => rfl
  | cons p r ih =>
    unfold dGet dIx
    rw [List.findIdx?_cons]
    by_cases h : p.1 = k
    · simp [h]
    · simp only [h, if_false, decide_false, Bool.false_eq_true]
      rw [ih]
      unfold dIx
      cases r.findIdx? fun p => decide (p.1 = k) <;> simp
theorem dPut_ix (d : List (κ × ν)) (k : κ) (v : ν) : dPut d k v = match dIx d k with
    | some j => d.modify j fun p => (p.1, v)
    | none => d ++ [(k, v)] := by
  induction d with
  | nil => rfl
  | cons p r ih =>
    unfold dPut dIx
    rw [List.findIdx?_cons]
    by_cases h : p.1 = k
    · simp [h]
    · simp only [h, if_false, decide_false, Bool.false_eq_true]
      rw [ih]
      unfold dIx
      cases r.findIdx? fun p => decide (p.1 = k) <;> simp
theorem dPut_keys (d : List (κ × ν)) (k : κ) (v : ν) : (dPut d k v).map (·.1) = addL (dIx d k) (d.map (·.1)) k := by
  rw [dPut_ix]
  cases dIx d k with
  | none => simp [addL]
  | some j => simp only [addL]; exact map_modify_same (f := fun p : κ × ν => p.1) (g := fun p => (p.1, v)) (fun _ => rfl) d j
theorem dPut_vals (d : List (κ × ν)) (k : κ) (v : ν) : (dPut d k v).map (·.2) = putL (dIx d k) (d.map (·.2)) v := by
  rw [dPut_ix]
  cases dIx d k with
  | none => simp [putL]
  | some j => simp only [putL]; exact map_modify_set (f := fun p : κ × ν => p.2) (g := fun p => (p.1, v)) (fun _ => rfl) d j
theorem dGet_put_same (d : List (κ × ν)) (k : κ) (v : ν) : dGet (dPut d k v) k = some v := by
  induction d with
  | nil => simp [dPut, dGet]
  | cons p r ih =>
    unfold dPut
    by_cases h : p.1 = k
    · simp [h, dGet]
    · simp only [h, if_false, dGet]; exact ih
theorem dGet_put_other (d : List (κ × ν)) (k k' : κ) (v : ν) (hk : k' ≠ k) : dGet (dPut d k v) k' = dGet d k' := by
  induction d with
  | nil => simp [dPut, dGet, hk.symm]
  | cons p r ih =>
    unfold dPut
    by_cases h : p.1 = k
    · have : p.1 ≠ k' := fun e => hk (e.symm.trans h)
      simp [h, dGet]
      rw [h] at this
      simp [this]
    · simp only [h, if_false, dGet]; rw [ih]
theorem dGet_put (d : List (κ × ν)) (k k' : κ) (v : ν) : dGet (dPut d k v) k' = if k' = k then some v else dGet d k' := by
  by_cases h : k' = k
  · rw [if_pos h, h, dGet_put_same]
  · rw [if_neg h, dGet_put_other d k k' v h]
theorem dPut_len (d : List (κ × ν)) (k : κ) (v : ν) : (dPut d k v).length ≤ d.length + 1 := by
  induction d with
  | nil => simp [dPut]
  | cons p r ih => unfold dPut; split <;> simp <;> omega
/-- d.setdefault(k, []).append(x) -/
def dSda {α : Type} (d : List (κ × List α)) (k : κ) (x : α) : Option (List (κ × List α)) := match dGet d k with
  | some l => if l.length < sizeLine then some (dPut d k (l ++ [x])) else none
  | none => if d.length < sizeLine then some (dPut d k [x]) else none
end
/-! ### encoders -/
/-- what a typed thing is as a key -/
structure NkOk {κ : Type} (e : κ → D) (nk : κ → NestedKey) (m : Nat) : Prop where
  eqn : ∀ x, nkD (e x) = some (nk x)
  dep : ∀ x, (nk x).depth ≤ m
  inj : ∀ x y, nk x = nk y → x = y
structure KeyEnc {κ : Type} (e : κ → D) (n : Bool) (nk : κ → NestedKey) : Prop where
  ok : ∀ x, keyOk n (e x) = some (nk x)
  eqn : ∀ x, nkD (e x) = some (nk x)
  inj : ∀ x y, nk x = nk y → x = y
section
variable {α β γ : Type} {e : α → D} {e1 : β → D} {e2 : γ → D} {f : α → NestedKey} {f1 : β → NestedKey} {f2 : γ → NestedKey} {m : Nat}
theorem nko_int : NkOk D.int NestedKey.num 0 := ⟨fun _ => by rw [nkD], fun _ => by simp [NestedKey.depth], fun x y h => by injection h⟩
abbrev nkO (f : α → NestedKey) : Option α → NestedKey
  | none => .none
  | some x => f x
theorem nko_O (h : NkOk e f m) (hn : ∀ x, f x ≠ .none) : NkOk (eO e) (nkO f) m where
  eqn := fun o => by cases o with
    | none => simp [eO, nkD]
    | some x => exact h.eqn x
  dep := fun o => by cases o with
    | none => simp [NestedKey.depth]
    | some x => exact h.dep x
  inj := fun x y q => by
    cases x <;> cases y
    · rfl
    · exact absurd q.symm (hn _)
    · exact absurd q (hn _)
    · rw [h.inj _ _ q]
theorem nkDs_map (h : NkOk e f m) : ∀ xs : List α, nkDs (xs.map e) = some (xs.map f)
  | [] => by simp [nkDs]
  | x :: xs => by rw [List.map_cons, List.map_cons, nkDs, h.eqn x, nkDs_map h xs]
theorem depthAll_map (h : NkOk e f m) : ∀ xs : List α, NestedKey.depthAll (xs.map f) ≤ m
  | [] => by simp [NestedKey.depthAll]
  | x :: xs => by rw [List.map_cons, NestedKey.depthAll]; exact Nat.max_le.mpr ⟨h.dep x, depthAll_map h xs⟩
abbrev nkT (f : α → NestedKey) : List α → NestedKey := fun xs => .tup (xs.map f)
theorem nko_T (h : NkOk e f m) : NkOk (eT e) (nkT f) (m + 1) where
  eqn := fun xs => by rw [nkD, nkDs_map h]; rfl
  dep := fun xs => by rw [NestedKey.depth]; have := depthAll_map h xs; omega
  inj := fun xs ys q => by
    injection q with q
    induction xs generalizing ys with
    | nil => cases ys with
      | nil => rfl
      | cons y ys => simp at q
    | cons x xs ih => cases ys with
      | nil => simp at q
      | cons y ys =>
        rw [List.map_cons, List.map_cons] at q
        injection q with q1 q2
        rw [h.inj _ _ q1, ih ys q2]
abbrev nkP (f : α → NestedKey) (f1 : β → NestedKey) : α × β → NestedKey := fun p => .tup [f p.1, f1 p.2]
theorem nko_P (h : NkOk e f m) (h1 : NkOk e1 f1 m) : NkOk (eP e e1) (nkP f f1) (m + 1) where
  eqn := fun p => by show nkD (.tup [e p.1, e1 p.2]) = _; rw [nkD, nkDs, nkDs, nkDs, h.eqn, h1.eqn]; rfl
  dep := fun p => by
    simp only [NestedKey.depth, NestedKey.depthAll]
    have := h.dep p.1; have := h1.dep p.2; omega
  inj := fun p q hh => by
    cases p; cases q
    injection hh with hh
    injection hh with h1' h2'
    injection h2' with h2' _
    exact Prod.ext (h.inj _ _ h1') (h1.inj _ _ h2')
abbrev nkQ (f : α → NestedKey) (f1 : β → NestedKey) (f2 : γ → NestedKey) : α × β × γ → NestedKey := fun p => .tup [f p.1, f1 p.2.1, f2 p.2.2]
theorem nko_Q (h : NkOk e f m) (h1 : NkOk e1 f1 m) (h2 : NkOk e2 f2 m) : NkOk (fun v : α × β × γ => .tup [e v.1, e1 v.2.1, e2 v.2.2]) (nkQ f f1 f2) (m + 1) where
  eqn := fun p => by show nkD (.tup [_, _, _]) = _; rw [nkD, nkDs, nkDs, nkDs, nkDs, h.eqn, h1.eqn, h2.eqn]; rfl
  dep := fun p => by
    simp only [NestedKey.depth, NestedKey.depthAll]
    have := h.dep p.1; have := h1.dep p.2.1; have := h2.dep p.2.2; omega
  inj := fun p q hh => by
    obtain ⟨a, b, c⟩ := p; obtain ⟨a', b', c'⟩ := q
    injection hh with hh
    injection hh with g1 g2
    injection g2 with g2 g3
    injection g3 with g3 _
    exact Prod.ext (h.inj _ _ g1) (Prod.ext (h1.inj _ _ g2) (h2.inj _ _ g3))
theorem nko_up {k : Nat} (h : NkOk e f m) (hk : m ≤ k) : NkOk e f k := ⟨h.eqn, fun x => Nat.le_trans (h.dep x) hk, h.inj⟩
theorem key_int : KeyEnc D.int false NestedKey.num := ⟨fun x => by simp [keyOk], fun _ => by rw [nkD], fun x y h => by injection h⟩
theorem key_tup (h : NkOk e f m) (ht : ∀ x, ∃ ds, e x = .tup ds) (hm : m ≤ 8 := by decide) : KeyEnc e true f where
  ok := fun x => by
    obtain ⟨ds, q⟩ := ht x
    have hn := h.eqn x
    have hd := h.dep x
    rw [q] at hn ⊢
    simp only [keyOk, hn]
    rw [if_pos (by omega)]
  eqn := h.eqn
  inj := h.inj
end
section
variable {κ ν : Type} [DecidableEq κ] {e : κ → D} {e1 : ν → D} {n : Bool} {nk : κ → NestedKey} {A A1 A2 : Sl} {d d' r : D} {kv : List (κ × ν)} {k : κ} {fe fk fa fb : FE}
abbrev eDM (n : Bool) (e : κ → D) (e1 : ν → D) : List (κ × ν) → D := fun kv => .mdi n (kv.map fun p => e p.1) (kv.map fun p => e1 p.2)
abbrev eDL (n : Bool) (e : κ → D) (e1 : ν → D) : List (κ × ν) → D := fun kv => .fdi n (kv.map fun p => e p.1) (kv.map fun p => e1 p.2)
theorem fz_D {e1' : ν → D} (h : Fz e1 e1') : Fz (eDM n e e1) (eDL n e e1') := fun kv => by
  show fz (.mdi n _ _) = _
  rw [fz]
  congr 1
  induction kv with
  | nil => simp [fzs]
  | cons p r ih => rw [List.map_cons, List.map_cons, fzs, h, ih]
theorem fz_DL : Fz (eDL n e e1) (eDL n e e1) := fun kv => by show fz (.fdi n _ _) = _; rw [fz]
theorem isF_mdi {ks vs : List D} : isF (.mdi n ks vs) = false := by simp [isF]
theorem isF_DL : isF (eDL n e e1 kv) = true := by simp [isF]
theorem ixD_d (h : KeyEnc e n nk) (kv : List (κ × ν)) (k : κ) : ixD (kv.map fun p => e p.1) (nk k) = dIx kv k := by
  unfold ixD dIx
  rw [List.findIdx?_map]
  congr 1
  funext p
  show decide (nkD (e p.1) = some (nk k)) = decide (p.1 = k)
  rw [h.eqn]
  by_cases q : p.1 = k
  · simp [q]
  · have : nk p.1 ≠ nk k := fun z => q (h.inj _ _ z)
    simp [q, this]
theorem dIx_some {j : Nat} (h : dIx kv k = some j) : ∃ p, kv[j]? = some p ∧ p.1 = k := by
  obtain ⟨p, h1, h2⟩ := findIx_lt h
  exact ⟨p, h1, of_decide_eq_true h2⟩
theorem dHas_ix : dHas kv k = (dIx kv k).isSome := by
  unfold dHas
  rw [dGet_ix]
  cases h : dIx kv k with
  | none => rfl
  | some j =>
    obtain ⟨p, h1, _⟩ := dIx_some h
    show ((kv[j]?).map _).isSome = true
    rw [h1]; rfl
theorem gInX_d (h : KeyEnc e n nk) (hs : dicOf (see A d') = some (n, kv.map (fun p => e p.1), kv.map fun p => e1 p.2)) (hk : see A d = e k) : gInX d d' A = some (.bl (dHas kv k)) := by
  unfold gInX
  simp only [hs, hk, h.ok, ixD_d h, dHas_ix]
theorem gNotInX_d (h : KeyEnc e n nk) (hs : dicOf (see A d') = some (n, kv.map (fun p => e p.1), kv.map fun p => e1 p.2)) (hk : see A d = e k) : gNotInX d d' A = some (.bl (!dHas kv k)) := by
  unfold gNotInX
  simp only [hs, hk, h.ok, ixD_d h, dHas_ix]
theorem gIxX_d {v : ν} (h : KeyEnc e n nk) (hs : dicOf (see A d) = some (n, kv.map (fun p => e p.1), kv.map fun p => e1 p.2)) (hk : see A d' = e k) (hv : dGet kv k = some v) (hf : isF (e1 v) = true) : gIxX d d' A = some (e1 v) := by
  unfold gIxX
  simp only [hs, hk, h.ok, ixD_d h]
  rw [dGet_ix] at hv
  cases hj : dIx kv k with
  | none => rw [hj] at hv; cases hv
  | some j =>
    rw [hj] at hv
    have hv : (kv[j]?).map (·.2) = some v := hv
    have : (kv.map fun p => e1 p.2)[j]? = some (e1 v) := by
      rw [List.getElem?_map]
      cases hp : kv[j]? with
      | none => rw [hp] at hv; cases hv
      | some p => rw [hp] at hv; cases hv; rfl
    simp only [this, hf, if_true]
theorem dicOf_seq {ds : List D} (h : sqOf d = some ds) : dicOf d = none := by cases d <;> simp [sqOf] at h <;> rfl
theorem gInX_s {r : D} (h : gIn d d' A = some r) (hs : dicOf (see A d') = none) : gInX d d' A = some r := by unfold gInX; rw [hs]; exact h
theorem gNotInX_s {r : D} (h : gNotIn d d' A = some r) (hs : dicOf (see A d') = none) : gNotInX d d' A = some r := by unfold gNotInX; rw [hs]; exact h
theorem gIxX_s {r : D} (h : gIx d d' A = some r) (hs : dicOf (see A d) = none) : gIxX d d' A = some r := by unfold gIxX; rw [hs]; exact h
theorem addL_d (h : KeyEnc e n nk) (v : ν) : addL (ixD (kv.map fun p => e p.1) (nk k)) (kv.map fun p => e p.1) (e k) = (dPut kv k v).map fun p => e p.1 := by
  rw [ixD_d h, show (fun p : κ × ν => e p.1) = e ∘ (fun p => p.1) from rfl, ← List.map_map, ← List.map_map, dPut_keys, addL_map]
theorem putL_d (h : KeyEnc e n nk) (v : ν) : putL (ixD (kv.map fun p => e p.1) (nk k)) (kv.map fun p => e1 p.2) (e1 v) = (dPut kv k v).map fun p => e1 p.2 := by
  rw [ixD_d h, show (fun p : κ × ν => e1 p.2) = e1 ∘ (fun p => p.2) from rfl, ← List.map_map, ← List.map_map, dPut_vals, putL_map]
theorem ev_setD {i : Nat} {v : ν} {kv' : List (κ × ν)} (h : KeyEnc e n nk) (he : fe A = .ok (e1 v) A1) (hd : ∀ j, e1 v ≠ .al j) (hs : A1[i]? = some (some (eDM n e e1 kv))) (hk : fk A1 = .ok (e k) A1) (hv : dPutO kv k v = some kv') : fSetD i fk fe A = .ok .next (A1.set i (some (eDM n e e1 kv'))) := by
  have s1 : slotD i A1 = some (n, kv.map (fun p => e p.1), kv.map fun p => e1 p.2) := by unfold slotD; rw [hs]
  unfold dPutO at hv
  split at hv
  · rename_i q; cases hv
    unfold fSetD
    simp only [he, Ou.bind_ok, closeD_na hd, s1, hk, h.ok, List.length_map, q, if_true, addL_d h v, putL_d h v]
  · cases hv
theorem ev_dic0 : fDic0 n A = .ok (eDM n e e1 []) A := rfl
theorem ev_dic1 {v : ν} (h : KeyEnc e n nk) (hk : fk A = .ok (e k) A1) (he : fe A1 = .ok (e1 v) A2) (hd : ∀ j, e1 v ≠ .al j) : fDic1 n fk fe A = .ok (eDM n e e1 [(k, v)]) A2 := by
  unfold fDic1
  simp only [hk, Ou.bind_ok, h.ok, he, closeD_na hd]
  have a1 := addL_d (kv := ([] : List (κ × ν))) (k := k) h v
  have a2 := putL_d (kv := ([] : List (κ × ν))) (e1 := e1) (k := k) h v
  simp only [List.map_nil] at a1 a2
  rw [a1, a2]
  rfl
/-- all keys' hash values are unlike: dict(d) copies without asking -/
def hashP (nk : κ → NestedKey) (kv : List (κ × ν)) : Option (List Int) := kv.mapM fun p => nkH (nk p.1)
def hashN (nk : κ → NestedKey) (kv : List (κ × ν)) : Bool := match hashP nk kv with
  | some hs => decide hs.Nodup
  | none => false
theorem hashesD_d (h : KeyEnc e n nk) : ∀ kv : List (κ × ν), hashesD (kv.map fun p => e p.1) = hashP nk kv
  | [] => rfl
  | p :: r => by
    unfold hashP
    rw [List.map_cons, hashesD, h.eqn, hashesD_d h r]
    show _ = List.mapM _ (p :: r)
    rw [List.mapM_cons]
    unfold hashP
    show (match nkH (nk p.1), _ with | some h, some hs => some (h :: hs) | _, _ => none) = _
    cases nkH (nk p.1) with
    | none => rfl
    | some a => cases List.mapM (fun p => nkH (nk p.1)) r <;> rfl
theorem hashOk_d (h : KeyEnc e n nk) (kv : List (κ × ν)) : hashOk (kv.map fun p => e p.1) = hashN nk kv := by
  unfold hashOk hashN; rw [hashesD_d h]; try (cases hashP nk kv <;> rfl)
def dCopyO (n : Bool) (nk : κ → NestedKey) (kv : List (κ × ν)) : Option (List (κ × ν)) := if n = false ∨ hashN nk kv = true then some kv else none
theorem gDictOf_d {kv' : List (κ × ν)} (h : KeyEnc e n nk) (hs : dicOf (see A d) = some (n, kv.map (fun p => e p.1), kv.map fun p => e1 p.2)) (hf : ∀ v, isF (e1 v) = true) (hv : dCopyO n nk kv = some kv') : gDictOf [d] A = some (eDM n e e1 kv') := by
  have fs : isFs (kv.map fun p => e1 p.2) = true := by rw [isFs_all]; simp [hf]
  unfold dCopyO at hv
  split at hv
  · rename_i q; cases hv
    unfold gDictOf
    simp only [hs, fs, hashOk_d h, true_and, q, if_true]
  · cases hv
theorem mrgD_d (h : KeyEnc e n nk) : ∀ (kv2 kv : List (κ × ν)), mrgD (kv.map fun p => e p.1) (kv.map fun p => e1 p.2) (kv2.map fun p => e p.1) (kv2.map fun p => e1 p.2) = ((dMrg kv kv2).map (fun p => e p.1), (dMrg kv kv2).map fun p => e1 p.2)
  | [], kv => by rw [List.map_nil, List.map_nil]; unfold mrgD; rfl
  | p :: r, kv => by
    rw [List.map_cons, List.map_cons, mrgD, h.eqn]
    simp only
    rw [addL_d (kv := kv) (k := p.1) h p.2, putL_d (kv := kv) (e1 := e1) (k := p.1) h p.2, mrgD_d h r]
    rfl
def dUpdO (nk : κ → NestedKey) (kv kv2 : List (κ × ν)) : Option (List (κ × ν)) := if (kv ≠ [] ∨ hashN nk kv2 = true) ∧ kv.length + kv2.length ≤ sizeLine then some (dMrg kv kv2) else none
omit [DecidableEq κ] in
theorem map_ne {α β : Type} {f : α → β} {xs : List α} : xs.map f ≠ [] ↔ xs ≠ [] := by cases xs <;> simp
theorem ev_upd {i : Nat} {kv2 kv' : List (κ × ν)} {dd : D} (h : KeyEnc e true nk) (hs0 : A[i]? = some (some (eDM true e e1 kv))) (he : fe A = .ok dd A1) (hd : ∀ j, dd ≠ .al j) (hz : fz dd = eDL true e e1 kv2) (hs : A1[i]? = some (some (eDM true e e1 kv))) (hf : ∀ v, isF (e1 v) = true) (hv : dUpdO nk kv kv2 = some kv') :
    fUpd i fe A = .ok .non (A1.set i (some (eDM true e e1 kv'))) := by
  have s0 : slotD i A = some (true, kv.map (fun p => e p.1), kv.map fun p => e1 p.2) := by unfold slotD; rw [hs0]
  have s1 : slotD i A1 = some (true, kv.map (fun p => e p.1), kv.map fun p => e1 p.2) := by unfold slotD; rw [hs]
  have fs : isFs (kv.map fun p => e1 p.2) = true := by rw [isFs_all]; simp [hf]
  unfold dUpdO at hv
  split at hv
  · rename_i q; cases hv
    unfold fUpd
    simp only [s0, he, Ou.bind_ok, closeD_na hd, hz, s1, fs, hashOk_d h, List.length_map, map_ne, q, true_and, and_self, if_true, mrgD_d h]
  · cases hv
theorem gLenX_s {xs : List ν} (hs : sqOf (see A d) = some (xs.map e1)) : gLenX [d] A = some (.int xs.length) := by
  unfold gLenX; simp only [dicOf_seq hs]; exact gLen_o hs
theorem gLen_d (hs : dicOf (see A d) = some (n, kv.map (fun p => e p.1), kv.map fun p => e1 p.2)) : gLenX [d] A = some (.int kv.length) := by
  unfold gLenX; simp only [hs, List.length_map]
theorem ev_sda {α : Type} {ea : α → D} {i jv : Nat} {x : α} {kd : List (κ × List α)} {kv' : List (κ × List α)} (h : KeyEnc e true nk) (hs0 : A[i]? = some (some (eDM true e (eM ea) kd))) (hk : fk A = .ok (e k) A) (hx : A[jv]? = some (some (ea x))) (hsc : isScal (ea x) = true) (hf : ∀ v, isF (ea v) = true) (hv : dSda kd k x = some kv') :
    fSdA i fk jv A = .ok .non (A.set i (some (eDM true e (eM ea) kv'))) := by
  have s0 : slotD i A = some (true, kd.map (fun p => e p.1), kd.map fun p => eM ea p.2) := by unfold slotD; rw [hs0]
  unfold fSdA
  simp only [s0, hk, Ou.bind_ok, hx, h.ok, hsc, and_self, if_true, ixD_d h]
  have p1 := fun v : List α => addL_d (kv := kd) (k := k) h v
  have p2 := fun v : List α => putL_d (kv := kd) (e1 := eM ea) (k := k) h v
  simp only [ixD_d h] at p1 p2
  unfold dSda at hv
  cases hj : dIx kd k with
  | none =>
    have hg : dGet kd k = none := by rw [dGet_ix, hj]; rfl
    simp only [hg] at hv
    split at hv
    · rename_i q; cases hv
      rw [hj] at p1 p2
      have a1 := p1 [x]
      have a2 := p2 [x]
      simp only [addL, putL] at a1 a2
      simp only [List.length_map, q, if_true]
      rw [a1]
      have e3 : eM ea [x] = .mu [ea x] := rfl
      rw [e3] at a2
      rw [a2]
    · cases hv
  | some j =>
    obtain ⟨p, hp1, hp2⟩ := dIx_some hj
    have hg : dGet kd k = some p.2 := by rw [dGet_ix, hj]; show (kd[j]?).map _ = _; rw [hp1]; rfl
    simp only [hg] at hv
    split at hv
    · rename_i q; cases hv
      rw [hj] at p1 p2
      have a1 := p1 (p.2 ++ [x])
      have a2 := p2 (p.2 ++ [x])
      simp only [addL, putL] at a1 a2
      have fs : isFs (p.2.map ea) = true := isFs_map hf _
      simp only [List.getElem?_map, hp1, Option.map_some, fs, List.length_map, q, and_self, if_true]
      rw [a1]
      have e3 : eM ea (p.2 ++ [x]) = .mu (p.2.map ea ++ [ea x]) := by show D.mu _ = _; rw [List.map_append]; rfl
      rw [e3] at a2
      rw [a2]
    · cases hv
end
end Ab
namespace Ab
open PySem L2
/-- known things, told (dicts in them) -/
structure FOk {α : Type} (e : α → D) : Prop where
  f : ∀ x, isF (e x) = true
theorem FOk.see {α : Type} {e : α → D} (h : FOk e) (A : Sl) (x : α) : Ab.see A (e x) = e x := see_isF (h.f x)
theorem fz_FO {α : Type} {e : α → D} (h : FOk e) : Fz e e := fun x => fz_isF (h.f x)
theorem fo_enc {α : Type} [DecidableEq α] {e : α → D} {n : Nat} (h : EncOk e n) : FOk e := ⟨h.f⟩
section
variable {α β γ δ : Type} [DecidableEq α] [DecidableEq β] [DecidableEq γ] [DecidableEq δ] {e : α → D} {e1 : β → D} {e2 : γ → D} {e3 : δ → D} {n : Bool}
theorem fo_D : FOk (eDL n e e1) := ⟨fun _ => isF_DL⟩
theorem fo_L : FOk (eL e) := ⟨fun _ => by simp [isF]⟩
theorem fo_T (h : FOk e) : FOk (eT e) := ⟨fun xs => by show isF (.tup _) = true; rw [isF]; exact isFs_map h.f xs⟩
theorem fo_P1 (h : FOk e) : FOk (fun v : α => D.tup [e v]) := ⟨fun v => by rw [isF]; exact isFs_cons (h.f _) isFs_nil⟩
theorem fo_P2 (h : FOk e) (h1 : FOk e1) : FOk (eP e e1) := ⟨fun v => by show isF (.tup _) = true; rw [isF]; exact isFs_cons (h.f _) (isFs_cons (h1.f _) isFs_nil)⟩
theorem fo_P3 (h : FOk e) (h1 : FOk e1) (h2 : FOk e2) : FOk (fun v : α × β × γ => D.tup [e v.1, e1 v.2.1, e2 v.2.2]) := ⟨fun v => by rw [isF]; exact isFs_cons (h.f _) (isFs_cons (h1.f _) (isFs_cons (h2.f _) isFs_nil))⟩
theorem fo_P4 (h : FOk e) (h1 : FOk e1) (h2 : FOk e2) (h3 : FOk e3) : FOk (fun v : α × β × γ × δ => D.tup [e v.1, e1 v.2.1, e2 v.2.2.1, e3 v.2.2.2]) := ⟨fun v => by rw [isF]; exact isFs_cons (h.f _) (isFs_cons (h1.f _) (isFs_cons (h2.f _) (isFs_cons (h3.f _) isFs_nil)))⟩
theorem fo_lst (f : α → List D) : FOk (fun v => D.lst (f v)) := ⟨fun v => by simp [isF]⟩
end
end Ab
end
section
/-! typed: x += e, min, sorted ints, values, items, x[k].append, x[k].clear, list(range), freezing -/
namespace Ab
open PySem L2
section
variable {A A1 A2 : Sl} {fe fk fa fb : FE} {d d' r : D}
theorem ev_aug {f : Int → Int → Int} {i : Nat} {a b : Int} (h0 : A[i]? = some (some (.int a))) (h : fe A = .ok (.int b) A1) : fAug f i fe A = .ok .next (A1.set i (some (.int (f a b)))) := by
  unfold fAug; simp only [h0, h, Ou.bind_ok]
theorem gMinL_o {xs : List Int} {v : Int} (hs : lsOf (see A d) = some (xs.map D.int)) (h : minI xs = some v) : gMinL [d] A = some (.int v) := by
  unfold gMinL; simp only [hs, intsOf_map, h]; rfl
theorem gSortedX_o {xs : List Int} (hs : lsOf (see A d) = some (xs.map D.int)) : gSortedX [d] A = some (.mu ((sortI xs).map D.int)) := by
  unfold gSortedX; simp only [hs, intsOf_map]
theorem intsOf_pairs {p : Int × Int} {ps : List (Int × Int)} : intsOf ((p :: ps).map (eP D.int D.int)) = none := by
  rw [List.map_cons, intsOf]; rfl
theorem gSortedX_p {ps : List (Int × Int)} (h : lsOf (see A d) = some (ps.map (eP D.int D.int))) : gSortedX [d] A = some (.mu ((sortP ps).map (eP D.int D.int))) := by
  unfold gSortedX
  simp only [h]
  cases ps with
  | nil =>
    have e1 : sortP ([] : List (Int × Int)) = [] := by unfold sortP; simp
    have e2 : sortI ([] : List Int) = [] := by unfold sortI; simp
    rw [e1]; simp only [List.map_nil, intsOf, e2]
  | cons p ps => simp only [intsOf_pairs]; exact gSorted_o h
def rgLO (n : Int) : Option (List Int) := if n.natAbs ≤ 16777216 then some ((List.range n.toNat).map fun i : Nat => (i : Int)) else none
theorem ev_listRange {n : Int} {v : List Int} (h : fe A = .ok (.int n) A1) (hv : rgLO n = some v) : fListRange fe A = .ok (.mu (v.map D.int)) A1 := by
  unfold rgLO at hv
  split at hv
  · rename_i q; cases hv
    unfold fListRange; simp only [h, Ou.bind_ok, q, if_true]
  · cases hv
end
section
variable {κ ν : Type} {e : κ → D} {e1 : ν → D} {A A1 : Sl} {fe : FE} {d t : D} {kv : List (κ × ν)}
theorem ev_vals (h : fe A = .ok d A1) (hd : ∀ j, d ≠ .al j) (hz : fz d = eDL true e e1 kv) : fVals fe A = .ok (eM e1 (kv.map fun p => p.2)) A1 := by
  unfold fVals
  simp only [h, Ou.bind_ok, closeD_na hd, hz]
  show Ou.ok _ _ = Ou.ok (D.mu _) _
  rw [List.map_map]; rfl
theorem ev_valsA {j : Nat} (h : fe A = .ok (.al j) A1) (ht : A1[j]? = some (some t)) (hz : fz t = eDL true e e1 kv) : fVals fe A = .ok (eM e1 (kv.map fun p => p.2)) (A1.set j (some (eDL true e e1 kv))) := by
  unfold fVals
  simp only [h, Ou.bind_ok, closeD, ht, hz]
  have : fz (eDL true e e1 kv) = eDL true e e1 kv := by show fz (.fdi true _ _) = _; rw [fz]
  simp only [this]
  show Ou.ok _ _ = Ou.ok (D.mu _) _
  rw [List.map_map]; rfl
theorem prD_map : ∀ kv : List (κ × ν), prD (kv.map fun p => e p.1) (kv.map fun p => e1 p.2) = kv.map (eP e e1)
  | [] => rfl
  | p :: r => by
    have := prD_map r
    unfold prD at this ⊢
    rw [List.map_cons, List.map_cons, List.zipWith_cons_cons, this]
    rfl
theorem ev_items (h : fe A = .ok d A1) (hd : ∀ j, d ≠ .al j) (hz : fz d = eDL true e e1 kv) : fItems fe A = .ok (kv.map (eP e e1)) A1 := by
  unfold fItems
  simp only [h, Ou.bind_ok, closeD_na hd, hz, prD_map]
theorem ev_itemsA {j : Nat} (h : fe A = .ok (.al j) A1) (ht : A1[j]? = some (some t)) (hz : fz t = eDL true e e1 kv) : fItems fe A = .ok (kv.map (eP e e1)) (A1.set j (some (eDL true e e1 kv))) := by
  unfold fItems
  simp only [h, Ou.bind_ok, closeD, ht, hz]
  have : fz (eDL true e e1 kv) = eDL true e e1 kv := by show fz (.fdi true _ _) = _; rw [fz]
  simp only [this, prD_map]
end
/-! ### xs[k].append(x), xs[k].clear() -/
def nAppO {α : Type} (xs : List (List α)) (k : Int) (x : α) : Option (List (List α)) :=
  (ixN xs.length k).bind fun m => (xs[m]?).bind fun l => if l.length < sizeLine then some (xs.set m (l ++ [x])) else none
def nClrO {α : Type} (xs : List (List α)) (k : Int) : Option (List (List α)) :=
  (ixN xs.length k).bind fun m => if m < xs.length then some (xs.set m []) else none
section
variable {α : Type} {e : α → D} {A A1 : Sl} {fk : FE} {xs v : List (List α)} {k : Int} {i jv : Nat} {x : α}
theorem ev_napp (h0 : A[i]? = some (some (.mu (xs.map (eM e))))) (hk : fk A = .ok (.int k) A) (hx : A[jv]? = some (some (e x))) (hsc : isScal (e x) = true) (hf : ∀ x, isF (e x) = true) (hv : nAppO xs k x = some v) : fNApp i fk jv A = .ok .non (A.set i (some (.mu (v.map (eM e))))) := by
  have s0 : slotL i A = some (xs.map (eM e)) := by unfold slotL; rw [h0]
  unfold fNApp
  simp only [s0, hk, Ou.bind_ok, hx, List.length_map]
  unfold nAppO at hv
  cases hm : ixN xs.length k with
  | none => rw [hm] at hv; cases hv
  | some m =>
    rw [hm] at hv
    cases hl : xs[m]? with
    | none => simp only [Option.bind_some, hl] at hv; cases hv
    | some l =>
      simp only [Option.bind_some, hl] at hv
      split at hv
      · rename_i q
        cases hv
        have fs : isFs (l.map e) = true := isFs_map hf _
        have e0 : (xs.map (eM e))[m]? = some (.mu (l.map e)) := by rw [List.getElem?_map, hl]; rfl
        simp only [e0, fs, hsc, List.length_map, q, and_self, if_true]
        congr 4
        rw [List.map_set]
        congr 1
        show D.mu _ = D.mu _
        rw [List.map_append]; rfl
      · cases hv
theorem ev_nclr (h0 : A[i]? = some (some (.mu (xs.map (eM e))))) (hk : fk A = .ok (.int k) A) (hf : ∀ x, isF (e x) = true) (hv : nClrO xs k = some v) : fNClr i fk A = .ok .non (A.set i (some (.mu (v.map (eM e))))) := by
  have s0 : slotL i A = some (xs.map (eM e)) := by unfold slotL; rw [h0]
  unfold fNClr
  simp only [s0, hk, Ou.bind_ok, List.length_map]
  unfold nClrO at hv
  cases hm : ixN xs.length k with
  | none => rw [hm] at hv; cases hv
  | some m =>
    rw [hm] at hv
    simp only [Option.bind_some] at hv
    split at hv
    · rename_i q
      cases hv
      have fs : isFs ((xs[m]'q).map e) = true := isFs_map hf _
      have e0 : (xs.map (eM e))[m]? = some (.mu ((xs[m]'q).map e)) := by rw [List.getElem?_map, List.getElem?_eq_getElem q]; rfl
      simp only [e0, fs, if_true]
      rw [List.map_set]; rfl
    · cases hv
end
section
variable {T : Type} {Φ : T → Ou Fl → Prop} {p : Option T} {k k2 : FS} {A : Sl} {j : Nat} {ds : List D} {d' : D}
theorem sm_fz (hs : A[j]? = some (some (.mu ds))) (hz : fz (.mu ds) = d') (h : Sm (fSeq k k2 (A.set j (some d'))) Φ p) : Sm (fSeq (fFzS j k) k2 A) Φ p := by
  have s0 : slotL j A = some ds := by unfold slotL; rw [hs]
  have : fSeq (fFzS j k) k2 A = fSeq k k2 (A.set j (some d')) := by
    unfold fSeq fFzS
    simp only [s0, hz]
  rw [this]; exact h
theorem sm_raise {o : Ou Fl} : Sm o Φ (none : Option T) := fun t e => by cases e
end
/-! ### d.pop(k, []) -/
section
variable {κ α : Type} [DecidableEq κ] {e : κ → D} {ea : α → D} {nk : κ → NestedKey} {A : Sl} {fk : FE} {kv : List (κ × List α)} {k : κ} {i : Nat}
def dDel {ν : Type} : List (κ × ν) → κ → List (κ × ν)
  | [], _ => []
  | p :: r, k => if p.1 = k then r else p :: dDel r k
theorem dDel_ix {ν : Type} : ∀ (kv : List (κ × ν)) (k : κ), dDel kv k = match dIx kv k with
    | some j => kv.eraseIdx j
    | none => kv
  | [], _ => rfl
  | p :: r, k => by
    unfold dDel dIx
    rw [List.findIdx?_cons]
    by_cases h : p.1 = k
    · simp [h]
    · simp only [h, if_false, decide_false, Bool.false_eq_true]
      rw [dDel_ix r k]
      unfold dIx
      cases r.findIdx? fun p => decide (p.1 = k) <;> simp
theorem map_eraseIdx' {β γ : Type} {f : β → γ} : ∀ (xs : List β) (j : Nat), (xs.map f).eraseIdx j = (xs.eraseIdx j).map f
  | [], _ => by simp
  | x :: xs, 0 => rfl
  | x :: xs, j + 1 => by simp [map_eraseIdx' xs j]
def dPop (kv : List (κ × List α)) (k : κ) : List α × List (κ × List α) := ((dGet kv k).getD [], dDel kv k)
theorem ev_pop (h : KeyEnc e true nk) (hs0 : A[i]? = some (some (eDM true e (eM ea) kv))) (hk : fk A = .ok (e k) A) : fPop i fk A = .ok (eM ea (dPop kv k).1) (A.set i (some (eDM true e (eM ea) (dPop kv k).2))) := by
  have s0 : slotD i A = some (true, kv.map (fun p => e p.1), kv.map fun p => eM ea p.2) := by unfold slotD; rw [hs0]
  unfold fPop
  simp only [s0, hk, Ou.bind_ok, h.ok, if_true, ixD_d h]
  unfold dPop
  simp only [dDel_ix, dGet_ix]
  cases hj : dIx kv k with
  | none =>
    simp only [Option.bind_none, Option.getD_none]
    have e1 : A.set i (some (eDM true e (eM ea) kv)) = A := by
      refine List.ext_getElem? fun m => ?_
      rw [List.getElem?_set]
      split
      · rename_i q; subst q
        split
        · exact hs0.symm
        · rename_i q2; rw [List.getElem?_eq_none (by omega)]
      · rfl
    rw [e1]; rfl
  | some j =>
    obtain ⟨p, hp1, hp2⟩ := dIx_some hj
    have : (kv.map fun p => eM ea p.2)[j]? = some (.mu (p.2.map ea)) := by rw [List.getElem?_map, hp1]; rfl
    simp only [this, Option.bind_some, hp1, Option.map_some, Option.getD_some, map_eraseIdx']
theorem ev_popO {v : List α × List (κ × List α)} (h : KeyEnc e true nk) (hs0 : A[i]? = some (some (eDM true e (eM ea) kv))) (hk : fk A = .ok (e k) A) (hv : some (dPop kv k) = some v) : fPop i fk A = .ok (eM ea v.1) (A.set i (some (eDM true e (eM ea) v.2))) := by cases hv; exact ev_pop h hs0 hk
end
/-! ### looking through -/
section
variable {A A1 : Sl} {fe fk : FE}
theorem isFls_of {o : Ou Bool} {b : Bool} {A1 : Sl} (h : o = .ok b A1) (e : b = false) : isFls o = true := by subst e; rw [h]; rfl
theorem ev_look {i jp jn : Nat} {f1 f2 : FT} {xs : List (List Int)} (h0 : A[i]? = some (some (.mu (xs.map (eM D.int))))) (hp : jp < A.length) (hn : jn < A.length) (h1 : ∀ es : List Int, isFls (f1 (inA A.length jp (eL D.int es))) = true) (h2 : ∀ p : Int, isFls (f2 (inA A.length jn (.int p))) = true) : fLook i jp jn f1 f2 A = .ok .next (wipeA A [jp, jn]) := by
  have s0 : slotL i A = some (xs.map (eM D.int)) := by unfold slotL; rw [h0]
  unfold fLook
  simp only [s0]
  rw [if_pos]
  refine ⟨List.all_eq_true.mpr fun d hd => ?_, hp, hn⟩
  obtain ⟨es, _, rfl⟩ := List.mem_map.mp hd
  show (match intsOf (es.map D.int) with | some ps => isFls (f1 (inA A.length jp (.lst (es.map D.int)))) && ps.all fun p => isFls (f2 (inA A.length jn (.int p))) | none => false) = true
  rw [intsOf_map]
  exact (Bool.and_eq_true _ _).mpr ⟨h1 es, List.all_eq_true.mpr fun p _ => h2 p⟩
theorem ev_tupRange {n : Int} {v : List Int} (h : fe A = .ok (.int n) A1) (hv : rgLO n = some v) : fTupRange fe A = .ok (.tup (v.map D.int)) A1 := by
  unfold rgLO at hv
  split at hv
  · rename_i q; cases hv
    unfold fTupRange; simp only [h, Ou.bind_ok, q, if_true]
  · cases hv
theorem ev_nappI {i : Nat} {xs v : List (List Int)} {k c : Int} (h0 : A[i]? = some (some (.mu (xs.map (eM D.int))))) (hk : fk A = .ok (.int k) A) (hv : nAppO xs k c = some v) : fNAppI i fk c A = .ok .non (A.set i (some (.mu (v.map (eM D.int))))) := by
  have s0 : slotL i A = some (xs.map (eM D.int)) := by unfold slotL; rw [h0]
  unfold fNAppI
  simp only [s0, hk, Ou.bind_ok, List.length_map]
  unfold nAppO at hv
  cases hm : ixN xs.length k with
  | none => rw [hm] at hv; cases hv
  | some m =>
    rw [hm] at hv
    cases hl : xs[m]? with
    | none => simp only [Option.bind_some, hl] at hv; cases hv
    | some l =>
      simp only [Option.bind_some, hl] at hv
      split at hv
      · rename_i q
        cases hv
        have fs : isFs (l.map D.int) = true := isFs_map (fun x => by simp [isF]) _
        have e0 : (xs.map (eM D.int))[m]? = some (.mu (l.map D.int)) := by rw [List.getElem?_map, hl]; rfl
        simp only [e0, fs, List.length_map, q, and_self, if_true]
        congr 4
        rw [List.map_set]
        congr 1
        show D.mu _ = D.mu _
        rw [List.map_append]; rfl
      · cases hv
end
theorem ev_appM_al {α : Type} {A A1 : Sl} {fe : FE} {i j : Nat} {e : α → D} {xs v : List α} {x : α} (hs : A[i]? = some (some (.mu (xs.map e)))) (h : fe A = .ok (.al j) A1) (ht : A1[j]? = some (some (e x))) (hs1 : (A1.set j none)[i]? = some (some (.mu (xs.map e)))) (ha : appO xs x = some v) : fAppM i fe A = .ok .non ((A1.set j none).set i (some (.mu (v.map e)))) := by
  have s : slotL i A = some (xs.map e) := by unfold slotL; rw [hs]
  have s1 : slotL i (A1.set j none) = some (xs.map e) := by unfold slotL; rw [hs1]
  unfold appO at ha
  split at ha
  · rename_i q; cases ha
    unfold fAppM
    simp only [s, h, Ou.bind_ok, moveD, ht, s1, List.length_map, q, if_true, List.map_append]
    rfl
  · cases ha
def repT {α : Type} (xs : List α) (k : Int) : Option (List α) := if xs ≠ [] ∧ 2 ≤ k ∧ k ≤ 1000 ∧ xs.length ≤ 1000 then some (List.replicate k.toNat xs).flatten else none
theorem gMulT_o {α : Type} {A : Sl} {d : D} {e : α → D} {xs v : List α} {k : Int} (hs : see A d = .tup (xs.map e)) (h : repT xs k = some v) (hf : ∀ x, isF (e x) = true) : gMulT d (.int k) A = some (.tup (v.map e)) := by
  unfold repT at h
  split at h
  · rename_i q; cases h
    have fs : isFs (xs.map e) = true := by rw [isFs_all]; simp [hf]
    have ne : xs.map e ≠ [] := fun z => q.1 (List.map_eq_nil_iff.mp z)
    unfold gMulT
    rw [hs]
    simp only [fs, List.length_map, ne, q, ne_eq, not_false_eq_true, and_self, if_true, flatten_map_rep]
  · cases h
/-! ### a <= b < c; maybe-values -/
section
variable {A A1 : Sl} {fa fb fc fe : FE} {α : Type} {e e' : α → D}
theorem ev_chain {c1 c2 : Int → Int → Bool} {i j k : Int} (h1 : fa A = .ok (.int i) A) (h2 : fb A = .ok (.int j) A) (h3 : fc A = .ok (.int k) A) : fChain c1 c2 fa fb fc A = .ok (c1 i j && c2 j k) A := by
  unfold fChain
  simp only [h1, h2, h3, Ou.bind_ok]
  cases c1 i j <;> simp
theorem ev_some {o : Option α} {v : α} (h : fe A = .ok (eO e o) A1) (q : o = some v) : fe A = .ok (e v) A1 := by rw [h, q]; rfl
theorem fz_O (h : Fz e e') : Fz (eO e) (eO e') := fun o => by
  cases o with
  | none => show fz .non = .non; simp [fz]
  | some x => exact h x
theorem dt_O (h : Dt e e') : Dt (eO e) (eO e') := fun o => by
  cases o with
  | none => rfl
  | some x => exact h x
theorem na_O (h : ∀ x i, e x ≠ .al i) (o : Option α) : ∀ i, eO e o ≠ .al i := fun i q => by
  cases o with
  | none => cases q
  | some x => exact h x i q
theorem see_na {d : D} (h : ∀ i, d ≠ .al i) : see A d = d := by cases d <;> first | rfl | exact absurd rfl (h _)
end
/-! ### a list as a test; this or that -/
section
variable {A A1 : Sl} {fe fk : FE} {α β γ : Type} {e : α → D} {e' : α → D} {e1 : β → D} {e1' : β → D}
theorem ev_tru {xs : List α} {d : D} (h : fe A = .ok d A1) (hs : lsOf (see A1 d) = some (xs.map e)) : fTru fe A = .ok (!xs.isEmpty) A1 := by
  unfold fTru
  simp only [h, Ou.bind_ok, hs]
  cases xs <;> rfl
abbrev eU (e : α → D) (e1 : β → D) : α ⊕ β → D := fun u => u.elim e e1
theorem fz_U (h : Fz e e') (h1 : Fz e1 e1') : Fz (eU e e1) (eU e' e1') := fun u => by
  cases u with
  | inl x => exact h x
  | inr y => exact h1 y
theorem fo_U (h : FOk e) (h1 : FOk e1) : FOk (eU e e1) := ⟨fun u => by
  cases u with
  | inl x => exact h.f x
  | inr y => exact h1.f y⟩
theorem na_U (h : ∀ x i, e x ≠ .al i) (h1 : ∀ x i, e1 x ≠ .al i) (u : α ⊕ β) : ∀ i, eU e e1 u ≠ .al i := by
  cases u with
  | inl x => exact h x
  | inr y => exact h1 y
theorem ev_ixU {u : α ⊕ β} {k : Int} {d : D} {f : α → γ} {f1 : β → γ} {g : γ → D} (h : fe A = .ok d A1) (hs : see A1 d = eU e e1 u) (hk : fk A1 = .ok (.int k) A1) (h1 : ∀ x, see A1 d = e x → gIxX d (.int k) A1 = some (g (f x))) (h2 : ∀ y, see A1 d = e1 y → gIxX d (.int k) A1 = some (g (f1 y))) : fBin gIxX fe fk A = .ok (g (u.elim f f1)) A1 := by
  refine ev_bin h hk ?_
  cases u with
  | inl x => exact h1 x hs
  | inr y => exact h2 y hs
theorem isF_U (h : ∀ x, isF (e x) = false) (h1 : ∀ x, isF (e1 x) = false) (u : α ⊕ β) : isF (eU e e1 u) = false := by
  cases u with
  | inl x => exact h x
  | inr y => exact h1 y
theorem isF_tupM {ds : List D} (j : Nat) {d : D} (h : ds[j]? = some d) (hd : isF d = false) : isF (.tup ds) = false := isF_tup_mem h hd
theorem scal_ne {d : D} (h : isScal d = true) : True := True.intro
end
/-! ### texts -/
theorem fo_str : FOk D.str := ⟨fun _ => by simp [isF]⟩
def strEqO (x y : Str) : Option Bool := if (okD (.str x) && okD (.str y)) = true then some (decide (x = y)) else none
theorem gEqS_o {A : Sl} {d d' : D} {x y : Str} {b : Bool} (h1 : see A d = .str x) (h2 : see A d' = .str y) (h : strEqO x y = some b) : gEq d d' A = some (.bl b) := by
  unfold strEqO at h
  split at h
  · rename_i q
    cases h
    unfold gEq
    have key : PyData.eqv (dat (.str x)) (dat (.str y)) = decide (x = y) := by
      rw [dat, dat, PyData.eqv]
      all_goals first | rfl | (by_cases e : x = y <;> simp [e])
    rw [h1, h2, if_pos q, key]
  · cases h
def rightU {α β : Type} : α ⊕ β → Option β
  | .inl _ => none
  | .inr y => some y
theorem ev_right {α β : Type} {e : α → D} {e1 : β → D} {A A1 : Sl} {fe : FE} {u : α ⊕ β} {y : β} (h : fe A = .ok (eU e e1 u) A1) (q : rightU u = some y) : fe A = .ok (e1 y) A1 := by
  cases u with
  | inl x => cases q
  | inr z => cases q; exact h
theorem gNeS_o {A : Sl} {d d' : D} {x y : Str} {b : Bool} (h1 : see A d = .str x) (h2 : see A d' = .str y) (h : strEqO x y = some b) : gNe d d' A = some (.bl (!b)) := by
  have k := gEqS_o h1 h2 h
  unfold gEq at k
  unfold gNe
  split at k
  · rename_i q
    rw [if_pos q]
    have : PyData.eqv (dat (see A d)) (dat (see A d')) = b := by
      have := Option.some.inj k
      injection this
    rw [this]
  · cases k
/-! ### t[-1].clear() -/
section
variable {α κ ν : Type} {e : α → D} {ek : κ → D} {ev : ν → D}
def clearU (u : (Str × Int × List α) ⊕ (Str × List (κ × ν))) : (Str × Int × List α) ⊕ (Str × List (κ × ν)) := match u with
  | .inl x => .inl (x.1, x.2.1, [])
  | .inr y => .inr (y.1, [])
theorem ev_tclrU {A : Sl} {i : Nat} {u : (Str × Int × List α) ⊕ (Str × List (κ × ν))} (h0 : A[i]? = some (some (eU (fun v : Str × Int × List α => D.tup [.str v.1, .int v.2.1, eM e v.2.2]) (eP D.str (eDM true ek ev)) u))) (hf : ∀ x, isF (e x) = true) (hv : ∀ x, isF (ev x) = true) :
    fTClr i (-1) A = .ok .non (A.set i (some (eU (fun v : Str × Int × List α => D.tup [.str v.1, .int v.2.1, eM e v.2.2]) (eP D.str (eDM true ek ev)) (clearU u)))) := by
  cases u with
  | inl x =>
    have h0 : A[i]? = some (some (.tup [.str x.1, .int x.2.1, .mu (x.2.2.map e)])) := h0
    have hi : ixN 3 (-1) = some 2 := by decide
    unfold fTClr
    simp only [h0, List.length_cons, List.length_nil, hi]
    have fs : isFs (x.2.2.map e) = true := isFs_map hf _
    simp only [List.getElem?_cons_succ, List.getElem?_cons_zero, fs, if_true]
    rfl
  | inr y =>
    have h0 : A[i]? = some (some (.tup [.str y.1, .mdi true (y.2.map fun p => ek p.1) (y.2.map fun p => ev p.2)])) := h0
    have hi : ixN 2 (-1) = some 1 := by decide
    unfold fTClr
    simp only [h0, List.length_cons, List.length_nil, hi]
    have fs : isFs (y.2.map fun p => ev p.2) = true := by rw [isFs_all]; simp [hv]
    simp only [List.getElem?_cons_succ, List.getElem?_cons_zero, fs, if_true]
    rfl
end
theorem isi_d {A : Sl} {d : D} {ks vs : List D} {n : String} {b : Bool} (h : dicOf (see A d) = some (true, ks, vs)) (k : kitB "dict" n = some b) : gIsiX [d, .ty n] A = some (.bl b) := by
  unfold gIsiX; simp only [h, k]; rfl
theorem isi_x {A : Sl} {d : D} {n : String} {r : D} (h : gIsi [d, .ty n] A = some r) (k : dicOf (see A d) = none) : gIsiX [d, .ty n] A = some r := by
  unfold gIsiX; simp only [k]; exact h
/-! ### a tuple that takes what its lists own -/
section
variable {A A1 A2 : Sl} {ds es : List D} {fl : FA}
def Mvs (ds : List D) (A : Sl) (es : List D) (A2 : Sl) : Prop := moveL ds A = some (es, A2)
theorem mv_nil : Mvs [] A [] A := rfl
theorem mv_N {d : D} (hd : ∀ i, d ≠ .al i) (r : Mvs ds A es A2) : Mvs (d :: ds) A (d :: es) A2 := by
  have r : moveL ds A = some (es, A2) := r
  show moveL _ _ = _
  unfold moveL
  cases d <;> first | exact absurd rfl (hd _) | (simp only [r])
theorem mv_al {i : Nat} {t : D} (h : A[i]? = some (some t)) (r : Mvs ds (A.set i none) es A2) : Mvs (.al i :: ds) A (t :: es) A2 := by
  have r : moveL ds (A.set i none) = some (es, A2) := r
  show moveL _ _ = _
  unfold moveL
  simp only [h, r]
theorem ev_tupM (h1 : fl A = .ok ds A1) (h2 : Mvs ds A1 es A2) (h3 : es.length ≤ sizeLine) : fTupM fl A = .ok (.tup es) A2 := by
  have h2 : moveL ds A1 = some (es, A2) := h2
  unfold fTupM; rw [h1]; simp only [Ou.bind_ok]; rw [h2]; simp only [h3, if_true]
end
theorem see_alT {A : Sl} {i : Nat} {t : D} (h : A[i]? = some (some t)) (hn : ∀ j, t ≠ .al j) : see A (.al i) = t := by
  cases t <;> first | exact absurd rfl (hn _) | simp [see, h]
end Ab
namespace Ab
open PySem L2
theorem ev_fzT {A A1 : Sl} {fe : FE} {d d' : D} (h : fe A = .ok d A1) (hd : ∀ j, d ≠ .al j) (hz : fz d = d') : fFzT fe A = .ok d' A1 := by
  unfold fFzT; rw [h]; simp only [Ou.bind_ok, closeD_na hd, hz]
end Ab
end
section
namespace Ab
open PySem L2
/-! ### calls that may raise, typed -/
def exK {α β : Type} (v : Except Str α) (f : Str → β) (g : α → β) : β := match v with
  | .error c => f c
  | .ok w => g w
/-- an exception that is kept -/
abbrev eX (c : Str) : D := .obj c [] []
theorem fo_X : FOk eX := ⟨fun _ => by simp [isF]⟩
theorem nnon_X (c : Str) : Some_ (eX c) := ⟨(fun q => nomatch q), (fun _ q => nomatch q)⟩
theorem fo_O {α : Type} {e : α → D} (h : FOk e) : FOk (eO e) := ⟨fun o => by cases o with
  | none => show isF .non = true; simp [isF]
  | some x => exact h.f x⟩
section
variable {A A1 A2 : Sl} {fe : FE} {fl : FA} {d : D} {ds es : List D} {c : Str} {i j : Nat} {α : Type} {e : α → D}
theorem ex_drop (h : fe A = .exc c A1) : fDrop fe A = .exc c A1 := by unfold fDrop; rw [h]; rfl
theorem ex_asg (h : fe A = .exc c A1) : fAsg i fe A = .exc c A1 := by unfold fAsg; rw [h]; rfl
theorem ex_asgF (h : fe A = .exc c A1) : fAsgF i fe A = .exc c A1 := by unfold fAsgF; rw [h]; rfl
theorem ex_ret (h : fe A = .exc c A1) : fRet fe A = .exc c A1 := by unfold fRet; rw [h]; rfl
/-- what is kept -/
def kx (tbl : List (Str × Bool)) (v : Except Str α) : Option (Option Str) := exK v (fun c => if tbl.lookup c = some true then some (some c) else none) fun _ => some none
theorem ev_tryK {F : List D → Ro} {tbl : List (Str × Bool)} {v : Except Str α} {r : Option Str} (h1 : fl A = .ok ds A1) (h2 : Args ds A1 es A1) (hx : RoX e v (F es)) (hk : kx tbl v = some r) (hj : A1[j]? = some (some .non)) (hi : A1[i]? = some none) (hij : i ≠ j) : fTryK j i tbl (fDrop (fCall F fl)) A = .ok .next ((A1.set j (some (eO eX r))).set i none) := by
  cases v with
  | error c =>
    have hx : F es = .exc c := hx
    have e1 : fDrop (fCall F fl) A = .exc c A1 := ex_drop (ex_fcall h1 h2 hx)
    unfold fTryK
    rw [e1]
    have hk : (if tbl.lookup c = some true then some (some c) else none) = some r := hk
    split at hk
    · rename_i q
      cases hk
      simp only [q]
      rfl
    · cases hk
  | ok w =>
    have hx : F es = .ok (e w) := hx
    have e1 : fDrop (fCall F fl) A = .ok .next A1 := by
      unfold fDrop
      rw [ev_fcallN h1 h2 hx]; rfl
    unfold fTryK
    rw [e1]
    have hk : some none = some r := hk
    cases hk
    have s1 : A1.set j (some (eO eX none)) = A1 := by
      refine List.ext_getElem? fun k => ?_
      by_cases q : k = j
      · subst q
        rw [List.getElem?_set_self (List.getElem?_eq_some_iff.mp hj).1, hj]; rfl
      · rw [List.getElem?_set_ne (Ne.symm q)]
    have s2 : A1.set i none = A1 := by
      refine List.ext_getElem? fun k => ?_
      by_cases q : k = i
      · subst q
        rw [List.getElem?_set_self (List.getElem?_eq_some_iff.mp hi).1, hi]
      · rw [List.getElem?_set_ne (Ne.symm q)]
    rw [s1, s2]
/-- isinstance of what was kept -/
def isX (to : List ((Str × Str) × Bool)) (tt : List ((Str × String) × Bool)) (o : Option Str) (t : D) : Option Bool := o.bind fun c => clsAll to tt c t
theorem ev_isX {to : List ((Str × Str) × Bool)} {tt : List ((Str × String) × Bool)} {fa fb : FE} {o : Option Str} {t : D} {b : Bool} (h1 : fa A = .ok (eO eX o) A1) (h2 : fb A1 = .ok t A2) (h : isX to tt o t = some b) : fCB (gIsX to tt) (fCons fa (fCons fb fNil)) A = .ok (.bl b) A2 := by
  cases o with
  | none => cases h
  | some c =>
    have h : clsAll to tt c t = some b := h
    refine ev_cb (ev_cons h1 (ev_cons h2 ev_nil)) ?_
    have hs : see A2 (eO eX (some c)) = .obj c [] [] := rfl
    unfold gIsX
    simp only [hs, h]; rfl
end
end Ab
namespace Ab
open PySem L2
def lenS (x : Str) : Option Int := if x.length ≤ sizeLine then some (x.length : Int) else none
theorem gLen_str {A : Sl} {d : D} {x : Str} {n : Int} (hs : see A d = .str x) (h : lenS x = some n) : gLenX [d] A = some (.int n) := by
  unfold lenS at h
  split at h
  · rename_i q
    cases h
    have e : dicOf (see A d) = none := by rw [hs]; rfl
    unfold gLenX
    simp only [e]
    unfold gLen
    simp only [hs, q, if_true]
  · cases h
end Ab
namespace Ab
theorem na_int {n : Int} : ∀ i, D.int n ≠ .al i := fun _ q => nomatch q
theorem na_bl {n : Bool} : ∀ i, D.bl n ≠ .al i := fun _ q => nomatch q
theorem na_str {n : PySem.Str} : ∀ i, D.str n ≠ .al i := fun _ q => nomatch q
end Ab
namespace Ab
open PySem L2
def repT0 {α : Type} (xs : List α) (k : Int) : Option (List α) := if k = 0 then (if xs ≠ [] then some [] else none) else if k = 1 then (if xs ≠ [] then some xs else none) else repT xs k
theorem gMulT0_o {α : Type} {A : Sl} {d : D} {e : α → D} {xs v : List α} {k : Int} (hs : see A d = .tup (xs.map e)) (h : repT0 xs k = some v) (hf : ∀ x, isF (e x) = true) : gMulT0 d (.int k) A = some (.tup (v.map e)) := by
  unfold repT0 at h
  have ne : xs ≠ [] → xs.map e ≠ [] := fun q z => q (List.map_eq_nil_iff.mp z)
  by_cases k0 : k = 0
  · rw [if_pos k0] at h
    split at h
    · rename_i q
      cases h
      subst k0
      show (match see A d with | D.tup ds => (if isFs ds = true ∧ ds ≠ [] then some (D.tup []) else none : Option D) | _ => none) = _
      rw [hs]
      simp only [isFs_map hf, ne q, ne_eq, not_false_eq_true, and_self, if_true]
      rfl
    · cases h
  · rw [if_neg k0] at h
    by_cases k1 : k = 1
    · rw [if_pos k1] at h
      split at h
      · rename_i q
        cases h
        subst k1
        show (match see A d with | D.tup ds => (if isFs ds = true ∧ ds ≠ [] then some (D.tup ds) else none : Option D) | _ => none) = _
        rw [hs]
        simp only [isFs_map hf, ne q, ne_eq, not_false_eq_true, and_self, if_true]
      · cases h
    · rw [if_neg k1] at h
      have := gMulT_o hs h hf
      unfold gMulT0
      split
      · rename_i e2; injection e2 with e2; exact absurd e2 k1
      · rename_i e2; injection e2 with e2; exact absurd e2 k0
      · exact this
theorem gLeX_p {A : Sl} {d e : D} {p q : Int × Int} (h : see A d = eP D.int D.int p) (h2 : see A e = eP D.int D.int q) : gLeX d e A = some (.bl (lePair p.1 p.2 q.1 q.2)) := by
  unfold gLeX; rw [h, h2]
theorem gLeX_i {A : Sl} {i j : Int} {b : Bool} (h : decide (i ≤ j) = b) : gLeX (.int i) (.int j) A = some (.bl b) := by
  subst h; rfl
end Ab
namespace Ab
open PySem L2
def sortPO (ps : List (Int × Int)) : Option (List (Int × Int)) := if ps.length ≤ sizeLine then some (sortP ps) else none
theorem gSortedT_l {A : Sl} {d r : D} {es : List D} (hs : lsOf (see A d) = some es) (h : gSortedX [d] A = some r) : gSortedT [d] A = some r := by
  show (match see A d with
    | .tup es => match prsOf es with
      | some ps => if ps.length ≤ sizeLine then some (D.mu ((sortP ps).map pd)) else none
      | none => none
    | _ => gSortedX [d] A) = some r
  split
  · rename_i q; rw [q] at hs; cases hs
  · exact h
theorem gSortedT_p {A : Sl} {d : D} {ps v : List (Int × Int)} (hs : see A d = .tup (ps.map (eP D.int D.int))) (h : sortPO ps = some v) : gSortedT [d] A = some (.mu (v.map (eP D.int D.int))) := by
  unfold sortPO at h
  split at h
  · rename_i q
    cases h
    have e : prsOf (ps.map (eP D.int D.int)) = some ps := prsOf_map ps
    unfold gSortedT
    simp only [hs, e, q, if_true]
    rfl
  · cases h
end Ab
namespace Ab
open PySem L2
/-! ### texts, typed -/
theorem FOk.fs {α : Type} {e : α → D} (h : FOk e) (xs : List α) : isFs (xs.map e) = true := isFs_map h.f xs
section
variable {A A1 A2 : Sl} {fo fe : FE} {a b x y : Str} {d e r : D}
theorem ev_s1 {g : Str → D → Sl → Option D} (h1 : fo A = .ok (.str a) A1) (h2 : fe A1 = .ok e A2) (h : g a e A2 = some r) : fS1 g fo fe A = .ok r A2 := by
  unfold fS1; rw [h1]; simp only [Ou.bind_ok, h2, h]
def splitO (a b : Str) : Option (List Str) := if (b.length == 0) = false ∧ a.length + 2 ≤ sizeLine then some (Txt.split a b) else none
theorem gSplit_o {v : List Str} (h : splitO a b = some v) : gSplit a (.str b) A = some (.mu (v.map D.str)) := by
  unfold splitO at h
  split at h
  · rename_i q; cases h; unfold gSplit; simp only [q, if_true, and_self]
  · cases h
def partO (a b : Str) : Option (Str × Str × Str) := if (b.length == 0) = false ∧ a.length ≤ sizeLine then some (Txt.partition a b) else none
theorem gPart_o {v : Str × Str × Str} (h : partO a b = some v) : gPart a (.str b) A = some (.tup [.str v.1, .str v.2.1, .str v.2.2]) := by
  unfold partO at h
  split at h
  · rename_i q; cases h; unfold gPart; simp only [q, if_true, and_self]
  · cases h
def joinO (a : Str) (ys : List Str) : Option Str := if (ys.map (·.length)).sum + ys.length * a.length ≤ 16777216 then some (Txt.join a ys) else none
theorem gJoin_o {ys : List Str} {v : Str} (hs : lsOf (see A e) = some (ys.map D.str)) (h : joinO a ys = some v) : gJoin a e A = some (.str v) := by
  unfold joinO at h
  split at h
  · rename_i q; cases h; unfold gJoin; simp only [hs, strsOf_map, q, if_true]
  · cases h
def sixO (a b : Str) : Option Int := match Builtin.Str.occurrences a b 0 a.length 1 with
  | i :: _ => some (i : Nat)
  | [] => none
theorem gSIx_o {v : Int} (h : sixO a b = some v) : gSIx a (.str b) A = some (.int v) := by
  unfold sixO at h
  unfold gSIx
  split at h
  · rename_i i r q; cases h; simp only [q]
  · cases h
theorem gFind_o : gFindS a (.str b) A = some (.int (Txt.find a b)) := rfl
def chO (x : Str) (i : Int) : Option Str := if x.length ≤ sizeLine then (atI x.cps.toList i).map fun c => (⟨#[c]⟩ : Str) else none
theorem gIx_ch {i : Int} {v : Str} (hs : see A d = .str x) (h : chO x i = some v) : gIxX d (.int i) A = some (.str v) := by
  unfold chO at h
  split at h
  · rename_i q
    obtain ⟨c, hc, rfl⟩ := Option.map_eq_some_iff.mp h
    exact gIxX_s (gIx_str hs q hc) (by rw [hs]; rfl)
  · cases h
def cutSO (x : Str) (lo hi : Option Int) : Option Str := if x.length ≤ sizeLine then some (cutS x lo hi) else none
theorem gSl_S {lo hi : Option Int} {v : Str} (hs : see A d = .str x) (h : cutSO x lo hi = some v) : gSl d lo hi A = some (.str v) := by
  unfold cutSO at h
  split at h
  · rename_i q; cases h; unfold gSl; simp only [hs, q, if_true]
  · cases h
def addSO (x y : Str) : Option Str := if x.length + y.length ≤ sizeLine then some (x ++ y) else none
theorem gAdd_S {v : Str} (h : addSO x y = some v) : gAdd (.str x) (.str y) A = some (.str v) := by
  unfold addSO at h
  split at h
  · rename_i q; cases h
    show (match (D.str x), (D.str y) with | .int i, .int j => some (D.int (i + j)) | .str x, .str y => if x.length + y.length ≤ sizeLine then some (.str (x ++ y)) else none | _, _ => none) = _
    simp only [q, if_true]
  · cases h
def inSO (x y : Str) : Option Bool := match x with
  | ⟨⟨[c]⟩⟩ => some (decide (c ∈ y.cps.toList))
  | _ => none
theorem gInX_S {v : Bool} (hs : see A e = .str y) (h : inSO x y = some v) : gInX (.str x) e A = some (.bl v) := by
  unfold inSO at h
  split at h
  · cases h
    unfold gInX gIn inB
    simp only [hs, dicOf]
    rfl
  · cases h
theorem gNotInX_S {v : Bool} (hs : see A e = .str y) (h : inSO x y = some v) : gNotInX (.str x) e A = some (.bl (!v)) := by
  unfold inSO at h
  split at h
  · cases h
    unfold gNotInX gNotIn inB
    simp only [hs, dicOf]
    rfl
  · cases h
def intTO (a : Str) : Option Int := if a.length ≤ 640 then intText? a else none
theorem gIntT_o {v : Int} (h : intTO a = some v) : gIntT [.str a] A = some (.int v) := by
  unfold intTO at h
  split at h
  · rename_i q; unfold gIntT; simp only [q, if_true, h]; rfl
  · cases h
def strIO (i : Int) : Option Str := if i.natAbs.log2 < 1920 then some (toString i : Str) else none
theorem gStrI_o {i : Int} {v : Str} (h : strIO i = some v) : gStrI [.int i] A = some (.str v) := by
  unfold strIO at h
  split at h
  · rename_i q; cases h; unfold gStrI; simp only [q, if_true]
  · cases h
end
end Ab
end
section
/-! plain reasoning over typed functions -/
namespace Ab
open PySem L2
def Ok {α : Type} (x : Option α) (P : α → Prop) : Prop := ∃ v, x = some v ∧ P v
section
variable {α β γ S R T : Type} {P Q : α → Prop} {x : Option α}
theorem Ok.imp (h : Ok x P) (i : ∀ v, P v → Q v) : Ok x Q := let ⟨v, e, p⟩ := h; ⟨v, e, i v p⟩
theorem ok_some {v : α} (h : P v) : Ok (some v) P := ⟨v, rfl, h⟩
theorem ok_eq {v : α} (h : x = some v) (p : P v) : Ok x P := ⟨v, h, p⟩
theorem ok_bind {k : α → Option β} {Q : β → Prop} (h : Ok x P) (hk : ∀ v, P v → Ok (k v) Q) : Ok (x.bind k) Q := by
  obtain ⟨v, rfl, p⟩ := h
  exact hk v p
/-- by what comes exactly -/
theorem ok_b {k : α → Option β} {Q : β → Prop} {v : α} (h : x = some v) (hk : Ok (k v) Q) : Ok (x.bind k) Q := by
  rw [h]; exact hk
theorem ok_let {k : α → Option β} {Q : β → Prop} {v : α} (hk : Ok (k v) Q) : Ok ((some v).bind k) Q := hk
theorem ok_if {b : Bool} {p q : Option α} (h1 : b = true → Ok p P) (h2 : b = false → Ok q P) : Ok (if b = true then p else q) P := by
  cases b with
  | true => exact h1 rfl
  | false => exact h2 rfl
theorem ok_is {v : α} (h : Ok x fun y => y = v) : x = some v := by obtain ⟨_, e, rfl⟩ := h; exact e
theorem forS_ind {body : α → S → Option S} (I : Nat → S → Prop) : ∀ (xs : List α) (n : Nat) (s0 : S), I n s0 → (∀ i x s, xs[i]? = some x → I (n + i) s → Ok (body x s) (I (n + i + 1))) → Ok (forS body xs s0) (I (n + xs.length))
  | [], n, s0, h0, _ => ⟨s0, rfl, h0⟩
  | x :: xs, n, s0, h0, hs => by
    obtain ⟨s1, e1, h1⟩ := hs 0 x s0 rfl h0
    unfold forS
    rw [e1]
    have := forS_ind I xs (n + 1) s1 h1 fun i y s e h => by
      have := hs (i + 1) y s (by simpa using e) (by rw [show n + (i + 1) = n + 1 + i by omega]; exact h)
      rw [show n + (i + 1) + 1 = n + 1 + i + 1 by omega] at this
      exact this
    rw [List.length_cons, show n + (xs.length + 1) = n + 1 + xs.length by omega]
    exact this
theorem ok_forS {body : α → S → Option S} {xs : List α} {s0 : S} (I : Nat → S → Prop) (h0 : I 0 s0) (hs : ∀ i x s, xs[i]? = some x → I i s → Ok (body x s) (I (i + 1))) : Ok (forS body xs s0) (I xs.length) := by
  have := forS_ind I xs 0 s0 h0 fun i x s e h => by rw [Nat.zero_add] at h ⊢; exact hs i x s e h
  simpa using this
/-- a loop whose turns are plain -/
theorem forS_fold {body : α → S → Option S} (g : S → α → S) (I : Nat → S → Prop) : ∀ (xs : List α) (n : Nat) (s0 : S), I n s0 → (∀ i x s, xs[i]? = some x → I (n + i) s → body x s = some (g s x) ∧ I (n + i + 1) (g s x)) → forS body xs s0 = some (xs.foldl g s0) ∧ I (n + xs.length) (xs.foldl g s0)
  | [], n, s0, h0, _ => ⟨rfl, h0⟩
  | x :: xs, n, s0, h0, hs => by
    obtain ⟨e1, h1⟩ := hs 0 x s0 rfl h0
    unfold forS
    rw [e1]
    have := forS_fold g I xs (n + 1) (g s0 x) h1 fun i y s e h => by
      have := hs (i + 1) y s (by simpa using e) (by rw [show n + (i + 1) = n + 1 + i by omega]; exact h)
      rw [show n + (i + 1) + 1 = n + 1 + i + 1 by omega] at this
      exact this
    rw [List.length_cons, show n + (xs.length + 1) = n + 1 + xs.length by omega]
    exact this
/-- .. each turn puts some items behind what has been gathered -/
theorem forS_gather {body : α → List β → Option (List β)} (f : α → List β) (m : Nat) (xs : List α) (s0 : List β) (hf : ∀ x ∈ xs, (f x).length ≤ m) (hl : s0.length + xs.length * m ≤ sizeLine) (hb : ∀ x ∈ xs, ∀ s : List β, s.length + (f x).length ≤ sizeLine → body x s = some (s ++ f x)) : forS body xs s0 = some (s0 ++ xs.flatMap f) := by
  induction xs generalizing s0 with
  | nil => simp [forS]
  | cons x xs ih =>
    have h1 := hf x List.mem_cons_self
    rw [List.length_cons] at hl
    have e1 : (xs.length + 1) * m = xs.length * m + m := Nat.succ_mul _ _
    unfold forS
    rw [hb x List.mem_cons_self s0 (by omega)]
    show forS body xs (s0 ++ f x) = _
    rw [ih (s0 ++ f x) (fun y hy => hf y (List.mem_cons_of_mem _ hy)) (by rw [List.length_append]; omega) fun y hy => hb y (List.mem_cons_of_mem _ hy)]
    simp
theorem forS_maps {body : α → List β → Option (List β)} (f : α → β) (xs : List α) (s0 : List β) (hl : s0.length + xs.length ≤ sizeLine) (hb : ∀ x ∈ xs, ∀ s : List β, s.length < sizeLine → body x s = some (s ++ [f x])) : forS body xs s0 = some (s0 ++ xs.map f) := by
  rw [forS_gather (fun x => [f x]) 1 xs s0 (fun _ _ => by simp) (by omega) (fun x hx s hs => hb x hx s (by simp at hs; omega))]
  congr 2
  induction xs with
  | nil => rfl
  | cons x xs ih => rw [List.flatMap_cons, List.map_cons, ih (by simp at hl; omega) (fun y hy => hb y (List.mem_cons_of_mem _ hy))]; rfl
theorem forS_filt {body : α → List β → Option (List β)} (p : α → Bool) (f : α → β) (xs : List α) (s0 : List β) (hl : s0.length + xs.length ≤ sizeLine) (hb : ∀ x ∈ xs, ∀ s : List β, s.length < sizeLine → body x s = some (if p x = true then s ++ [f x] else s)) : forS body xs s0 = some (s0 ++ (xs.filter p).map f) := by
  induction xs generalizing s0 with
  | nil => simp [forS]
  | cons x xs ih =>
    rw [List.length_cons] at hl
    unfold forS
    rw [hb x List.mem_cons_self s0 (by omega)]
    show forS body xs _ = _
    by_cases h : p x = true
    · rw [if_pos h, ih _ (by rw [List.length_append, List.length_singleton]; omega) fun y hy => hb y (List.mem_cons_of_mem _ hy), List.filter_cons_of_pos h]
      simp
    · rw [if_neg h, ih _ (by omega) fun y hy => hb y (List.mem_cons_of_mem _ hy), List.filter_cons_of_neg h]
theorem ok_forP {body : α → S → Option (Stp S R)} {Q : S ⊕ R → Prop} (I : Nat → S → Prop) : ∀ (xs : List α) (n : Nat) (s0 : S), I n s0 → (∀ i x s, xs[i]? = some x → I (n + i) s → Ok (body x s) fun r => match r with | .go s' => I (n + i + 1) s' | .brk s' => Q (.inl s') | .ret r => Q (.inr r)) → (∀ s, I (n + xs.length) s → Q (.inl s)) → Ok (forP body xs s0) Q
  | [], n, s0, h0, _, hq => ⟨.inl s0, rfl, hq s0 h0⟩
  | x :: xs, n, s0, h0, hs, hq => by
    obtain ⟨r, e1, h1⟩ := hs 0 x s0 rfl h0
    unfold forP
    rw [e1]
    cases r with
    | go s1 =>
      exact ok_forP I xs (n + 1) s1 h1 (fun i y s e h => by
        have := hs (i + 1) y s (by simpa using e) (by rw [show n + (i + 1) = n + 1 + i by omega]; exact h)
        rw [show n + (i + 1) + 1 = n + 1 + i + 1 by omega] at this
        exact this) fun s h => hq s (by rw [List.length_cons, show n + (xs.length + 1) = n + 1 + xs.length by omega]; exact h)
    | brk s1 => exact ⟨_, rfl, h1⟩
    | ret r => exact ⟨_, rfl, h1⟩
/-- a search that finds nothing -/
theorem forP_all {body : α → Unit → Option (Stp Unit R)} {xs : List α} (h : ∀ x ∈ xs, body x () = some (.go ())) : forP body xs () = some (.inl ()) := by
  induction xs with
  | nil => rfl
  | cons x xs ih =>
    unfold forP
    rw [h x List.mem_cons_self]
    exact ih fun y hy => h y (List.mem_cons_of_mem _ hy)
theorem compO_ok {xs : List α} {c : α → Bool} {f : α → β} (h : xs.length ≤ sizeLine) : compO xs c f = some ((xs.filter c).map f) := by unfold compO; rw [if_pos h]
theorem compO_all {xs : List α} {f : α → β} (h : xs.length ≤ sizeLine) : compO xs (fun _ => true) f = some (xs.map f) := by
  rw [compO_ok h, List.filter_eq_self.mpr fun _ _ => rfl]
theorem compP_ok {xs : List α} {c : α → Option Bool} {f : α → Option β} (c' : α → Bool) (f' : α → β) (h : xs.length ≤ sizeLine) (hc : ∀ x ∈ xs, c x = some (c' x) ∧ (c' x = true → f x = some (f' x))) : compP xs c f = some ((xs.filter c').map f') := by
  unfold compP
  rw [if_pos h]
  clear h
  induction xs with
  | nil => rfl
  | cons x xs ih =>
    obtain ⟨h1, h2⟩ := hc x List.mem_cons_self
    have ih := ih fun y hy => hc y (List.mem_cons_of_mem _ hy)
    unfold compR
    rw [h1]
    show (if c' x = true then _ else _) = _
    by_cases q : c' x = true
    · rw [if_pos q, h2 q, ih, List.filter_cons_of_pos q]; rfl
    · rw [if_neg q, ih, List.filter_cons_of_neg q]
theorem compP_map {xs : List α} {f : α → Option β} (f' : α → β) (h : xs.length ≤ sizeLine) (hc : ∀ x ∈ xs, f x = some (f' x)) : compP xs (fun _ => some true) f = some (xs.map f') := by
  rw [compP_ok (fun _ => true) f' h fun x hx => ⟨rfl, fun _ => hc x hx⟩, List.filter_eq_self.mpr fun _ _ => rfl]
theorem appO_ok {xs : List α} {x : α} (h : xs.length < sizeLine) : appO xs x = some (xs ++ [x]) := by unfold appO; rw [if_pos h]
theorem catO_ok {xs ys : List α} (h : xs.length + ys.length ≤ sizeLine) : catO xs ys = some (xs ++ ys) := by unfold catO; rw [if_pos h]
theorem mulO_l {a b : Int} (h : -18446744073709551616 < a ∧ a < 18446744073709551616) : mulO a b = some (a * b) := by unfold mulO; rw [if_pos (cMul_l h)]
theorem mulO_r {a b : Int} (h : -18446744073709551616 < b ∧ b < 18446744073709551616) : mulO a b = some (a * b) := by unfold mulO; rw [if_pos (cMul_r h)]
theorem modO_ok {a b : Int} (h : 0 < b) : modO a b = some (a % b) := by unfold modO; rw [if_pos h]
theorem divO_ok {a b : Int} (h : 0 < b) (h2 : b ≤ 1000000000000000000000000000000000000000000000000000000000000000000000) : divO a b = some (a / b) := by unfold divO; rw [if_pos ⟨h, h2⟩]
theorem repO_one {x : α} {k : Nat} (h : k ≤ 1000000) : repO [x] (k : Int) = some (List.replicate k x) := by
  unfold repO
  have := sizeLine_eq
  rw [if_pos ⟨by omega, by simp; omega⟩]
  simp
/-- the whole numbers below h -/
def rg (h : Nat) : List Int := (List.range h).map fun i : Nat => (i : Int)
theorem rg_len (h : Nat) : (rg h).length = h := by simp [rg]
theorem mem_rg {h : Nat} {x : Int} : x ∈ rg h ↔ 0 ≤ x ∧ x < h := by
  unfold rg
  rw [List.mem_map]
  constructor
  · rintro ⟨i, hi, rfl⟩; have := List.mem_range.mp hi; omega
  · rintro ⟨h0, h1⟩; exact ⟨x.toNat, List.mem_range.mpr (by omega), by omega⟩
theorem nodup_map_on {f : α → β} : ∀ {l : List α}, l.Nodup → (∀ a ∈ l, ∀ b ∈ l, f a = f b → a = b) → (l.map f).Nodup
  | [], _, _ => by simp
  | a :: l, h, inj => by
    rw [List.nodup_cons] at h
    rw [List.map_cons, List.nodup_cons]
    refine ⟨fun m => ?_, nodup_map_on h.2 fun x hx y hy e => inj x (List.mem_cons_of_mem _ hx) y (List.mem_cons_of_mem _ hy) e⟩
    obtain ⟨b, hb, e⟩ := List.mem_map.mp m
    exact h.1 (inj b (List.mem_cons_of_mem _ hb) a List.mem_cons_self e ▸ hb)
theorem rg_nodup (h : Nat) : (rg h).Nodup := by
  unfold rg
  exact List.Pairwise.map _ (fun a b h e => h (by have e : (a : Int) = (b : Int) := e; omega)) List.nodup_range
theorem rg_get {h i : Nat} {x : Int} (e : (rg h)[i]? = some x) : x = i ∧ i < h := by
  have hi : i < h := by have := (List.getElem?_eq_some_iff.mp e).1; rwa [rg_len] at this
  unfold rg at e
  rw [List.getElem?_map, List.getElem?_range hi] at e
  exact ⟨(Option.some.inj e).symm, hi⟩
theorem rg_at {h i : Nat} (hi : i < h) : (rg h)[i]? = some (i : Int) := by
  unfold rg
  rw [List.getElem?_map, List.getElem?_range hi]; rfl
theorem rg_succ (h : Nat) : rg (h + 1) = rg h ++ [(h : Int)] := by unfold rg; rw [List.range_succ, List.map_append]; rfl
/-- places of a list set, one behind the other -/
theorem forS_sets {body : Int → List β → Option (List β)} (p : Int → Bool) (f : Int → β) (d : β) (h : Nat) (hb : ∀ x : Int, 0 ≤ x → x < h → ∀ s : List β, s.length = h → body x s = some (if p x = true then s.set x.toNat (f x) else s)) : forS body (rg h) (List.replicate h d) = some ((rg h).map fun x => if p x = true then f x else d) := by
  obtain ⟨s, e, hs⟩ := ok_forS (body := body) (xs := rg h) (s0 := List.replicate h d) (fun i s => s = ((rg i).map fun x => if p x = true then f x else d) ++ List.replicate (h - i) d) (by simp [rg]) fun i x s hx hs => by
    obtain ⟨rfl, hi⟩ := rg_get hx
    have hl : s.length = h := by rw [hs]; simp [rg_len]; omega
    have e2 : h - i = (h - (i + 1)) + 1 := by omega
    refine ok_eq (hb i (by omega) (by omega) s hl) ?_
    rw [rg_succ, List.map_append, hs, e2, List.replicate_succ]
    have ht : ((i : Int)).toNat = i := by simp
    by_cases q : p i = true
    · rw [if_pos q, ht, List.set_append_right _ _ (by simp [rg_len])]
      simp [rg_len, q]
    · rw [if_neg q]
      simp [q]
  rw [e, hs, rg_len]
  simp
theorem rgO_ok {h : Nat} (hb : h < 4611686018427387904) : rgO (h : Int) = some (rg h) := by
  unfold rgO rg
  rw [if_pos (by omega)]
  simp
theorem rgO_int {n : Int} (h0 : 0 ≤ n) (hb : n < 4611686018427387904) : rgO n = some (rg n.toNat) := by
  obtain ⟨k, rfl⟩ := Int.eq_ofNat_of_zero_le h0
  rw [rgO_ok (by omega)]; simp
theorem atI_ok {xs : List α} {i : Int} {d : α} (h0 : 0 ≤ i) (h : i < xs.length) : atI xs i = some (xs.getD i.toNat d) := atI_nn h0 (getD_get (by omega))
theorem atI_get0 {xs : List α} {i : Int} {x : α} (h0 : 0 ≤ i) (h : xs[i.toNat]? = some x) : atI xs i = some x := atI_nn h0 h
theorem setO_ok {xs : List α} {i : Int} {x : α} (h0 : 0 ≤ i) (h : i < xs.length) : setO xs i x = some (xs.set i.toNat x) := by
  unfold setO ixN
  rw [if_pos h0, if_pos (by omega)]; rfl
theorem enumL_get {xs : List α} {i : Nat} {p : Int × α} (h : (enumL xs)[i]? = some p) : p.1 = i ∧ xs[i]? = some p.2 := by
  unfold enumL at h
  rw [List.getElem?_zip_eq_some] at h
  obtain ⟨h1, h2⟩ := h
  have := rg_get (h := xs.length) (i := i) (x := p.1) h1
  exact ⟨this.1, h2⟩
theorem enumL_len (xs : List α) : (enumL xs).length = xs.length := by unfold enumL; simp
theorem mem_getElem {xs : List α} {i : Nat} {x : α} (h : xs[i]? = some x) : x ∈ xs := List.mem_of_getElem? h
end
end Ab
end
section
/-! parts: numbers joined by rows; the walk from part to part, and the least names, tell the same -/
namespace Ab
open PySem L2
/-! ### joined by rows -/
inductive Con (rows : List (List Int)) : Int → Int → Prop
  | refl (a : Int) : Con rows a a
  | step {r : List Int} {a b c : Int} : r ∈ rows → a ∈ r → b ∈ r → Con rows b c → Con rows a c
section
variable {rows : List (List Int)} {a b c : Int}
theorem Con.one {r : List Int} (h : r ∈ rows) (ha : a ∈ r) (hb : b ∈ r) : Con rows a b := .step h ha hb (.refl b)
theorem Con.trans (h : Con rows a b) (h2 : Con rows b c) : Con rows a c := by
  induction h with
  | refl => exact h2
  | step m x y _ ih => exact .step m x y (ih h2)
theorem Con.symm (h : Con rows a b) : Con rows b a := by
  induction h with
  | refl => exact .refl _
  | step m x y _ ih => exact ih.trans (.one m y x)
theorem Con.closed {S : Int → Prop} (hS : ∀ r ∈ rows, ∀ a ∈ r, ∀ b ∈ r, S a → S b) (h : Con rows a b) (ha : S a) : S b := by
  induction h with
  | refl => exact ha
  | step m x y _ ih => exact ih (hS _ m _ x _ y ha)
theorem Con.rng {m : Nat} (hr : ∀ r ∈ rows, ∀ x ∈ r, 0 ≤ x ∧ x < (m : Int)) (h : Con rows a b) (ha : 0 ≤ a ∧ a < (m : Int)) : 0 ≤ b ∧ b < (m : Int) :=
  h.closed (S := fun x => 0 ≤ x ∧ x < (m : Int)) (fun r hm x _ y hy _ => hr r hm y hy) ha
end
def LeastC (rows : List (List Int)) (f : Int) : Prop := ∀ g, 0 ≤ g → g < f → ¬ Con rows g f
open Classical in
noncomputable def compsL (rows : List (List Int)) (m k : Nat) : List (List Int) :=
  ((rg k).filter fun f => decide (LeastC rows f)).map fun f => (rg m).filter fun n => decide (Con rows f n)
/-! ### small things -/
theorem pt_take {α : Type} {xs : List α} {i : Nat} {x y : α} (h : xs[i]? = some x) : y ∈ xs.take (i + 1) ↔ y ∈ xs.take i ∨ y = x := by
  rw [List.take_add_one, h, List.mem_append]
  simp
theorem pt_all {α : Type} {xs : List α} {y : α} : y ∈ xs.take xs.length ↔ y ∈ xs := by rw [List.take_length]
theorem pt_len : ∀ {h : Nat} {l : List Int}, l.Nodup → (∀ x ∈ l, 0 ≤ x ∧ x < (h : Int)) → l.length ≤ h
  | 0, [], _, _ => Nat.le_refl _
  | 0, x :: _, _, k => by have := k x List.mem_cons_self; omega
  | h + 1, l, n, k => by
    have := pt_len (h := h) (n.erase (h : Int)) fun x m => by
      have a := k x (List.mem_of_mem_erase m)
      have b : x ≠ (h : Int) := fun e => (n.not_mem_erase (a := (h : Int))) (by rw [← e]; exact (by rw [← e] at m; exact m))
      omega
    by_cases m : (h : Int) ∈ l
    · rw [List.length_erase_of_mem m] at this; omega
    · rw [List.erase_of_not_mem m] at this; omega
theorem pt_dHas {κ ν : Type} [DecidableEq κ] (d : List (κ × ν)) (k : κ) : dHas d k = true ↔ k ∈ d.map (·.1) := by
  unfold dHas
  induction d with
  | nil => simp [dGet]
  | cons p r ih =>
    unfold dGet
    by_cases q : p.1 = k
    · simp [q]
    · rw [if_neg q, ih, List.map_cons, List.mem_cons]
      constructor
      · exact .inr
      · rintro (e | e)
        · exact absurd e.symm q
        · exact e
theorem pt_dput {κ ν : Type} [DecidableEq κ] (d : List (κ × ν)) (k k' : κ) (v : ν) : dHas (dPut d k v) k' = true ↔ k' = k ∨ dHas d k' = true := by
  unfold dHas
  rw [dGet_put]
  by_cases q : k' = k <;> simp [q]
theorem pt_dnd {κ ν : Type} [DecidableEq κ] (d : List (κ × ν)) (k : κ) (v : ν) (h : (d.map (·.1)).Nodup) : ((dPut d k v).map (·.1)).Nodup := by
  induction d with
  | nil => simp [dPut]
  | cons p r ih =>
    rw [List.map_cons, List.nodup_cons] at h
    unfold dPut
    by_cases q : p.1 = k
    · rw [if_pos q, List.map_cons, List.nodup_cons]; exact h
    · rw [if_neg q, List.map_cons, List.nodup_cons]
      refine ⟨fun m => ?_, ih h.2⟩
      rcases (pt_dput r k p.1 v).mp ((pt_dHas _ _).mpr m) with e | e
      · exact q e
      · exact h.1 ((pt_dHas _ _).mp e)
theorem dPutO_ok {κ ν : Type} [DecidableEq κ] {d : List (κ × ν)} {k : κ} {v : ν} (h : d.length < sizeLine) : dPutO d k v = some (dPut d k v) := by unfold dPutO; rw [if_pos h]
theorem ok_while {S : Type} {c : S → Option Bool} {body : S → Option S} (I : S → Prop) (μ : S → Nat) : ∀ (n : Nat) (s0 : S), I s0 → μ s0 < n → (∀ s, I s → ∃ b, c s = some b) → (∀ s, I s → c s = some true → Ok (body s) fun s' => I s' ∧ μ s' < μ s) → Ok (whileS c body n s0) fun s => I s ∧ c s = some false
  | 0, _, _, h, _, _ => by omega
  | n + 1, s0, h0, hm, hc, hb => by
    obtain ⟨b, eb⟩ := hc s0 h0
    unfold whileS
    rw [eb]
    cases b with
    | false => exact ⟨s0, rfl, h0, eb⟩
    | true =>
      obtain ⟨s1, e1, h1, h2⟩ := hb s0 h0 eb
      show Ok ((body s0).bind fun s' => whileS c body n s') _
      rw [e1]
      exact ok_while I μ n s1 h1 (by omega) hc hb
theorem rg_take {m i : Nat} (h : i ≤ m) : (rg m).take i = rg i := by
  unfold rg
  rw [← List.map_take, List.take_range, Nat.min_eq_left h]
theorem rg_sorted (m : Nat) : (rg m).Pairwise (· ≤ ·) := by
  unfold rg
  exact List.Pairwise.map _ (fun a b h => by show (a : Int) ≤ b; omega) (List.pairwise_lt_range (n := m))
/-! ### who stands beside whom -/
def nb (s : List (List Int)) (a y : Int) : Prop := 0 ≤ a ∧ y ∈ s.getD a.toNat []
theorem nApp_ok {s : List (List Int)} {k x : Int} {c : Nat} (h0 : 0 ≤ k ∧ k < (s.length : Int)) (hc : ∀ l ∈ s, l.length ≤ c) (hz : c < sizeLine) : Ok (nAppO s k x) fun v => v.length = s.length ∧ (∀ l ∈ v, l.length ≤ c + 1) ∧ ∀ a y, nb v a y ↔ nb s a y ∨ a = k ∧ y = x := by
  have hk : k.toNat < s.length := by omega
  unfold nAppO ixN
  rw [if_pos h0.1, if_pos (by omega)]
  refine ok_let ?_
  rw [List.getElem?_eq_getElem hk]
  refine ok_let ?_
  have hm := hc _ (List.getElem_mem hk)
  rw [if_pos (by omega)]
  refine ok_some ⟨by simp, fun l hl => ?_, fun a y => ?_⟩
  · rcases List.mem_or_eq_of_mem_set hl with m | e
    · have := hc l m; omega
    · rw [e, List.length_append, List.length_singleton]; omega
  · unfold nb
    by_cases ha : 0 ≤ a
    · by_cases e : a = k
      · subst e
        simp [h0.1, hk, List.getD_eq_getElem?_getD]
      · have : k.toNat ≠ a.toNat := by omega
        simp [ha, e, this, List.getD_eq_getElem?_getD]
    · have : a ≠ k := by omega
      simp [ha, this]
def nearPut (s : List (List Int)) (x : Int × Int) : Option (List (List Int)) := (nAppO s x.1 x.2).bind fun v28 => (nAppO v28 x.2 x.1).bind fun v29 => some v29
def nearRow (x4 : List Int) (s : List (List Int)) : Option (List (List Int)) := (forS (fun (x22 : Int × Int) (s27 : List (List Int)) => nearPut s27 x22) (List.zip x4 (cutG x4 (some (1 : Int)) none)) s).bind fun s27 => some s27
theorem nearPut_ok {s : List (List Int)} {p : Int × Int} {c : Nat} (h1 : 0 ≤ p.1 ∧ p.1 < (s.length : Int)) (h2 : 0 ≤ p.2 ∧ p.2 < (s.length : Int)) (hc : ∀ l ∈ s, l.length ≤ c) (hz : c + 1 < sizeLine) : Ok (nearPut s p) fun v => v.length = s.length ∧ (∀ l ∈ v, l.length ≤ c + 2) ∧ ∀ a y, nb v a y ↔ nb s a y ∨ p = (a, y) ∨ p = (y, a) := by
  unfold nearPut
  refine ok_bind (nApp_ok h1 hc (by omega)) fun v ⟨a1, a2, a3⟩ => ?_
  refine ok_bind (nApp_ok (by rw [a1]; exact h2) a2 (by omega)) fun w ⟨b1, b2, b3⟩ => ?_
  refine ok_some ⟨by omega, b2, fun a y => ?_⟩
  rw [b3, a3]
  obtain ⟨p1, p2⟩ := p
  simp only [Prod.mk.injEq]
  constructor
  · rintro ((q | ⟨rfl, rfl⟩) | ⟨rfl, rfl⟩)
    · exact .inl q
    · exact .inr (.inl ⟨rfl, rfl⟩)
    · exact .inr (.inr ⟨rfl, rfl⟩)
  · rintro (q | ⟨rfl, rfl⟩ | ⟨rfl, rfl⟩)
    · exact .inl (.inl q)
    · exact .inl (.inr ⟨rfl, rfl⟩)
    · exact .inr ⟨rfl, rfl⟩
theorem cut1 {α : Type} (xs : List α) (h : xs ≠ []) : cutG xs (some (1 : Int)) none = xs.drop 1 := by
  have hl : 1 ≤ xs.length := by cases xs with
    | nil => exact absurd rfl h
    | cons x xs => simp
  have e1 : HT.sIx xs.length 0 (some 1) = 1 := by unfold HT.sIx; simp; omega
  have e2 : HT.sIx xs.length xs.length none = xs.length := rfl
  unfold cutG
  rw [e1, e2, List.take_of_length_le]
  rw [List.length_drop]
  exact Nat.le_refl _
def adj (r : List Int) : List (Int × Int) := List.zip r (r.drop 1)
theorem adj_mem {r : List Int} {p : Int × Int} (h : p ∈ adj r) : p.1 ∈ r ∧ p.2 ∈ r := by
  obtain ⟨a, b⟩ := p
  have := List.of_mem_zip h
  exact ⟨this.1, List.mem_of_mem_drop this.2⟩
theorem adj_len (r : List Int) : (adj r).length ≤ r.length := by unfold adj; rw [List.length_zip]; omega
theorem nearRow_ok {s : List (List Int)} {r : List Int} {c : Nat} (hr : ∀ x ∈ r, 0 ≤ x ∧ x < (s.length : Int)) (hn : r ≠ []) (hc : ∀ l ∈ s, l.length ≤ c) (hz : c + 2 * r.length < sizeLine) : Ok (nearRow r s) fun v => v.length = s.length ∧ (∀ l ∈ v, l.length ≤ c + 2 * r.length) ∧ ∀ a y, nb v a y ↔ nb s a y ∨ ∃ p ∈ adj r, p = (a, y) ∨ p = (y, a) := by
  unfold nearRow
  rw [cut1 r hn]
  have hl := adj_len r
  show Ok ((forS (fun x22 s27 => nearPut s27 x22) (adj r) s).bind _) _
  refine ok_bind (ok_forS (fun i v => v.length = s.length ∧ (∀ l ∈ v, l.length ≤ c + 2 * i) ∧ ∀ a y, nb v a y ↔ nb s a y ∨ ∃ p ∈ (adj r).take i, p = (a, y) ∨ p = (y, a)) ⟨rfl, hc, fun a y => by simp⟩ fun i p v hx ⟨a1, a2, a3⟩ => ?_) fun v ⟨a1, a2, a3⟩ => ?_
  · have hi : i < (adj r).length := (List.getElem?_eq_some_iff.mp hx).1
    have hm := adj_mem (mem_getElem hx)
    refine (nearPut_ok (by rw [a1]; exact hr _ hm.1) (by rw [a1]; exact hr _ hm.2) a2 (by omega)).imp fun w ⟨b1, b2, b3⟩ => ⟨by omega, fun l hl => by have := b2 l hl; omega, fun a y => ?_⟩
    rw [b3, a3]
    constructor
    · rintro ((q | ⟨q, m, e⟩) | e)
      · exact .inl q
      · exact .inr ⟨q, (pt_take hx).mpr (.inl m), e⟩
      · exact .inr ⟨p, (pt_take hx).mpr (.inr rfl), e⟩
    · rintro (q | ⟨q, m, e⟩)
      · exact .inl (.inl q)
      · rcases (pt_take hx).mp m with m | rfl
        · exact .inl (.inr ⟨q, m, e⟩)
        · exact .inr e
  · exact ok_some ⟨a1, fun l hl => by have := a2 l hl; omega, fun a y => by rw [a3, List.take_length]⟩
theorem near_ok {m L : Nat} {rows : List (List Int)} (hr : ∀ r ∈ rows, ∀ x ∈ r, 0 ≤ x ∧ x < (m : Int)) (hn : ∀ r ∈ rows, r ≠ []) (hL : ∀ r ∈ rows, r.length ≤ L) (hz : 2 * L * rows.length < sizeLine) : Ok (forS nearRow rows (List.replicate m [])) fun v => v.length = m ∧ ∀ a y, nb v a y ↔ ∃ r ∈ rows, ∃ p ∈ adj r, p = (a, y) ∨ p = (y, a) := by
  refine (ok_forS (fun i v => v.length = m ∧ (∀ l ∈ v, l.length ≤ 2 * L * i) ∧ ∀ a y, nb v a y ↔ ∃ r ∈ rows.take i, ∃ p ∈ adj r, p = (a, y) ∨ p = (y, a)) ⟨by simp, fun l hl => by rw [(List.mem_replicate.mp hl).2]; simp, fun a y => ?_⟩ fun i r v hx ⟨a1, a2, a3⟩ => ?_).imp fun v ⟨a1, a2, a3⟩ => ⟨a1, fun a y => by rw [a3, List.take_length]⟩
  · unfold nb
    simp only [List.take_zero, List.not_mem_nil, false_and, exists_false, iff_false]
    rintro ⟨_, h⟩
    rw [List.getD_eq_getElem?_getD, List.getElem?_replicate] at h
    split at h <;> simp at h
  · have hi : i < rows.length := (List.getElem?_eq_some_iff.mp hx).1
    have hm := mem_getElem hx
    have hl := hL r hm
    have e1 : 2 * L * (i + 1) = 2 * L * i + 2 * L := by rw [Nat.mul_succ]
    have e2 : 2 * L * (i + 1) ≤ 2 * L * rows.length := Nat.mul_le_mul_left _ hi
    refine (nearRow_ok (c := 2 * L * i) (by rw [a1]; exact hr r hm) (hn r hm) a2 (by omega)).imp fun w ⟨b1, b2, b3⟩ => ⟨by omega, fun l hl => by have := b2 l hl; omega, fun a y => ?_⟩
    rw [b3, a3]
    constructor
    · rintro (⟨q, k, e⟩ | ⟨p, k, e⟩)
      · exact ⟨q, (pt_take hx).mpr (.inl k), e⟩
      · exact ⟨r, (pt_take hx).mpr (.inr rfl), p, k, e⟩
    · rintro ⟨q, k, e⟩
      rcases (pt_take hx).mp k with k | rfl
      · exact .inl ⟨q, k, e⟩
      · exact .inr e
/-- what is closed under standing beside is closed under the rows -/
theorem adj_all {S : Int → Prop} : ∀ {r : List Int} (_ : ∀ p ∈ adj r, S p.1 ↔ S p.2) (h : Int), r.head? = some h → ∀ a ∈ r, S a ↔ S h
  | [], _, _, e, _, _ => by cases e
  | [x], _, h, e, a, m => by cases e; rw [List.mem_singleton.mp m]
  | x :: y :: r, hp, h, e, a, m => by
    cases e
    have h1 : S x ↔ S y := hp (x, y) (by unfold adj; simp)
    have ih := adj_all (S := S) (r := y :: r) (fun p hq => hp p (by unfold adj at hq ⊢; simp only [List.drop_succ_cons, List.drop_zero, List.zip_cons_cons, List.mem_cons] at hq ⊢; exact .inr hq)) y rfl
    rcases List.mem_cons.mp m with rfl | m
    · exact Iff.rfl
    · exact (ih a m).trans h1.symm
theorem adj_row {S : Int → Prop} {r : List Int} (hp : ∀ p ∈ adj r, S p.1 ↔ S p.2) {a b : Int} (ha : a ∈ r) (hb : b ∈ r) (h : S a) : S b := by
  cases r with
  | nil => cases ha
  | cons x r => exact (adj_all hp x rfl b hb).mpr ((adj_all hp x rfl a ha).mp h)
end Ab
end
section
namespace Ab
open PySem L2
/-! ### the walk -/
abbrev Met := List (Int × Bool)
def bfsIn (x134 : Int) (s139 : Met × List Int) : Option (Met × List Int) := if (!dHas s139.1 x134) = true then ((dPutO s139.1 x134 true).bind fun v140 => (appO s139.2 x134).bind fun v141 => some (v140, v141)) else (some (s139.1, s139.2))
def bfsC (s131 : Met × List Int × Int) : Option Bool := some (decide (s131.2.2 < (s131.2.1.length : Int)))
def bfsB (s21 : List (List Int)) (s131 : Met × List Int × Int) : Option (Met × List Int × Int) := (atI s131.2.1 s131.2.2).bind fun v132 => (atI s21 v132).bind fun v133 => (forS bfsIn v133 (s131.1, s131.2.1)).bind fun s139 => (some ((s131.2.2 + (1 : Int)))).bind fun (at_142 : Int) => some (s139.1, s139.2, at_142)
/-- what the walk has met: m0 before, and part -/
structure Bf (m : Nat) (rows : List (List Int)) (k : Int) (m0 met : Met) (part : List Int) : Prop where
  nd : part.Nodup
  inn : ∀ x ∈ part, (0 ≤ x ∧ x < (m : Int)) ∧ Con rows k x
  k : k ∈ part
  ms : ∀ x, dHas met x = true ↔ dHas m0 x = true ∨ x ∈ part
  mn : (met.map (·.1)).Nodup
  mr : ∀ x, dHas met x = true → 0 ≤ x ∧ x < (m : Int)
section
variable {m : Nat} {rows : List (List Int)} {k : Int} {m0 met : Met} {part : List Int}
theorem Bf.len (b : Bf m rows k m0 met part) : part.length ≤ m := pt_len b.nd fun x h => (b.inn x h).1
theorem met_len {m : Nat} {met : Met} (mn : (met.map (·.1)).Nodup) (mr : ∀ x, dHas met x = true → 0 ≤ x ∧ x < (m : Int)) : met.length ≤ m := by
  have := pt_len mn fun x h => mr x ((pt_dHas _ _).mpr h)
  rwa [List.length_map] at this
theorem bfsIn_ok (hm : m < sizeLine) (h0 : ∀ x, Con rows k x → dHas m0 x = false) (b : Bf m rows k m0 met part) {y : Int} (hy : 0 ≤ y ∧ y < (m : Int)) (hc : Con rows k y) : Ok (bfsIn y (met, part)) fun s => Bf m rows k m0 s.1 s.2 ∧ y ∈ s.2 ∧ part <+: s.2 := by
  have l1 := b.len
  have l2 := met_len b.mn b.mr
  unfold bfsIn
  refine ok_if (fun hb => ?_) (fun hb => ?_)
  · have hb : dHas met y = false := by simpa using hb
    have ny : y ∉ part := fun q => by rw [(b.ms y).mpr (.inr q)] at hb; cases hb
    show Ok ((dPutO met y true).bind _) _
    refine ok_b (dPutO_ok (by omega)) (ok_b (appO_ok (by show part.length < _; omega)) (ok_some ⟨⟨?_, ?_, ?_, ?_, ?_, ?_⟩, by simp, by simp⟩))
    · rw [List.nodup_append]
      exact ⟨b.nd, by simp, fun a ha c hc e => ny (by simp at hc; rw [← hc, ← e]; exact ha)⟩
    · intro x hx
      rcases List.mem_append.mp hx with q | q
      · exact b.inn x q
      · rw [List.mem_singleton.mp q]; exact ⟨hy, hc⟩
    · exact List.mem_append_left _ b.k
    · intro x
      show dHas (dPut met y true) x = true ↔ _
      rw [pt_dput, b.ms, List.mem_append, List.mem_singleton]
      constructor
      · rintro (q | q | q)
        · exact .inr (.inr q)
        · exact .inl q
        · exact .inr (.inl q)
      · rintro (q | q | q)
        · exact .inr (.inl q)
        · exact .inr (.inr q)
        · exact .inl q
    · exact pt_dnd _ _ _ b.mn
    · intro x hx
      rcases (pt_dput _ _ _ _).mp hx with rfl | q
      · exact hy
      · exact b.mr x q
  · have hb : dHas met y = true := by simpa using hb
    refine ok_some ⟨b, ?_, List.prefix_rfl⟩
    rcases (b.ms y).mp hb with q | q
    · rw [h0 y hc] at q; cases q
    · exact q
theorem bfsFor_ok (hm : m < sizeLine) (h0 : ∀ x, Con rows k x → dHas m0 x = false) (b : Bf m rows k m0 met part) {ys : List Int} (hy : ∀ y ∈ ys, (0 ≤ y ∧ y < (m : Int)) ∧ Con rows k y) : Ok (forS bfsIn ys (met, part)) fun s => Bf m rows k m0 s.1 s.2 ∧ (∀ y ∈ ys, y ∈ s.2) ∧ part <+: s.2 := by
  refine (ok_forS (fun i s => Bf m rows k m0 s.1 s.2 ∧ (∀ y ∈ ys.take i, y ∈ s.2) ∧ part <+: s.2) ⟨b, by simp, List.prefix_rfl⟩ fun i y s hx ⟨a1, a2, a3⟩ => ?_).imp fun s ⟨a1, a2, a3⟩ => ⟨a1, fun y h => a2 y (by rw [List.take_length]; exact h), a3⟩
  obtain ⟨s1, s2⟩ := s
  have hm2 := hy y (mem_getElem hx)
  refine (bfsIn_ok hm h0 a1 hm2.1 hm2.2).imp fun s ⟨b1, b2, b3⟩ => ⟨b1, fun z hz => ?_, a3.trans b3⟩
  rcases (pt_take hx).mp hz with q | rfl
  · exact b3.subset (a2 z q)
  · exact b2
/-- the walk from k finds all that is joined to k -/
theorem bfs_ok {near : List (List Int)} (hm : m < 1000000) (hr : ∀ r ∈ rows, ∀ x ∈ r, 0 ≤ x ∧ x < (m : Int)) (hnl : near.length = m) (hnear : ∀ a y, nb near a y ↔ ∃ r ∈ rows, ∃ p ∈ adj r, p = (a, y) ∨ p = (y, a))
    (hk : 0 ≤ k ∧ k < (m : Int)) (mn : (m0.map (·.1)).Nodup) (mr : ∀ x, dHas m0 x = true → 0 ≤ x ∧ x < (m : Int)) (h0 : ∀ x, Con rows k x → dHas m0 x = false) :
    Ok (whileS bfsC (bfsB near) 1000000 (dPut m0 k true, [k], (0 : Int))) fun s => (∀ x, x ∈ s.2.1 ↔ (0 ≤ x ∧ x < (m : Int)) ∧ Con rows k x) ∧ s.2.1.Nodup ∧ (∀ x, dHas s.1 x = true ↔ dHas m0 x = true ∨ x ∈ s.2.1) ∧ (s.1.map (·.1)).Nodup := by
  have hz := sizeLine_eq
  have adjc : ∀ a y, nb near a y → Con rows a y := fun a y h => by
    obtain ⟨r, hm, p, hp, e⟩ := (hnear a y).mp h
    have q := adj_mem hp
    rcases e with e | e <;> subst e
    · exact .one hm q.1 q.2
    · exact .one hm q.2 q.1
  refine (ok_while (c := bfsC) (body := bfsB near) (fun s => Bf m rows k m0 s.1 s.2.1 ∧ 0 ≤ s.2.2 ∧ s.2.2 ≤ (s.2.1.length : Int) ∧ ∀ j : Nat, (j : Int) < s.2.2 → ∀ x, s.2.1[j]? = some x → ∀ y, nb near x y → y ∈ s.2.1) (fun s => m - s.2.2.toNat) 1000000 _ ?_ (by show m - _ < _; omega) (fun s _ => ⟨_, rfl⟩) fun s ⟨b, a1, a2, a3⟩ hc => ?_).imp fun s ⟨⟨b, a1, a2, a3⟩, hc⟩ => ?_
  · refine ⟨⟨by simp, fun x hx => by rw [List.mem_singleton.mp hx]; exact ⟨hk, .refl _⟩, by simp, fun x => ?_, pt_dnd _ _ _ mn, fun x hx => ?_⟩, Int.le_refl _, by simp, fun j h => by have h : (j : Int) < 0 := h; omega⟩
    · show dHas (dPut m0 k true) x = true ↔ _
      rw [pt_dput, List.mem_singleton]
      exact ⟨fun q => q.symm, fun q => q.symm⟩
    · rcases (pt_dput _ _ _ _).mp hx with rfl | q
      · exact hk
      · exact mr x q
  · obtain ⟨met, part, at'⟩ := s
    have hc : some (decide (at' < (part.length : Int))) = some true := hc
    simp only at b a1 a2 a3 ⊢
    simp only [Option.some.injEq, decide_eq_true_eq] at hc
    have hl := b.len
    have hi : at'.toNat < part.length := by omega
    obtain ⟨z, hx⟩ : ∃ z, part[at'.toNat]? = some z := ⟨_, List.getElem?_eq_getElem hi⟩
    have hxm := b.inn _ (mem_getElem hx)
    have hx2 : near[z.toNat]? = some (near.getD z.toNat []) := by
      rw [List.getD_eq_getElem?_getD]
      rw [List.getElem?_eq_getElem (by omega)]; rfl
    unfold bfsB
    simp only
    refine ok_b (atI_get0 a1 hx) (ok_b (atI_get0 hxm.1.1 hx2) ?_)
    have hys : ∀ y ∈ near.getD z.toNat [], nb near z y := fun y h => ⟨hxm.1.1, h⟩
    refine ok_bind (bfsFor_ok (by omega) h0 b fun y hy => ?_) fun s ⟨b1, b2, b3⟩ => ?_
    · have c := hxm.2.trans (adjc _ _ (hys y hy))
      exact ⟨c.rng hr hk, c⟩
    · refine ok_let (ok_some ⟨⟨b1, by show (0 : Int) ≤ at' + 1; omega, ?_, fun j hj x hx3 y hy => ?_⟩, ?_⟩)
      · show at' + 1 ≤ (s.2.length : Int)
        have := b3.length_le
        omega
      · simp only at hj hx3 ⊢
        by_cases e : (j : Int) = at'
        · have ej : at'.toNat = j := by omega
          rw [ej] at hx hi
          have e2 : s.2[j]? = part[j]? := by
            obtain ⟨t, ht⟩ := b3
            rw [← ht, List.getElem?_append_left hi]
          rw [e2, hx] at hx3
          have e3 : z = x := Option.some.inj hx3
          subst e3
          exact b2 y hy.2
        · have hj2 : (j : Int) < at' := by omega
          have e2 : s.2[j]? = part[j]? := by
            obtain ⟨t, ht⟩ := b3
            rw [← ht, List.getElem?_append_left (by omega)]
          rw [e2] at hx3
          exact b3.subset (a3 j hj2 x hx3 y hy)
      · show m - (at' + 1).toNat < m - at'.toNat
        omega
  · obtain ⟨met, part, at'⟩ := s
    have hc : some (decide (at' < (part.length : Int))) = some false := hc
    simp only at b a1 a2 a3 ⊢
    simp only [Option.some.injEq, decide_eq_false_iff_not, Int.not_lt] at hc
    have clo : ∀ x ∈ part, ∀ y, nb near x y → y ∈ part := fun x hx y hy => by
      obtain ⟨j, hj, e⟩ := List.getElem_of_mem hx
      exact a3 j (by omega) x (by rw [List.getElem?_eq_getElem hj, e]) y hy
    refine ⟨fun x => ⟨b.inn x, fun ⟨_, c⟩ => ?_⟩, b.nd, b.ms, b.mn⟩
    refine c.closed (S := fun x => x ∈ part) (fun r hm a ha y hy h => ?_) b.k
    refine adj_row (S := fun x => x ∈ part) (fun p hp => ?_) ha hy h
    have q := adj_mem hp
    exact ⟨fun h => clo _ h _ ((hnear _ _).mpr ⟨r, hm, p, hp, .inl rfl⟩), fun h => clo _ h _ ((hnear _ _).mpr ⟨r, hm, p, hp, .inr rfl⟩)⟩
end
/-! ### all parts -/
def partsOut (s21 : List (List Int)) (x31 : Int) (s106 : List (List Int) × Met) : Option (List (List Int) × Met) := if (dHas s106.2 x31) = true then (some (s106.1, s106.2)) else ((dPutO s106.2 x31 true).bind fun v107 => (some ([x31])).bind fun (part_108 : List Int) => (whileS bfsC (bfsB s21) 1000000 (v107, part_108, (0 : Int))).bind fun s131 => (appO s106.1 (sortI s131.2.1)).bind fun v143 => some (v143, s131.1))
def partsOf (a0 : Int) (a1 : List (List Int)) : Option (List (List Int)) :=
  (rgO a0).bind fun r1 => (compO r1 (fun (x2 : Int) => true) (fun (x2 : Int) => ([] : List Int))).bind fun v3 => (forS nearRow a1 v3).bind fun s21 => (rgO a0).bind fun r30 => (forS (partsOut s21) r30 (([] : List (List Int)), ([] : Met))).bind fun s106 => some s106.1
theorem sort_class {m : Nat} {P : Int → Prop} [DecidablePred P] {l : List Int} (h : ∀ x, x ∈ l ↔ (0 ≤ x ∧ x < (m : Int)) ∧ P x) (nd : l.Nodup) : sortI l = (rg m).filter fun n => decide (P n) := by
  refine (sortI_uniq ((rg_sorted m).filter _) ?_).symm
  refine (List.perm_ext_iff_of_nodup ((rg_nodup m).filter _) nd).mpr fun x => ?_
  rw [List.mem_filter, mem_rg, h]
  simp
open Classical in
theorem partsOf_ok {m L : Nat} {rows : List (List Int)} (hm : m < 1000000) (hr : ∀ r ∈ rows, ∀ x ∈ r, 0 ≤ x ∧ x < (m : Int)) (hn : ∀ r ∈ rows, r ≠ []) (hL : ∀ r ∈ rows, r.length ≤ L) (hz : 2 * L * rows.length < sizeLine) : partsOf m rows = some (compsL rows m m) := by
  have hs := sizeLine_eq
  refine ok_is ?_
  unfold partsOf
  refine ok_b (rgO_ok (by omega)) (ok_b (compO_all (by rw [rg_len]; omega)) ?_)
  have e1 : (rg m).map (fun _ => ([] : List Int)) = List.replicate m [] := by rw [List.map_const', rg_len]
  rw [e1]
  refine ok_bind (near_ok hr hn hL hz) fun near ⟨n1, n2⟩ => ok_b (rgO_ok (by omega)) ?_
  refine ok_bind (ok_forS (fun i s => s.1 = compsL rows m i ∧ (∀ x, dHas s.2 x = true ↔ (0 ≤ x ∧ x < (m : Int)) ∧ ∃ g, (0 ≤ g ∧ g < (i : Int)) ∧ Con rows g x) ∧ (s.2.map (·.1)).Nodup) ⟨rfl, fun x => ?_, by simp⟩ fun i x s hx ⟨a1, a2, a3⟩ => ?_) fun s ⟨a1, _, _⟩ => ok_some (by rw [a1, rg_len])
  · show (dGet [] x).isSome = true ↔ _
    simp only [dGet, Option.isSome_none, Bool.false_eq_true, false_iff]
    rintro ⟨_, g, h, _⟩; omega
  · obtain ⟨rfl, hi⟩ := rg_get hx
    have hc : compsL rows m (i + 1) = compsL rows m i ++ (if LeastC rows i then [(rg m).filter fun n => decide (Con rows i n)] else []) := by
      unfold compsL
      rw [rg_succ, List.filter_append, List.map_append]
      congr 1
      by_cases q : LeastC rows i <;> simp [q]
    have lst : dHas s.2 (i : Int) = false ↔ LeastC rows i := by
      rw [← Bool.not_eq_true, a2]
      constructor
      · intro h g h0 h1 c
        exact h ⟨by omega, g, ⟨h0, h1⟩, c⟩
      · rintro h ⟨_, g, h0, c⟩
        exact h g h0.1 h0.2 c
    unfold partsOut
    refine ok_if (fun hb => ?_) (fun hb => ?_)
    · have nl : ¬ LeastC rows i := fun q => by rw [lst.mpr q] at hb; cases hb
      refine ok_some ⟨by rw [hc, if_neg nl, List.append_nil]; exact a1, fun x => (a2 x).trans ⟨?_, ?_⟩, a3⟩
      · rintro ⟨h, g, h0, c⟩
        exact ⟨h, g, by omega, c⟩
      · rintro ⟨h, g, h0, c⟩
        by_cases e : g = i
        · subst e
          obtain ⟨_, g2, h2, c2⟩ := (a2 _).mp hb
          exact ⟨h, g2, h2, c2.trans c⟩
        · exact ⟨h, g, by omega, c⟩
    · have hl := lst.mp hb
      have ml := met_len a3 (m := m) fun x h => ((a2 x).mp h).1
      refine ok_b (dPutO_ok (by omega)) (ok_let ?_)
      refine ok_bind (bfs_ok hm hr n1 n2 (by omega) a3 (fun x h => ((a2 x).mp h).1) fun x c => ?_) fun w ⟨b1, b2, b3, b4⟩ => ?_
      · rw [← Bool.not_eq_true, a2]
        rintro ⟨_, g, h0, c2⟩
        exact hl g h0.1 h0.2 (c2.trans c.symm)
      · have lc : (compsL rows m i).length ≤ i := by
          unfold compsL
          rw [List.length_map]
          refine Nat.le_trans (List.length_filter_le _ _) ?_
          rw [rg_len]; exact Nat.le_refl _
        refine ok_b (appO_ok (by rw [a1]; omega)) (ok_some ⟨?_, fun x => ?_, b4⟩)
        · rw [hc, if_pos hl, a1, sort_class b1 b2]
        · show dHas w.1 x = true ↔ _
          rw [b3, a2, b1]
          constructor
          · rintro (⟨h, g, h0, c⟩ | ⟨h, c⟩)
            · exact ⟨h, g, by omega, c⟩
            · exact ⟨h, i, by omega, c⟩
          · rintro ⟨h, g, h0, c⟩
            by_cases e : g = i
            · subst e; exact .inr ⟨h, c⟩
            · exact .inl ⟨h, g, by omega, c⟩
end Ab
end
section
namespace Ab
open PySem L2
/-! ### the least names -/
def nmOf (ns : List Int) (x : Int) : Int := ns.getD x.toNat 0
abbrev NB := List Int × Bool
def grpIn (v108 : Int) (x109 : Int) (s114 : NB) : Option NB := ((atI s114.1 x109).bind fun v115 => if (decide (v108 < v115)) = true then ((setO s114.1 x109 v108).bind fun v116 => some (v116, true)) else (some (s114.1, s114.2)))
def grpOut {κ : Type} (x79 : κ × List Int) (s104 : NB) : Option NB := ((compP x79.2 (fun (x105 : Int) => some true) (fun (x105 : Int) => (atI s104.1 x105).bind fun v106 => some v106)).bind fun v107 => (minI v107).bind fun v108 => (forS (grpIn v108) x79.2 (s104.1, s104.2)).bind fun s114 => some (s114.1, s114.2))
def namesB {κ : Type} (a1 : List (κ × List Int)) (s78 : NB) : Option NB := ((forS grpOut a1 (s78.1, false)).bind fun s104 => some (s104.1, s104.2))
def namesOut (a0 : Int) (ns : List Int) (x118 : Int) (s131 : List (List Int)) : Option (List (List Int)) := ((atI ns x118).bind fun v132 => if (decide (v132 = x118)) = true then ((rgO a0).bind fun r133 => (compP r133 (fun (x134 : Int) => (atI ns x134).bind fun v135 => some (decide (v135 = x118))) (fun (x134 : Int) => some x134)).bind fun v136 => (appO s131 v136).bind fun v137 => some v137) else (some s131))
def lawParts {κ : Type} (a0 : Int) (a1 : List (κ × List Int)) : Option (List (List Int)) :=
  (rgLO a0).bind fun v1 => (whileS (fun (s78 : NB) => some s78.2) (namesB a1) 1000000 (v1, true)).bind fun s78 => (rgO a0).bind fun r117 => (forS (namesOut a0 s78.1) r117 ([] : List (List Int))).bind fun s131 => some s131
/-- each has the name of one that is joined to it, none above it -/
structure Nm (m : Nat) (rows : List (List Int)) (ns : List Int) : Prop where
  len : ns.length = m
  ok : ∀ x : Int, 0 ≤ x → x < (m : Int) → 0 ≤ nmOf ns x ∧ nmOf ns x ≤ x ∧ Con rows x (nmOf ns x)
def muN (ns : List Int) : Nat := (ns.map Int.toNat).sum
theorem muN_set : ∀ {ns : List Int} {i : Nat} {u v : Int}, ns[i]? = some u → 0 ≤ v → v < u → muN (ns.set i v) < muN ns
  | [], _, _, _, h, _, _ => by simp at h
  | a :: ns, 0, u, v, h, h0, h1 => by
    simp at h; subst h
    simp only [muN, List.set_cons_zero, List.map_cons, List.sum_cons]
    omega
  | a :: ns, i + 1, u, v, h, h0, h1 => by
    have := muN_set (ns := ns) (i := i) (by simpa using h) h0 h1
    simp only [muN, List.set_cons_succ, List.map_cons, List.sum_cons] at this ⊢
    omega
section
variable {m : Nat} {rows : List (List Int)} {ns : List Int}
theorem Nm.at (n : Nm m rows ns) {x : Int} (h0 : 0 ≤ x) (h1 : x < (m : Int)) : atI ns x = some (nmOf ns x) := atI_ok h0 (by rw [n.len]; exact h1)
theorem Nm.get (n : Nm m rows ns) {x : Int} (h0 : 0 ≤ x) (h1 : x < (m : Int)) : ns[x.toNat]? = some (nmOf ns x) := by
  unfold nmOf
  have : x.toNat < ns.length := by rw [n.len]; omega
  rw [List.getD_eq_getElem?_getD, List.getElem?_eq_getElem this]; rfl
theorem nmOf_set {ns : List Int} {x y v : Int} (hx : 0 ≤ x) (hx2 : x < (ns.length : Int)) (hy : 0 ≤ y) : nmOf (ns.set x.toNat v) y = if y = x then v else nmOf ns y := by
  unfold nmOf
  rw [List.getD_eq_getElem?_getD, List.getElem?_set]
  by_cases e : y = x
  · subst e
    rw [if_pos rfl, if_pos rfl, if_pos (by omega)]; rfl
  · rw [if_neg (by omega), if_neg e, List.getD_eq_getElem?_getD]
theorem Nm.set (n : Nm m rows ns) {x v : Int} (h0 : 0 ≤ x) (h1 : x < (m : Int)) (hv : 0 ≤ v) (hl : v ≤ x) (hc : Con rows x v) : Nm m rows (ns.set x.toNat v) := by
  refine ⟨by rw [List.length_set]; exact n.len, fun y hy hy2 => ?_⟩
  rw [nmOf_set h0 (by rw [n.len]; exact h1) hy]
  by_cases e : y = x
  · subst e; rw [if_pos rfl]; exact ⟨hv, hl, hc⟩
  · rw [if_neg e]; exact n.ok y hy hy2
/-- in a turn through the groups: nothing has changed yet and all rows so far are level, or less is left -/
def Turn_ (n0 : List Int) (done : List (List Int)) (s : NB) : Prop := (s.2 = false → s.1 = n0 ∧ ∀ r ∈ done, ∀ a ∈ r, ∀ b ∈ r, nmOf n0 a = nmOf n0 b) ∧ (s.2 = true → muN s.1 < muN n0)
theorem grpOut_ok {κ : Type} {n0 : List Int} {done : List (List Int)} {p : κ × List Int} {s : NB} (hm : m < sizeLine) (hr : ∀ x ∈ p.2, 0 ≤ x ∧ x < (m : Int)) (hp : p.2 ∈ rows) (hne : p.2 ≠ []) (hl : p.2.length ≤ sizeLine) (n : Nm m rows s.1) (t : Turn_ n0 done s) :
    Ok (grpOut p s) fun s' => Nm m rows s'.1 ∧ Turn_ n0 (done ++ [p.2]) s' := by
  obtain ⟨key, r⟩ := p
  simp only at hr hp hne hl
  unfold grpOut
  simp only
  refine ok_b (compP_map (nmOf s.1) hl fun x hx => by rw [n.at (hr x hx).1 (hr x hx).2]; rfl) ?_
  obtain ⟨x0, r', er⟩ : ∃ x0 r', r = x0 :: r' := by cases r with
    | nil => exact absurd rfl hne
    | cons a b => exact ⟨a, b, rfl⟩
  have hmn : minI (r.map (nmOf s.1)) = some ((r'.map (nmOf s.1)).foldl min (nmOf s.1 x0)) := by rw [er]; rfl
  obtain ⟨q1, q2⟩ := minI_spec (r'.map (nmOf s.1)) (nmOf s.1 x0)
  generalize (r'.map (nmOf s.1)).foldl min (nmOf s.1 x0) = least at hmn q1 q2
  have q1 : least ∈ r.map (nmOf s.1) := by rw [er]; exact q1
  have q2 : ∀ y ∈ r.map (nmOf s.1), least ≤ y := by rw [er]; exact q2
  refine ok_b hmn ?_
  obtain ⟨y0, hy0, ey0⟩ := List.mem_map.mp q1
  have l0 : 0 ≤ least := by rw [← ey0]; exact (n.ok y0 (hr y0 hy0).1 (hr y0 hy0).2).1
  have lc : ∀ x ∈ r, Con rows x least := fun x hx => (Con.one hp hx hy0).trans (by rw [← ey0]; exact (n.ok y0 (hr y0 hy0).1 (hr y0 hy0).2).2.2)
  refine ok_bind (ok_forS (fun i v => Nm m rows v.1 ∧ (∀ x ∈ r, least ≤ nmOf v.1 x) ∧ (v.2 = false → v.1 = n0 ∧ (∀ r ∈ done, ∀ a ∈ r, ∀ b ∈ r, nmOf n0 a = nmOf n0 b) ∧ ∀ x ∈ r.take i, nmOf n0 x = least) ∧ (v.2 = true → muN v.1 < muN n0)) ⟨n, fun x hx => q2 _ (List.mem_map_of_mem hx), fun e => ⟨(t.1 e).1, (t.1 e).2, by simp⟩, t.2⟩ fun i x v hx ⟨a1, a2, a3, a4⟩ => ?_) fun v ⟨a1, a2, a3, a4⟩ => ?_
  · have hm1 := mem_getElem hx
    have hxr := hr x hm1
    unfold grpIn
    refine ok_b (a1.at hxr.1 hxr.2) ?_
    refine ok_if (fun hb => ?_) (fun hb => ?_)
    · have hb : least < nmOf v.1 x := by simpa using hb
      have hxo := a1.ok x hxr.1 hxr.2
      refine ok_b (setO_ok hxr.1 (by rw [a1.len]; exact hxr.2)) (ok_some ⟨a1.set hxr.1 hxr.2 l0 (by omega) (lc x hm1), fun y hy => ?_, (fun e => by cases e), fun _ => ?_⟩)
      · have hyr := hr y hy
        show least ≤ nmOf (v.1.set x.toNat least) y
        rw [nmOf_set hxr.1 (by rw [a1.len]; exact hxr.2) hyr.1]
        split
        · exact Int.le_refl _
        · exact a2 y hy
      · have := muN_set (a1.get hxr.1 hxr.2) l0 hb
        show muN (v.1.set x.toNat least) < _
        cases eb : v.2 with
        | false => rw [(a3 eb).1] at this ⊢; exact this
        | true => have := a4 eb; omega
    · have hb : nmOf v.1 x ≤ least := by simpa using hb
      refine ok_some ⟨a1, a2, fun e => ?_, a4⟩
      obtain ⟨c1, c2, c3⟩ := a3 e
      refine ⟨c1, c2, fun y hy => ?_⟩
      rcases (pt_take hx).mp hy with q | rfl
      · exact c3 y q
      · have := a2 y hm1
        have c1 : v.1 = n0 := c1
        rw [c1] at hb this
        omega
  · refine ok_some ⟨a1, ⟨fun e => ?_, a4⟩⟩
    obtain ⟨c1, c2, c3⟩ := a3 e
    rw [List.take_length] at c3
    refine ⟨c1, fun r2 h2 a ha b hb => ?_⟩
    rcases List.mem_append.mp h2 with h2 | h2
    · exact c2 r2 h2 a ha b hb
    · rw [List.mem_singleton.mp h2] at ha hb
      rw [c3 a ha, c3 b hb]
theorem namesB_ok {κ : Type} {g : List (κ × List Int)} {s : NB} (hm : m < sizeLine) (hg : ∀ p ∈ g, (∀ x ∈ p.2, 0 ≤ x ∧ x < (m : Int)) ∧ p.2 ≠ [] ∧ p.2.length ≤ sizeLine) (n : Nm m (g.map fun p => p.2) s.1) :
    Ok (namesB g s) fun s' => Nm m (g.map fun p => p.2) s'.1 ∧ Turn_ s.1 (g.map fun p => p.2) s' := by
  unfold namesB
  refine ok_bind (ok_forS (fun i v => Nm m (g.map fun p => p.2) v.1 ∧ Turn_ s.1 ((g.map fun p => p.2).take i) v) ⟨n, fun _ => ⟨rfl, by simp⟩, fun e => by cases e⟩ fun i p v hx ⟨a1, a2⟩ => ?_) fun v ⟨a1, a2⟩ => ok_some ⟨a1, by
    have e : ((g.map fun p => p.2).take g.length) = g.map fun p => p.2 := by rw [List.take_of_length_le]; rw [List.length_map]; exact Nat.le_refl _
    rw [e] at a2; exact a2⟩
  have hp := mem_getElem hx
  obtain ⟨h1, h2, h3⟩ := hg p hp
  refine (grpOut_ok hm h1 (List.mem_map_of_mem hp) h2 h3 a1 a2).imp fun v' ⟨b1, b2⟩ => ⟨b1, ?_⟩
  have : ((g.map fun p => p.2).take (i + 1)) = ((g.map fun p => p.2).take i) ++ [p.2] := by
    rw [List.take_add_one, List.getElem?_map, hx]; rfl
  rw [this]; exact b2
theorem rg_sum : ∀ m : Nat, muN (rg m) ≤ m * m
  | 0 => by simp [rg, muN]
  | m + 1 => by
    have := rg_sum m
    have e : (m + 1) * (m + 1) = m * m + m + m + 1 := by simp [Nat.mul_add, Nat.add_mul]; omega
    rw [rg_succ]
    unfold muN at this ⊢
    rw [List.map_append, List.sum_append]
    simp only [List.map_cons, List.map_nil, List.sum_cons, List.sum_nil]
    omega
theorem nmOf_rg {m : Nat} {x : Int} (h0 : 0 ≤ x) (h1 : x < (m : Int)) : nmOf (rg m) x = x := by
  unfold nmOf
  rw [List.getD_eq_getElem?_getD, rg_at (by omega)]
  show ((x.toNat : Nat) : Int) = x
  omega
open Classical in
theorem lawParts_ok {κ : Type} {g : List (κ × List Int)} (hm : m ≤ 900) (hg : ∀ p ∈ g, (∀ x ∈ p.2, 0 ≤ x ∧ x < (m : Int)) ∧ p.2 ≠ [] ∧ p.2.length ≤ sizeLine) : lawParts m g = some (compsL (g.map fun p => p.2) m m) := by
  have hs := sizeLine_eq
  refine ok_is ?_
  unfold lawParts
  have e1 : rgLO (m : Int) = some (rg m) := by
    unfold rgLO rg
    rw [if_pos (by omega)]
    simp
  refine ok_b e1 ?_
  generalize hrows : (g.map fun p => p.2) = rows
  have hq : m * m ≤ 900 * 900 := Nat.mul_le_mul hm hm
  have hsum := rg_sum m
  refine ok_bind (ok_while (fun s : NB => Nm m rows s.1 ∧ (s.2 = false → ∀ r ∈ rows, ∀ a ∈ r, ∀ b ∈ r, nmOf s.1 a = nmOf s.1 b)) (fun s => if s.2 = true then muN s.1 + 1 else 0) 1000000 (rg m, true) ⟨⟨rg_len m, fun x h0 h1 => ?_⟩, fun e => by cases e⟩ (by show muN (rg m) + 1 < _; omega) (fun s _ => ⟨_, rfl⟩) fun s ⟨a1, a2⟩ hc => ?_) fun s ⟨⟨a1, a2⟩, hc⟩ => ?_
  · show 0 ≤ nmOf (rg m) x ∧ nmOf (rg m) x ≤ x ∧ Con rows x (nmOf (rg m) x)
    rw [nmOf_rg h0 h1]
    exact ⟨h0, Int.le_refl _, .refl _⟩
  · have hc : s.2 = true := by simpa using hc
    rw [hc]
    refine (namesB_ok (s := s) (g := g) (by omega) hg (by rw [hrows]; exact a1)).imp fun v ⟨b1, b2⟩ => ?_
    rw [hrows] at b1 b2
    refine ⟨⟨b1, fun e => by rw [(b2.1 e).1]; exact (b2.1 e).2⟩, ?_⟩
    show (if v.2 = true then muN v.1 + 1 else 0) < muN s.1 + 1
    cases ev : v.2 with
    | false => simp
    | true => have := b2.2 ev; simp; omega
  · have hc : s.2 = false := by simpa using hc
    have lev := a2 hc
    have conl : ∀ {a b : Int}, Con rows a b → nmOf s.1 a = nmOf s.1 b := fun {a b} c => by
      have := c.closed (S := fun x => nmOf s.1 x = nmOf s.1 a) (fun r hr x hx y hy h => (lev r hr y hy x hx).trans h) rfl
      exact this.symm
    have lst : ∀ x : Int, 0 ≤ x → x < (m : Int) → (nmOf s.1 x = x ↔ LeastC rows x) := fun x h0 h1 => by
      have hx := a1.ok x h0 h1
      constructor
      · intro e g hg0 hg1 c
        have e2 := conl c
        have := (a1.ok g hg0 (by omega)).2.1
        omega
      · intro l
        by_cases e : nmOf s.1 x = x
        · exact e
        · exact absurd hx.2.2.symm (l _ hx.1 (by omega))
    refine ok_b (rgO_ok (by omega)) ?_
    refine ok_bind (ok_forS (fun i v => v = compsL rows m i) rfl fun i x v hx hv => ?_) fun v hv => ok_some (by rw [hv, rg_len])
    obtain ⟨rfl, hi⟩ := rg_get hx
    have hc2 : compsL rows m (i + 1) = compsL rows m i ++ (if LeastC rows i then [(rg m).filter fun n => decide (Con rows i n)] else []) := by
      unfold compsL
      rw [rg_succ, List.filter_append, List.map_append]
      congr 1
      by_cases q : LeastC rows i <;> simp [q]
    unfold namesOut
    refine ok_b (a1.at (x := (i : Int)) (by omega) (by omega)) ?_
    have li := lst i (by omega) (by omega)
    refine ok_if (fun hb => ?_) (fun hb => ?_)
    · have hb : nmOf s.1 i = i := by simpa using hb
      refine ok_b (rgO_ok (by omega)) ?_
      refine ok_b (compP_ok (fun x => decide (Con rows i x)) (fun x => x) (by rw [rg_len]; omega) fun x hx => ?_) ?_
      · have hx := mem_rg.mp hx
        refine ⟨?_, fun _ => rfl⟩
        rw [a1.at hx.1 hx.2]
        show some (decide (nmOf s.1 x = i)) = _
        congr 1
        refine decide_eq_decide.mpr ⟨fun e => ?_, fun c => ?_⟩
        · have := (a1.ok x hx.1 hx.2).2.2
          rw [e] at this
          exact this.symm
        · rw [← conl c, hb]
      · have lc : (compsL rows m i).length ≤ i := by
          unfold compsL
          rw [List.length_map]
          refine Nat.le_trans (List.length_filter_le _ _) ?_
          rw [rg_len]; exact Nat.le_refl _
        refine ok_b (appO_ok (by rw [hv]; omega)) (ok_some ?_)
        rw [hc2, if_pos (li.mp hb), hv, List.map_id']
    · have hb : nmOf s.1 i ≠ i := by simpa using hb
      refine ok_some ?_
      rw [hc2, if_neg (fun q => hb (li.mpr q)), List.append_nil]
      exact hv
end
end Ab
end
section
namespace Ab
open PySem L2
/-! ### loops over told lists -/
theorem forS_map {α β S : Type} {body : β → S → Option S} (f : α → β) : ∀ (xs : List α) (s : S), forS body (xs.map f) s = forS (fun x s => body (f x) s) xs s
  | [], _ => rfl
  | x :: xs, s => by
    rw [List.map_cons, forS, forS]
    congr 1; funext s'
    exact forS_map f xs s'
theorem forS_congr {α S : Type} {body body' : α → S → Option S} : ∀ (xs : List α) (s : S), (∀ x ∈ xs, ∀ s, body x s = body' x s) → forS body xs s = forS body' xs s
  | [], _, _ => rfl
  | x :: xs, s, h => by
    rw [forS, forS, h x List.mem_cons_self]
    congr 1; funext s'
    exact forS_congr xs s' fun y hy => h y (List.mem_cons_of_mem _ hy)
theorem enumL_map {α β : Type} (f : α → β) (xs : List α) : enumL (xs.map f) = (enumL xs).map fun p => (p.1, f p.2) := by
  unfold enumL
  rw [List.length_map, List.zip_map_right]
  rfl
/-! ### numbers by what is seen -/
section
variable {κ : Type} [DecidableEq κ]
def byV (a0 : List (List κ)) : Option (List (κ × List Int)) :=
  (forS (fun (x1 : Int × List κ) (s12 : List (κ × List Int)) => ((forS (fun (x13 : κ) (s16 : List (κ × List Int)) => ((dSda s16 x13 x1.1).bind fun v17 => some v17)) x1.2 s12).bind fun s16 => some s16)) (enumL a0) ([] : List (κ × List Int))).bind fun s12 => some s12
structure Dv (d : List (κ × List Int)) (c : Nat) (M : κ → Int → Prop) : Prop where
  nd : (d.map (·.1)).Nodup
  len : d.length ≤ c
  row : ∀ k l, dGet d k = some l → l ≠ [] ∧ l.length ≤ c
  mem : ∀ k x, x ∈ (dGet d k).getD [] ↔ M k x
theorem Dv.nil : Dv ([] : List (κ × List Int)) 0 fun _ _ => False := ⟨by simp, by simp, fun k l h => by simp [dGet] at h, fun k x => by simp [dGet]⟩
theorem Dv.imp {d : List (κ × List Int)} {c c' : Nat} {M M' : κ → Int → Prop} (h : Dv d c M) (hc : c ≤ c') (i : ∀ k x, M k x ↔ M' k x) : Dv d c' M' :=
  ⟨h.nd, Nat.le_trans h.len hc, fun k l e => ⟨(h.row k l e).1, Nat.le_trans (h.row k l e).2 hc⟩, fun k x => (h.mem k x).trans (i k x)⟩
theorem sda_ok {d : List (κ × List Int)} {c : Nat} {M : κ → Int → Prop} (h : Dv d c M) (hc : c < sizeLine) (k : κ) (x : Int) : Ok (dSda d k x) fun d' => Dv d' (c + 1) fun k' x' => M k' x' ∨ k' = k ∧ x' = x := by
  have key : ∀ l : List Int, (dGet d k).getD [] = l → l.length ≤ c → Dv (dPut d k (l ++ [x])) (c + 1) fun k' x' => M k' x' ∨ k' = k ∧ x' = x := fun l el hl => by
    refine ⟨pt_dnd _ _ _ h.nd, Nat.le_trans (dPut_len _ _ _) (Nat.succ_le_succ h.len), fun k' l' e => ?_, fun k' x' => ?_⟩
    · rw [dGet_put] at e
      by_cases q : k' = k
      · rw [if_pos q] at e
        cases e
        exact ⟨by simp, by rw [List.length_append, List.length_singleton]; omega⟩
      · rw [if_neg q] at e
        have := h.row k' l' e
        exact ⟨this.1, by omega⟩
    · rw [dGet_put]
      by_cases q : k' = k
      · subst q
        rw [if_pos rfl, Option.getD_some, List.mem_append, List.mem_singleton, ← el, h.mem]
        simp
      · rw [if_neg q, h.mem]
        simp [q]
  unfold dSda
  cases e : dGet d k with
  | none =>
    simp only
    have := h.len
    rw [if_pos (by omega)]
    exact ok_some (key [] (by rw [e]; rfl) (Nat.zero_le _))
  | some l =>
    simp only
    have := (h.row k l e).2
    rw [if_pos (by omega)]
    exact ok_some (key l (by rw [e]; rfl) this)
/-- of each thing seen: the numbers that see it -/
theorem byV_ok {views : List (List κ)} {q : Nat} (hq : ∀ l ∈ views, l.length ≤ q) (hz : views.length * q < sizeLine) :
    Ok (byV views) fun d => Dv d (views.length * q) fun k x => ∃ (i : Nat) (l : List κ), views[i]? = some l ∧ x = (i : Int) ∧ k ∈ l := by
  unfold byV
  refine ok_bind (ok_forS (fun j d => Dv d (j * q) fun k x => ∃ (i : Nat) (l : List κ), i < j ∧ views[i]? = some l ∧ x = (i : Int) ∧ k ∈ l) (Dv.nil.imp (by omega) fun k x => by simp) fun j p d hx hd => ?_) fun d hd => ok_some (hd.imp (by rw [enumL_len]; exact Nat.le_refl _) fun k x => ?_)
  · obtain ⟨p1, p2⟩ := p
    have hp := enumL_get hx
    simp only at hp
    obtain ⟨rfl, hv⟩ := hp
    have hl := hq p2 (mem_getElem hv)
    have hj : j < views.length := (List.getElem?_eq_some_iff.mp hv).1
    have e1 : (j + 1) * q = j * q + q := Nat.succ_mul _ _
    have e2 : (j + 1) * q ≤ views.length * q := Nat.mul_le_mul_right _ hj
    refine ok_bind (ok_forS (fun i d' => Dv d' (j * q + i) fun k x => (∃ (i : Nat) (l : List κ), i < j ∧ views[i]? = some l ∧ x = (i : Int) ∧ k ∈ l) ∨ x = (j : Int) ∧ k ∈ p2.take i) (hd.imp (by omega) fun k x => by simp) fun i y d' hy hd' => ?_) fun d' hd' => ok_some (hd'.imp (by show j * q + p2.length ≤ (j + 1) * q; omega) fun k x => ?_)
    · have hi : i < p2.length := (List.getElem?_eq_some_iff.mp hy).1
      have hk : ∀ z : κ, z ∈ p2.take (i + 1) ↔ z ∈ p2.take i ∨ z = y := fun z => by
        rw [List.take_add_one, hy, List.mem_append]; simp
      refine ok_bind (sda_ok hd' (by omega) y (j : Int)) fun w hw => ok_some (hw.imp (by omega) fun k x => ?_)
      rw [hk]
      constructor
      · rintro ((a | ⟨a, b⟩) | ⟨a, b⟩)
        · exact .inl a
        · exact .inr ⟨a, .inl b⟩
        · exact .inr ⟨b, .inr a⟩
      · rintro (a | ⟨a, b | b⟩)
        · exact .inl (.inl a)
        · exact .inl (.inr ⟨a, b⟩)
        · exact .inr ⟨b, a⟩
    · rw [List.take_length]
      constructor
      · rintro (⟨i, l, a, b⟩ | ⟨a, b⟩)
        · exact ⟨i, l, by omega, b⟩
        · exact ⟨j, p2, by omega, hv, a, b⟩
      · rintro ⟨i, l, a, b, c, e⟩
        by_cases q : i = j
        · subst q
          rw [hv] at b; cases b
          exact .inr ⟨c, e⟩
        · exact .inl ⟨i, l, by omega, b, c, e⟩
  · constructor
    · rintro ⟨i, l, a, b⟩; exact ⟨i, l, b⟩
    · rintro ⟨i, l, b, c⟩
      exact ⟨i, l, by rw [enumL_len]; exact (List.getElem?_eq_some_iff.mp b).1, b, c⟩
theorem dGet_of_mem {ν : Type} : ∀ {d : List (κ × ν)} {p : κ × ν}, (d.map (·.1)).Nodup → p ∈ d → dGet d p.1 = some p.2
  | q :: r, p, nd, h => by
    rw [List.map_cons, List.nodup_cons] at nd
    unfold dGet
    rcases List.mem_cons.mp h with rfl | h
    · rw [if_pos rfl]
    · have : q.1 ≠ p.1 := fun e => nd.1 (by rw [e]; exact List.mem_map_of_mem (f := (·.1)) h)
      rw [if_neg this]
      exact dGet_of_mem nd.2 h
/-- what the parts need of the rows -/
theorem Dv.rows {d : List (κ × List Int)} {c m : Nat} {M : κ → Int → Prop} (h : Dv d c M) (hM : ∀ k x, M k x → 0 ≤ x ∧ x < (m : Int)) : ∀ p ∈ d, (∀ x ∈ p.2, 0 ≤ x ∧ x < (m : Int)) ∧ p.2 ≠ [] ∧ p.2.length ≤ c := fun p hp => by
  have e := dGet_of_mem h.nd hp
  have := h.row _ _ e
  exact ⟨fun x hx => hM p.1 x ((h.mem p.1 x).mp (by rw [e]; exact hx)), this.1, this.2⟩
/-- both ways to the parts tell the same -/
theorem parts_same {views : List (List κ)} {q : Nat} (hq : ∀ l ∈ views, l.length ≤ q) (hm : views.length ≤ 700) (hq2 : q ≤ 4) :
    ∃ d, byV views = some d ∧ partsOf (views.length : Int) (d.map fun p => p.2) = some (compsL (d.map fun p => p.2) views.length views.length) ∧ lawParts (views.length : Int) d = some (compsL (d.map fun p => p.2) views.length views.length) ∧
      Dv d (views.length * q) fun k x => ∃ (i : Nat) (l : List κ), views[i]? = some l ∧ x = (i : Int) ∧ k ∈ l := by
  have hs := sizeLine_eq
  have e1 : views.length * q ≤ 2800 := Nat.mul_le_mul hm hq2
  obtain ⟨d, e, h⟩ := byV_ok hq (by omega)
  have hr := h.rows (m := views.length) fun k x ⟨i, l, a, b, _⟩ => by
    have := (List.getElem?_eq_some_iff.mp a).1
    omega
  have hl := h.len
  refine ⟨d, e, ?_, ?_, h⟩
  · refine partsOf_ok (L := views.length * q) (by omega) (fun r hr' x hx => ?_) (fun r hr' => ?_) (fun r hr' => ?_) ?_
    · obtain ⟨p, hp, rfl⟩ := List.mem_map.mp hr'
      exact (hr p hp).1 x hx
    · obtain ⟨p, hp, rfl⟩ := List.mem_map.mp hr'
      exact (hr p hp).2.1
    · obtain ⟨p, hp, rfl⟩ := List.mem_map.mp hr'
      exact (hr p hp).2.2
    · rw [List.length_map]
      have := Nat.mul_le_mul (Nat.mul_le_mul_left 2 e1) (Nat.le_trans hl e1)
      omega
  · exact lawParts_ok (by omega) fun p hp => ⟨(hr p hp).1, (hr p hp).2.1, by have := (hr p hp).2.2; omega⟩
end
theorem comps_pos {rows : List (List Int)} {m : Nat} (hm : 0 < m) : 0 < (compsL rows m m).length := by
  unfold compsL
  rw [List.length_map, List.length_pos_iff]
  intro e
  have : (0 : Int) ∈ (rg m).filter fun f => @decide (LeastC rows f) (Classical.propDecidable _) := by
    rw [List.mem_filter]
    exact ⟨mem_rg.mpr ⟨Int.le_refl _, by omega⟩, by simp; intro g h0 h1; omega⟩
  rw [e] at this
  cases this
end Ab
end
section
/-! ways from a number, by what is seen in common -/
namespace Ab
open PySem L2
theorem dGet_del {κ ν : Type} [DecidableEq κ] : ∀ {d : List (κ × ν)} (_ : (d.map (·.1)).Nodup) (k k' : κ), dGet (dDel d k) k' = if k' = k then none else dGet d k'
  | [], _, k, k' => by simp [dDel, dGet]
  | p :: r, nd, k, k' => by
    rw [List.map_cons, List.nodup_cons] at nd
    unfold dDel
    by_cases h : p.1 = k
    · rw [if_pos h]
      by_cases q : k' = k
      · rw [if_pos q]
        cases e : dGet r k' with
        | none => rfl
        | some v =>
          have : dHas r k' = true := by unfold dHas; rw [e]; rfl
          exact absurd ((pt_dHas _ _).mp this) (by rw [q, ← h]; exact nd.1)
      · rw [if_neg q]
        have : p.1 ≠ k' := fun e => q (e.symm.trans h)
        rw [dGet, if_neg this]
    · rw [if_neg h, dGet, dGet_del nd.2 k k']
      by_cases q : p.1 = k'
      · rw [if_pos q, if_neg (fun e => h (q.trans e)), dGet, if_pos q]
      · rw [if_neg q, dGet, if_neg q]
theorem dDel_nodup {κ ν : Type} [DecidableEq κ] : ∀ {d : List (κ × ν)} (_ : (d.map (·.1)).Nodup) (k : κ), ((dDel d k).map (·.1)).Nodup ∧ ∀ x ∈ (dDel d k).map (·.1), x ∈ d.map (·.1)
  | [], nd, k => by simp [dDel]
  | p :: r, nd, k => by
    rw [List.map_cons, List.nodup_cons] at nd
    unfold dDel
    by_cases h : p.1 = k
    · rw [if_pos h]; exact ⟨nd.2, fun x hx => List.mem_cons_of_mem _ hx⟩
    · rw [if_neg h, List.map_cons, List.nodup_cons]
      have ih := dDel_nodup nd.2 k
      exact ⟨⟨fun m => nd.1 (ih.2 _ m), ih.1⟩, fun x hx => (List.mem_cons.mp hx).elim (fun e => by rw [e]; exact List.mem_cons_self) fun m => List.mem_cons_of_mem _ (ih.2 x m)⟩
theorem mem_of_dGet {κ ν : Type} [DecidableEq κ] : ∀ {d : List (κ × ν)} {k : κ} {v : ν}, dGet d k = some v → (k, v) ∈ d
  | [], _, _, h => by cases h
  | p :: r, k, v, h => by
    unfold dGet at h
    by_cases q : p.1 = k
    · rw [if_pos q] at h
      cases h
      rw [← q]; exact List.mem_cons_self
    · rw [if_neg q] at h
      exact List.mem_cons_of_mem _ (mem_of_dGet h)
abbrev Wys := List (Int × Option (Int × Int))
section
variable {κ : Type} [DecidableEq κ]
abbrev Grp (κ : Type) := List (κ × List Int)
def wayIn (hand : Int) (at' : Int) (x116 : Int) (s123 : Wys × List Int) : Option (Wys × List Int) := (if (!dHas s123.1 x116) = true then ((atI s123.2 at').bind fun v124 => (dPutO s123.1 x116 (some (hand, v124))).bind fun v125 => (appO s123.2 x116).bind fun v126 => some (v125, v126)) else (some (s123.1, s123.2)))
def waySee (at' : Int) (x89 : Int × κ) (s114 : Grp κ × Wys × List Int) : Option (Grp κ × Wys × List Int) := ((some (dPop s114.1 x89.2)).bind fun v115 => (forS (wayIn x89.1 at') v115.1 (s114.2.1, s114.2.2)).bind fun s123 => some (v115.2, s123.1, s123.2))
def wayB (a0 : List (List κ)) (s86 : Grp κ × Wys × List Int × Int) : Option (Grp κ × Wys × List Int × Int) := ((atI s86.2.2.1 s86.2.2.2).bind fun v87 => (atI a0 v87).bind fun v88 => (forS (waySee s86.2.2.2) (enumL v88) (s86.1, s86.2.1, s86.2.2.1)).bind fun s114 => (some ((s86.2.2.2 + (1 : Int)))).bind fun (at_127 : Int) => some (s114.1, s114.2.1, s114.2.2, at_127))
def waysFrom (a0 : List (List κ)) (a1 : Int) : Option Wys :=
  (byV a0).bind fun v1 => (some ([(a1, none)])).bind fun (ways_2 : Wys) => (some ([a1])).bind fun (come_3 : List Int) => (whileS (fun (s86 : Grp κ × Wys × List Int × Int) => some (decide (s86.2.2.2 < (s86.2.2.1.length : Int)))) (wayB a0) 1000000 (v1, ways_2, come_3, (0 : Int))).bind fun s86 => some s86.2.1
/-- what a number sees by a hand -/
def vw (views : List (List κ)) (p hand : Int) : Option κ := if 0 ≤ p ∧ 0 ≤ hand then (views[p.toNat]?).bind fun l => l[hand.toNat]? else none
def Link (views : List (List κ)) (hand p x : Int) : Prop := ∃ v, vw views p hand = some v ∧ vw views x hand = some v
structure Wy (views : List (List κ)) (rows : List (List Int)) (first : Int) (ways : Wys) (come : List Int) : Prop where
  nd : come.Nodup
  has : ∀ x, dHas ways x = true ↔ x ∈ come
  wn : (ways.map (·.1)).Nodup
  fst : come[0]? = some first
  none : dGet ways first = some none
  way : ∀ (i : Nat) x, come[i]? = some x → 0 < i → ∃ hand p j, dGet ways x = some (some (hand, p)) ∧ j < i ∧ come[j]? = some p ∧ Link views hand p x
  inn : ∀ x ∈ come, (0 ≤ x ∧ x < (views.length : Int)) ∧ Con rows first x
section
variable {views : List (List κ)} {rows : List (List Int)} {first : Int} {ways : Wys} {come : List Int}
theorem Wy.len (w : Wy views rows first ways come) : come.length ≤ views.length := pt_len w.nd fun x h => (w.inn x h).1
theorem Wy.wlen (w : Wy views rows first ways come) : ways.length ≤ views.length := by
  have := pt_len w.wn fun x h => (w.inn x ((w.has x).mp ((pt_dHas _ _).mpr h))).1
  rwa [List.length_map] at this
theorem wayIn_ok (hm : views.length < sizeLine) (w : Wy views rows first ways come) {hand at' p x : Int} (h0 : 0 ≤ at') (hp : come[at'.toNat]? = some p) (hl : Link views hand p x) (hx : 0 ≤ x ∧ x < (views.length : Int)) (hc : Con rows p x) :
    Ok (wayIn hand at' x (ways, come)) fun s => Wy views rows first s.1 s.2 ∧ x ∈ s.2 ∧ come <+: s.2 := by
  have l1 := w.len
  have l2 := w.wlen
  have hpm := w.inn p (mem_getElem hp)
  unfold wayIn
  refine ok_if (fun hb => ?_) (fun hb => ?_)
  · have hb : dHas ways x = false := by simpa using hb
    have ny : x ∉ come := fun q => by rw [(w.has x).mpr q] at hb; cases hb
    have hfx : first ≠ x := fun e => ny (by rw [← e]; exact mem_getElem w.fst)
    show Ok ((atI come at').bind _) _
    refine ok_b (atI_get0 h0 hp) (ok_b (dPutO_ok (by show ways.length < _; omega)) (ok_b (appO_ok (by show come.length < _; omega)) (ok_some ⟨⟨?_, fun y => ?_, pt_dnd _ _ _ w.wn, ?_, ?_, fun i y hy hi => ?_, fun y hy => ?_⟩, by simp, by simp⟩)))
    · show (come ++ [x]).Nodup
      rw [List.nodup_append]
      exact ⟨w.nd, by simp, fun a ha c hc e => ny (by simp at hc; rw [← hc, ← e]; exact ha)⟩
    · show dHas (dPut ways x _) y = true ↔ y ∈ come ++ [x]
      rw [pt_dput, w.has, List.mem_append, List.mem_singleton]
      exact Or.comm
    · show (come ++ [x])[0]? = _
      have : 0 < come.length := (List.getElem?_eq_some_iff.mp w.fst).1
      rw [List.getElem?_append_left this]; exact w.fst
    · show dGet (dPut ways x _) first = _
      rw [dGet_put, if_neg hfx]; exact w.none
    · show ∃ hand' p' j, dGet (dPut ways x _) y = _ ∧ _ ∧ (come ++ [x])[j]? = _ ∧ _
      have hy : (come ++ [x])[i]? = some y := hy
      by_cases q : i < come.length
      · rw [List.getElem?_append_left q] at hy
        obtain ⟨h', p', j, e1, e2, e3, e4⟩ := w.way i y hy hi
        have : y ≠ x := fun e => ny (by rw [← e]; exact mem_getElem hy)
        refine ⟨h', p', j, by rw [dGet_put, if_neg this]; exact e1, e2, ?_, e4⟩
        rw [List.getElem?_append_left (by omega)]; exact e3
      · have hi2 : i = come.length := by
          have := (List.getElem?_eq_some_iff.mp hy).1
          rw [List.length_append, List.length_singleton] at this
          omega
        subst hi2
        have ey : y = x := by simpa using hy.symm
        subst ey
        have hpl := (List.getElem?_eq_some_iff.mp hp).1
        refine ⟨hand, p, at'.toNat, by rw [dGet_put, if_pos rfl], hpl, ?_, hl⟩
        rw [List.getElem?_append_left hpl]; exact hp
    · have hy : y ∈ come ++ [x] := hy
      rcases List.mem_append.mp hy with q | q
      · exact w.inn y q
      · rw [List.mem_singleton.mp q]; exact ⟨hx, hpm.2.trans hc⟩
  · have hb : dHas ways x = true := by simpa using hb
    exact ok_some ⟨w, (w.has x).mp hb, List.prefix_rfl⟩
theorem wayFor_ok (hm : views.length < sizeLine) (w : Wy views rows first ways come) {hand at' p : Int} (h0 : 0 ≤ at') (hp : come[at'.toNat]? = some p) {xs : List Int} (hl : ∀ x ∈ xs, Link views hand p x ∧ (0 ≤ x ∧ x < (views.length : Int)) ∧ Con rows p x) :
    Ok (forS (wayIn hand at') xs (ways, come)) fun s => Wy views rows first s.1 s.2 ∧ (∀ x ∈ xs, x ∈ s.2) ∧ come <+: s.2 := by
  refine (ok_forS (fun i s => Wy views rows first s.1 s.2 ∧ (∀ x ∈ xs.take i, x ∈ s.2) ∧ come <+: s.2) ⟨w, by simp, List.prefix_rfl⟩ fun i x s hx ⟨a1, a2, a3⟩ => ?_).imp fun s ⟨a1, a2, a3⟩ => ⟨a1, fun x h => a2 x (by rw [List.take_length]; exact h), a3⟩
  obtain ⟨s1, s2⟩ := s
  have hm2 := hl x (mem_getElem hx)
  have hp2 : s2[at'.toNat]? = some p := by
    obtain ⟨t, ht⟩ := a3
    rw [show s2 = come ++ t from ht.symm, List.getElem?_append_left (List.getElem?_eq_some_iff.mp hp).1]; exact hp
  refine (wayIn_ok hm a1 h0 hp2 hm2.1 hm2.2.1 hm2.2.2).imp fun s ⟨b1, b2, b3⟩ => ⟨b1, fun z hz => ?_, a3.trans b3⟩
  rcases (pt_take hx).mp hz with q | rfl
  · exact b3.subset (a2 z q)
  · exact b2
/-- the groups: whole, or gone and all met -/
structure Gr (d0 d : Grp κ) (come : List Int) : Prop where
  nd : (d.map (·.1)).Nodup
  g : ∀ k, dGet d k = dGet d0 k ∨ (dGet d k = none ∧ ∀ x ∈ (dGet d0 k).getD [], x ∈ come)
theorem Gr.mono {d0 d : Grp κ} {come come' : List Int} (h : Gr d0 d come) (p : come <+: come') : Gr d0 d come' :=
  ⟨h.nd, fun k => (h.g k).imp id fun ⟨a, b⟩ => ⟨a, fun x hx => p.subset (b x hx)⟩⟩
def MemV (views : List (List κ)) (k : κ) (x : Int) : Prop := ∃ (i : Nat) (l : List κ), views[i]? = some l ∧ x = (i : Int) ∧ k ∈ l
/-- what is seen tells the hand -/
def HandV (views : List (List κ)) : Prop := ∀ (i j a : Nat) (l l' : List κ) (v : κ), views[i]? = some l → views[j]? = some l' → l[a]? = some v → v ∈ l' → l'[a]? = some v
theorem vw_at {i a : Nat} {l : List κ} {v : κ} (h : views[i]? = some l) (h2 : l[a]? = some v) : vw views (i : Int) (a : Int) = some v := by
  unfold vw
  rw [if_pos ⟨by omega, by omega⟩]
  simp [h, h2]
theorem waySee_ok {d0 d : Grp κ} {c : Nat} (hm : views.length < sizeLine) (hH : HandV views) (hd : Dv d0 c (MemV views)) (hrows : rows = d0.map fun p => p.2) (w : Wy views rows first ways come) (g : Gr d0 d come) {at' : Int} (h0 : 0 ≤ at') {p a : Nat} {l : List κ} {v : κ} (hp : come[at'.toNat]? = some (p : Int)) (hpl : views[p]? = some l) (hv : l[a]? = some v) :
    Ok (waySee at' ((a : Int), v) (d, ways, come)) fun s => Wy views rows first s.2.1 s.2.2 ∧ Gr d0 s.1 s.2.2 ∧ (∀ x ∈ (dGet d0 v).getD [], x ∈ s.2.2) ∧ come <+: s.2.2 := by
  unfold waySee
  refine ok_let ?_
  show Ok ((forS (wayIn (a : Int) at') ((dGet d v).getD []) (ways, come)).bind _) _
  have hmem : ∀ x ∈ (dGet d0 v).getD [], Link views a p x ∧ (0 ≤ x ∧ x < (views.length : Int)) ∧ Con rows p x := fun x hx => by
    obtain ⟨i, l', e1, rfl, e2⟩ := (hd.mem v x).mp hx
    have hi := (List.getElem?_eq_some_iff.mp e1).1
    refine ⟨⟨v, vw_at hpl hv, vw_at e1 (hH p i a l l' v hpl e1 hv e2)⟩, by omega, ?_⟩
    have hpm : (p : Int) ∈ (dGet d0 v).getD [] := (hd.mem v p).mpr ⟨p, l, hpl, rfl, mem_getElem hv⟩
    cases e : dGet d0 v with
    | none => rw [e] at hx; cases hx
    | some r =>
      rw [e] at hx hpm
      have hr : r ∈ rows := by rw [hrows]; exact List.mem_map.mpr ⟨(v, r), mem_of_dGet e, rfl⟩
      exact .one hr hpm hx
  refine ok_bind (wayFor_ok hm w h0 hp (xs := (dGet d v).getD []) fun x hx => ?_) fun s ⟨b1, b2, b3⟩ => ok_some ⟨b1, ⟨(dDel_nodup g.nd v).1, fun k => ?_⟩, ?_, b3⟩
  · rcases g.g v with e | ⟨e, _⟩
    · rw [e] at hx; exact hmem x hx
    · rw [e] at hx; cases hx
  · show dGet (dDel d v) k = _ ∨ _
    show dGet (dDel d v) k = _ ∨ (dGet (dDel d v) k = none ∧ _)
    rw [dGet_del g.nd]
    by_cases q : k = v
    · subst q
      rw [if_pos rfl]
      refine .inr ⟨rfl, fun x hx => ?_⟩
      rcases g.g k with e | ⟨_, e⟩
      · exact b2 x (by rw [e]; exact hx)
      · exact b3.subset (e x hx)
    · rw [if_neg q]
      exact (g.g k).imp id fun ⟨e1, e2⟩ => ⟨e1, fun x hx => b3.subset (e2 x hx)⟩
  · intro x hx
    rcases g.g v with e | ⟨_, e⟩
    · exact b2 x (by rw [e]; exact hx)
    · exact b3.subset (e x hx)
theorem enumL_at {α : Type} (xs : List α) (i : Nat) : (enumL xs)[i]? = (xs[i]?).map fun x => ((i : Int), x) := by
  cases e : xs[i]? with
  | none =>
    have := List.getElem?_eq_none_iff.mp e
    exact List.getElem?_eq_none (by rw [enumL_len]; exact this)
  | some x =>
    have hi := (List.getElem?_eq_some_iff.mp e).1
    have h2 : (enumL xs)[i]? = some ((enumL xs)[i]'(by rw [enumL_len]; exact hi)) := List.getElem?_eq_getElem _
    have := enumL_get h2
    rw [e] at this
    rw [h2]
    show some _ = some _
    congr 1
    exact Prod.ext this.1 (Option.some.inj this.2).symm
/-- the ways lead to all that is joined -/
theorem waysFrom_ok {d0 : Grp κ} {c : Nat} (hm : views.length ≤ 100000) (hH : HandV views) (hb : byV views = some d0) (hd : Dv d0 c (MemV views)) (hrows : rows = d0.map fun p => p.2) (hf : 0 ≤ first ∧ first < (views.length : Int)) :
    Ok (waysFrom views first) fun ways => ∃ come, Wy views rows first ways come ∧ ∀ x, x ∈ come ↔ (0 ≤ x ∧ x < (views.length : Int)) ∧ Con rows first x := by
  have hz := sizeLine_eq
  unfold waysFrom
  refine ok_b hb (ok_let (ok_let ?_))
  refine ok_bind (ok_while (body := wayB views) (fun s : Grp κ × Wys × List Int × Int => Wy views rows first s.2.1 s.2.2.1 ∧ Gr d0 s.1 s.2.2.1 ∧ 0 ≤ s.2.2.2 ∧ s.2.2.2 ≤ (s.2.2.1.length : Int) ∧ ∀ j : Nat, (j : Int) < s.2.2.2 → ∀ (p : Nat) l, s.2.2.1[j]? = some (p : Int) → views[p]? = some l → ∀ v ∈ l, ∀ x ∈ (dGet d0 v).getD [], x ∈ s.2.2.1) (fun s => views.length - s.2.2.2.toNat) 1000000 (d0, [(first, none)], [first], (0 : Int)) ?_ (by show views.length - _ < _; omega) (fun s _ => ⟨_, rfl⟩) fun s ⟨w, g, a1, a2, a3⟩ hc => ?_) fun s ⟨⟨w, g, a1, a2, a3⟩, hc⟩ => ?_
  · refine ⟨⟨by simp, fun x => ?_, by simp, rfl, ?_, fun i x hx hi => ?_, fun x hx => by rw [List.mem_singleton.mp hx]; exact ⟨hf, .refl _⟩⟩, ⟨hd.nd, fun k => .inl rfl⟩, Int.le_refl _, by simp, fun j h => by have h : (j : Int) < 0 := h; omega⟩
    · rw [pt_dHas]; simp
    · show dGet [(first, none)] first = _
      rw [dGet, if_pos rfl]
    · have := (List.getElem?_eq_some_iff.mp hx).1
      simp at this
      omega
  · obtain ⟨d, ways, come, at'⟩ := s
    have hc : some (decide (at' < (come.length : Int))) = some true := hc
    simp only at w g a1 a2 a3 ⊢
    simp only [Option.some.injEq, decide_eq_true_eq] at hc
    have hl := w.len
    obtain ⟨z, hz2⟩ : ∃ z, come[at'.toNat]? = some z := ⟨_, List.getElem?_eq_getElem (by omega)⟩
    have hzm := w.inn z (mem_getElem hz2)
    obtain ⟨p, rfl⟩ := Int.eq_ofNat_of_zero_le hzm.1.1
    obtain ⟨l, hpl⟩ : ∃ l, views[p]? = some l := ⟨_, List.getElem?_eq_getElem (by omega)⟩
    unfold wayB
    simp only
    refine ok_b (atI_get0 a1 hz2) (ok_b (atI_get0 (by omega) (by simpa using hpl)) ?_)
    refine ok_bind (ok_forS (fun i s => Wy views rows first s.2.1 s.2.2 ∧ Gr d0 s.1 s.2.2 ∧ (∀ v ∈ l.take i, ∀ x ∈ (dGet d0 v).getD [], x ∈ s.2.2) ∧ come <+: s.2.2) ⟨w, g, by simp, List.prefix_rfl⟩ fun i x s hx ⟨b1, b2, b3, b4⟩ => ?_) fun s ⟨b1, b2, b3, b4⟩ => ?_
    · rw [enumL_at] at hx
      cases hv : l[i]? with
      | none => rw [hv] at hx; cases hx
      | some v =>
        rw [hv] at hx
        cases hx
        obtain ⟨s1, s2, s3⟩ := s
        have hp2 : s3[at'.toNat]? = some (p : Int) := by
          obtain ⟨t, ht⟩ := b4
          rw [show s3 = come ++ t from ht.symm, List.getElem?_append_left (by omega)]; exact hz2
        refine (waySee_ok (by omega) hH hd hrows b1 b2 a1 hp2 hpl hv).imp fun s' ⟨c1, c2, c3, c4⟩ => ⟨c1, c2, fun u hu x hx => ?_, b4.trans c4⟩
        rw [List.take_add_one, hv, List.mem_append] at hu
        rcases hu with q | q
        · exact c4.subset (b3 u q x hx)
        · have : u = v := by simpa using q
          subst this
          exact c3 x hx
    · rw [enumL_len, List.take_length] at b3
      refine ok_let (ok_some ⟨⟨b1, b2, by show (0 : Int) ≤ at' + 1; omega, ?_, fun j hj q l' hq hl' v hv x hx => ?_⟩, ?_⟩)
      · show at' + 1 ≤ (s.2.2.length : Int)
        have := b4.length_le
        omega
      · simp only at hj hq ⊢
        by_cases e : (j : Int) = at'
        · have ej : at'.toNat = j := by omega
          have hq2 : s.2.2[j]? = some (p : Int) := by
            obtain ⟨t, ht⟩ := b4
            rw [← ht, List.getElem?_append_left (by omega), ← ej]; exact hz2
          rw [hq] at hq2
          have : (q : Int) = (p : Int) := Option.some.inj hq2
          have : q = p := by omega
          subst this
          rw [hpl] at hl'
          cases hl'
          exact b3 v hv x hx
        · have hj2 : (j : Int) < at' := by omega
          have hq2 : come[j]? = some (q : Int) := by
            obtain ⟨t, ht⟩ := b4
            rw [← ht, List.getElem?_append_left (by omega)] at hq; exact hq
          exact b4.subset (a3 j hj2 q l' hq2 hl' v hv x hx)
      · show views.length - (at' + 1).toNat < views.length - at'.toNat
        omega
  · obtain ⟨d, ways, come, at'⟩ := s
    have hc : some (decide (at' < (come.length : Int))) = some false := hc
    simp only at w g a1 a2 a3 ⊢
    simp only [Option.some.injEq, decide_eq_false_iff_not, Int.not_lt] at hc
    refine ok_some ⟨come, w, fun x => ⟨w.inn x, fun ⟨_, cn⟩ => ?_⟩⟩
    refine cn.closed (S := fun x => x ∈ come) (fun r hr a ha b hb' h => ?_) (mem_getElem w.fst)
    rw [hrows] at hr
    obtain ⟨q, hq, rfl⟩ := List.mem_map.mp hr
    have eq := dGet_of_mem hd.nd hq
    obtain ⟨i, l, e1, rfl, e2⟩ := (hd.mem q.1 a).mp (by rw [eq]; exact ha)
    obtain ⟨j, hj, e⟩ := List.getElem_of_mem h
    exact a3 j (by omega) i l (by rw [List.getElem?_eq_getElem hj, e]) e1 q.1 e2 b (by rw [eq]; exact hb')
/-! ### the row back -/
def rowC (a0 : Wys) (s13 : List (Int × Int) × Int) : Option Bool := (dGet a0 s13.2).bind fun v14 => some (v14.isSome)
def rowB (a0 : Wys) (s13 : List (Int × Int) × Int) : Option (List (Int × Int) × Int) := ((dGet a0 s13.2).bind fun v15 => (v15).bind fun v16 => (appO s13.1 (v16.1, s13.2)).bind fun v17 => (dGet a0 s13.2).bind fun v18 => (v18).bind fun v19 => some (v17, v19.2))
def rowBy (a0 : Wys) (a1 : Int) : Option (List (Int × Int)) := (whileS (rowC a0) (rowB a0) 1000000 (([] : List (Int × Int)), a1)).bind fun s13 => some s13.1.reverse
def Path (views : List (List κ)) : Int → List (Int × Int) → Int → Prop
  | here, [], g => here = g
  | here, st :: r, g => Link views st.1 here st.2 ∧ Path views st.2 r g
theorem rowBy_ok (hm : views.length ≤ 100000) (w : Wy views rows first ways come) {goal : Int} (hg : goal ∈ come) : Ok (rowBy ways goal) fun steps => Path views first steps goal ∧ (goal = first → steps = []) ∧ steps.length ≤ views.length := by
  have hz := sizeLine_eq
  have hl := w.len
  obtain ⟨i0, hi0, ei0⟩ := List.getElem_of_mem hg
  have ei0 : come[i0]? = some goal := by rw [List.getElem?_eq_getElem hi0, ei0]
  unfold rowBy
  have get : ∀ i x, come[i]? = some x → (i = 0 ∧ x = first ∧ dGet ways x = some none) ∨ ∃ hand p j, dGet ways x = some (some (hand, p)) ∧ j < i ∧ come[j]? = some p ∧ Link views hand p x := fun i x hx => by
    cases i with
    | zero =>
      have : x = first := Option.some.inj (hx.symm.trans w.fst)
      subst this
      exact .inl ⟨rfl, rfl, w.none⟩
    | succ i => exact .inr (w.way (i + 1) x hx (by omega))
  have uniq : ∀ (i j : Nat) x, come[i]? = some x → come[j]? = some x → i = j := fun i j x h1 h2 => by
    obtain ⟨a, b⟩ := List.getElem?_eq_some_iff.mp h1
    obtain ⟨c, d⟩ := List.getElem?_eq_some_iff.mp h2
    rcases Nat.lt_trichotomy i j with q | q | q
    · exact absurd (b.trans d.symm) (List.pairwise_iff_getElem.mp w.nd i j a c q)
    · exact q
    · exact absurd (d.trans b.symm) (List.pairwise_iff_getElem.mp w.nd j i c a q)
  refine ok_bind (ok_while (c := rowC ways) (body := rowB ways) (fun s => ∃ i, come[i]? = some s.2 ∧ Path views s.2 s.1.reverse goal ∧ s.1.length + i ≤ i0 ∧ (s.1 = [] → s.2 = goal)) (fun s => come.idxOf s.2) 1000000 (([] : List (Int × Int)), goal) ⟨i0, ei0, rfl, by simp, fun _ => rfl⟩ ?_ (fun s ⟨i, e, _⟩ => ?_) fun s ⟨i, e, pa, hle, hs0⟩ hc => ?_) fun s ⟨⟨i, e, pa, hle, hs0⟩, hc⟩ => ?_
  · have : come.idxOf goal ≤ come.length := List.idxOf_le_length
    show come.idxOf goal < _
    omega
  · rcases get i s.2 e with ⟨_, _, q⟩ | ⟨_, _, _, q, _⟩
    · exact ⟨false, by unfold rowC; rw [q]; rfl⟩
    · exact ⟨true, by unfold rowC; rw [q]; rfl⟩
  · obtain ⟨steps, here⟩ := s
    simp only at e pa hle hs0 ⊢
    rcases get i here e with ⟨_, _, q⟩ | ⟨hand, p, j, q, hj, ej, lk⟩
    · unfold rowC at hc
      rw [show dGet ways (steps, here).2 = some none from q] at hc
      cases hc
    · unfold rowB
      simp only
      refine ok_b q (ok_b rfl (ok_b (appO_ok (by omega)) (ok_b q (ok_b rfl (ok_some ⟨⟨j, ej, ?_, ?_, fun h => by simp at h⟩, ?_⟩)))))
      · show Path views p (steps ++ [(hand, here)]).reverse goal
        rw [List.reverse_append]
        exact ⟨lk, pa⟩
      · show (steps ++ [(hand, here)]).length + j ≤ i0
        rw [List.length_append, List.length_singleton]; omega
      · show come.idxOf p < come.idxOf here
        have i1 : come.idxOf here = i := by
          refine uniq _ _ here ?_ e
          have := List.idxOf_lt_length_of_mem (mem_getElem e)
          rw [List.getElem?_eq_getElem this, List.getElem_idxOf]
        have j1 : come.idxOf p = j := by
          refine uniq _ _ p ?_ ej
          have := List.idxOf_lt_length_of_mem (mem_getElem ej)
          rw [List.getElem?_eq_getElem this, List.getElem_idxOf]
        omega
  · obtain ⟨steps, here⟩ := s
    simp only at e pa hle hs0 hc ⊢
    have hi0l : i0 < come.length := hi0
    rcases get i here e with ⟨_, q2, _⟩ | ⟨hand, p, j, q, _⟩
    · subst q2
      refine ok_some ⟨pa, fun hgf => ?_, by rw [List.length_reverse]; omega⟩
      have : i0 = 0 := by
        refine uniq _ _ goal ei0 ?_
        rw [hgf]; exact w.fst
      have : steps.length = 0 := by omega
      rw [List.length_eq_zero_iff.mp this]; rfl
    · unfold rowC at hc
      rw [show dGet ways (steps, here).2 = some (some (hand, p)) from q] at hc
      cases hc
end
end
theorem comps_cover {rows : List (List Int)} {m : Nat} : ∀ (n : Nat) (x : Int), x.toNat ≤ n → 0 ≤ x ∧ x < (m : Int) → ∃ c ∈ compsL rows m m, x ∈ c ∧ ∀ y, 0 ≤ y ∧ y < (m : Int) → Con rows x y → y ∈ c := by
  classical
  have key : ∀ x : Int, 0 ≤ x ∧ x < (m : Int) → LeastC rows x → ∃ c ∈ compsL rows m m, x ∈ c ∧ ∀ y, 0 ≤ y ∧ y < (m : Int) → Con rows x y → y ∈ c := fun x hx hl => by
    refine ⟨(rg m).filter fun n => @decide (Con rows x n) (Classical.propDecidable _), ?_, ?_, fun y hy c => ?_⟩
    · unfold compsL
      refine List.mem_map.mpr ⟨x, List.mem_filter.mpr ⟨mem_rg.mpr hx, ?_⟩, rfl⟩
      simpa using hl
    · exact List.mem_filter.mpr ⟨mem_rg.mpr hx, by simpa using Con.refl x⟩
    · exact List.mem_filter.mpr ⟨mem_rg.mpr hy, by simpa using c⟩
  intro n
  induction n with
  | zero =>
    intro x hx hm
    have : x = 0 := by omega
    subst this
    exact key 0 hm fun g h0 h1 => by omega
  | succ n ih =>
    intro x hx hm
    by_cases hl : LeastC rows x
    · exact key x hm hl
    · unfold LeastC at hl
      have ⟨g, h0, h1, c⟩ : ∃ g, 0 ≤ g ∧ g < x ∧ Con rows g x := by
        refine Classical.byContradiction fun hn => hl fun g h0 h1 c => hn ⟨g, h0, h1, c⟩
      obtain ⟨cc, hcc, hg, hall⟩ := ih g (by omega) (by omega)
      exact ⟨cc, hcc, hall x hm c, fun y hy c2 => hall y hy (c.trans c2)⟩
theorem comps_con {rows : List (List Int)} {m : Nat} {c : List Int} (h : c ∈ compsL rows m m) {x y : Int} (hx : x ∈ c) (hy : y ∈ c) : Con rows x y := by
  unfold compsL at h
  obtain ⟨f, _, rfl⟩ := List.mem_map.mp h
  have a := (List.mem_filter.mp hx).2
  have b := (List.mem_filter.mp hy).2
  simp only [decide_eq_true_eq] at a b
  exact a.symm.trans b
end Ab
end
section
/-! runs by number -/
namespace Ab
open PySem L2
section
variable {α β γ : Type}
theorem flat_get {f : β → List γ} {d : Nat} (hd : 0 < d) : ∀ (xs : List β) (_ : ∀ x ∈ xs, (f x).length = d) (n : Nat), (xs.flatMap f)[n]? = (xs[n / d]?).bind fun x => (f x)[n % d]?
  | [], _, n => by simp
  | x :: xs, h, n => by
    have hx := h x List.mem_cons_self
    rw [List.flatMap_cons]
    by_cases q : n < d
    · rw [List.getElem?_append_left (by omega), Nat.div_eq_of_lt q, Nat.mod_eq_of_lt q]; rfl
    · rw [List.getElem?_append_right (by omega), hx, flat_get hd xs (fun y hy => h y (List.mem_cons_of_mem _ hy))]
      have e1 : n / d = (n - d) / d + 1 := by rw [Nat.div_eq_sub_div hd (by omega)]
      have e2 : n % d = (n - d) % d := by rw [Nat.mod_eq_sub_mod (by omega)]
      rw [e1, e2]; rfl
theorem flat_len {f : β → List γ} {d : Nat} : ∀ (xs : List β) (_ : ∀ x ∈ xs, (f x).length = d), (xs.flatMap f).length = xs.length * d
  | [], _ => by simp
  | x :: xs, h => by
    rw [List.flatMap_cons, List.length_append, h x List.mem_cons_self, flat_len xs (fun y hy => h y (List.mem_cons_of_mem _ hy)), List.length_cons, Nat.succ_mul]
    omega
def rowsL (road : List α) : Nat → List (List α)
  | 0 => [[]]
  | k + 1 => (rowsL road k).flatMap fun row => road.map fun w => row ++ [w]
theorem rowsL_len (road : List α) : ∀ k, (rowsL road k).length = road.length ^ k
  | 0 => rfl
  | k + 1 => by
    rw [rowsL, flat_len (d := road.length) _ fun x _ => by simp, rowsL_len road k, Nat.pow_succ]
theorem rowsL_mem (road : List α) : ∀ k, ∀ r ∈ rowsL road k, r.length = k ∧ ∀ w ∈ r, w ∈ road
  | 0, r, h => by
    rw [rowsL, List.mem_singleton] at h
    subst h; simp
  | k + 1, r, h => by
    rw [rowsL, List.mem_flatMap] at h
    obtain ⟨x, hx, h⟩ := h
    obtain ⟨w, hw, rfl⟩ := List.mem_map.mp h
    have := rowsL_mem road k x hx
    refine ⟨by simp [this.1], fun y hy => ?_⟩
    rcases List.mem_append.mp hy with q | q
    · exact this.2 y q
    · rw [List.mem_singleton.mp q]; exact hw
/-- the places of a row, the last one first -/
def digs (road : List α) (w0 : α) : Nat → Nat → List α
  | 0, _ => []
  | k + 1, n => road.getD (n % road.length) w0 :: digs road w0 k (n / road.length)
theorem digs_len (road : List α) (w0 : α) : ∀ k n, (digs road w0 k n).length = k
  | 0, _ => rfl
  | k + 1, n => by rw [digs, List.length_cons, digs_len road w0 k]
theorem rows_get {road : List α} (hd : 0 < road.length) (w0 : α) : ∀ (k n : Nat), n < road.length ^ k → (rowsL road k)[n]? = some (digs road w0 k n).reverse
  | 0, n, h => by
    have : n = 0 := by simpa using h
    subst this; rfl
  | k + 1, n, h => by
    rw [rowsL, flat_get hd _ (fun x _ => by simp), rows_get hd w0 k (n / road.length) (by
      rw [Nat.pow_succ] at h
      exact Nat.div_lt_of_lt_mul (by rw [Nat.mul_comm]; exact h))]
    show (road.map _)[n % road.length]? = _
    have hm : n % road.length < road.length := Nat.mod_lt _ hd
    rw [List.getElem?_map, List.getElem?_eq_getElem hm, digs, List.reverse_cons, List.getD_eq_getElem?_getD, List.getElem?_eq_getElem hm]
    rfl
def runsL (road : List α) (k : Nat) (starts : List β) : List (β × List α) := starts.flatMap fun s => (rowsL road k).map fun r => (s, r)
theorem runsL_len (road : List α) (k : Nat) (starts : List β) : (runsL road k starts).length = starts.length * road.length ^ k := by
  unfold runsL
  rw [flat_len (d := road.length ^ k) _ fun x _ => by rw [List.length_map, rowsL_len]]
theorem runsL_mem {road : List α} {k : Nat} {starts : List β} {r : β × List α} (h : r ∈ runsL road k starts) : r.1 ∈ starts ∧ r.2.length = k ∧ ∀ w ∈ r.2, w ∈ road := by
  unfold runsL at h
  rw [List.mem_flatMap] at h
  obtain ⟨s, hs, h⟩ := h
  obtain ⟨x, hx, rfl⟩ := List.mem_map.mp h
  exact ⟨hs, rowsL_mem road k x hx⟩
/-! the program's way -/
def manyRows (a0 : List α) (a1 : Int) : Option Int := (rgO a1).bind fun r1 => (forS (fun (x2 : Int) (s5 : Int) => ((mulO s5 (a0.length : Int)).bind fun v6 => some v6)) r1 (1 : Int)).bind fun s5 => some s5
def manyRuns (a0 : List α) (a1 : Int) (a2 : List β) : Option Int := (manyRows a0 a1).bind fun v1 => (mulO (a2.length : Int) v1).bind fun v2 => some v2
def rowAt (a0 : List α) (a1 : Int) (a2 : Int) : Option (List α) := (rgO a1).bind fun r1 => (forS (fun (x2 : Int) (s11 : Int × (List α)) => ((modO s11.1 (a0.length : Int)).bind fun v12 => (atI a0 v12).bind fun v13 => (appO s11.2 v13).bind fun v14 => (divO s11.1 (a0.length : Int)).bind fun v15 => some (v15, v14))) r1 (a2, ([] : List α))).bind fun s11 => some s11.2.reverse
def runAt (a0 : List α) (a1 : Int) (a2 : List β) (a3 : Int) : Option (β × (List α)) := (manyRows a0 a1).bind fun v1 => (divO a3 v1).bind fun v2 => (atI a2 v2).bind fun v3 => (modO a3 v1).bind fun v4 => (rowAt a0 a1 v4).bind fun v5 => some (v3, v5)
def allRuns (a0 : List α) (a1 : Int) (a2 : List β) : Option (List (β × List α)) := (manyRuns a0 a1 a2).bind fun v1 => if (decide ((3000 : Int) < v1)) = true then (none) else ((rgO v1).bind fun r2 => (compP r2 (fun (x3 : Int) => some true) (fun (x3 : Int) => (runAt a0 a1 a2 x3).bind fun v4 => some v4)).bind fun v5 => some v5)
theorem manyRows_eq (road : List α) (k : Nat) (hd : road.length ≤ 1000000) (hk : k ≤ 100) : manyRows road k = some ((road.length ^ k : Nat) : Int) := by
  refine ok_is ?_
  unfold manyRows
  refine ok_b (rgO_ok (by omega)) ?_
  refine ok_bind (ok_forS (fun i s => s = ((road.length ^ i : Nat) : Int)) (by simp) fun i x s hx hs => ok_b (mulO_r (by omega)) (ok_some ?_)) fun s hs => ok_some (by rw [hs, rg_len])
  rw [hs, Nat.pow_succ]; simp
theorem rowAt_eq {road : List α} (hd : 0 < road.length) (hd2 : road.length ≤ 1000000) (w0 : α) (k n : Nat) (hk : k ≤ 100) : rowAt road k n = some (digs road w0 k n).reverse := by
  have hz := sizeLine_eq
  refine ok_is ?_
  unfold rowAt
  refine ok_b (rgO_ok (by omega)) ?_
  have key : ∀ (xs : List Int) (n : Nat) (row : List α), row.length + xs.length ≤ 100 → Ok (forS (fun (x2 : Int) (s11 : Int × (List α)) => ((modO s11.1 (road.length : Int)).bind fun v12 => (atI road v12).bind fun v13 => (appO s11.2 v13).bind fun v14 => (divO s11.1 (road.length : Int)).bind fun v15 => some (v15, v14))) xs ((n : Int), row)) fun s => s.2 = row ++ digs road w0 xs.length n := by
    intro xs
    induction xs with
    | nil => intro n row _; exact ok_some (by simp [digs])
    | cons x xs ih =>
      intro n row h
      rw [List.length_cons] at h
      unfold forS
      have hm : ((n : Int) % (road.length : Int)) = ((n % road.length : Nat) : Int) := by simp
      have hq : ((n : Int) / (road.length : Int)) = ((n / road.length : Nat) : Int) := by simp
      have hml : n % road.length < road.length := Nat.mod_lt _ hd
      refine ok_b (v := (((n / road.length : Nat) : Int), row ++ [road.getD (n % road.length) w0])) (ok_is ?_) ?_
      · refine ok_b (modO_ok (by omega)) ?_
        rw [hm]
        refine ok_b (atI_ok (d := w0) (by omega) (by omega)) (ok_b (appO_ok (by show row.length < _; omega)) (ok_b (divO_ok (by omega) (by omega)) (ok_some ?_)))
        rw [hq]; rfl
      · refine (ih _ _ (by rw [List.length_append, List.length_singleton]; omega)).imp fun s hs => ?_
        rw [hs, List.append_assoc]; rfl
  refine ok_bind (key (rg k) n [] (by rw [rg_len]; simp; omega)) fun s hs => ok_some ?_
  rw [hs, rg_len]; rfl
theorem allRuns_eq {road : List α} (hd : 0 < road.length) (hd2 : road.length ≤ 1000000) (w0 : α) (k : Nat) (hk : k ≤ 100) {starts : List β} (hN : starts.length * road.length ^ k ≤ 3000) : allRuns road k starts = some (runsL road k starts) := by
  have hz := sizeLine_eq
  refine ok_is ?_
  unfold allRuns manyRuns
  have hM : 0 < road.length ^ k := Nat.pow_pos hd
  have hs : starts.length ≤ 3000 := Nat.le_trans (Nat.le_mul_of_pos_right _ hM) hN
  refine ok_b (v := ((starts.length * road.length ^ k : Nat) : Int)) (ok_is (ok_b (manyRows_eq road k hd2 hk) (ok_b (mulO_l (by omega)) (ok_some (by simp))))) ?_
  refine ok_if (fun hb => ?_) (fun _ => ?_)
  · have : (3000 : Int) < ((starts.length * road.length ^ k : Nat) : Int) := by simpa using hb
    omega
  refine ok_b (rgO_ok (by omega)) ?_
  cases starts with
  | nil =>
    refine ok_b (v := []) ?_ (ok_some ?_)
    · simp [compP, compR, rg]
    · simp [runsL]
  | cons s0 starts0 =>
    generalize hst : s0 :: starts0 = starts at hN hs
    have hsl : 0 < starts.length := by rw [← hst]; simp
    have hM2 : road.length ^ k ≤ 3000 := Nat.le_trans (Nat.le_mul_of_pos_left _ hsl) hN
    refine ok_b (compP_map (fun x => ((starts.getD (x.toNat / road.length ^ k) s0), (digs road w0 k (x.toNat % road.length ^ k)).reverse)) (by rw [rg_len]; omega) fun x hx => ?_) (ok_some ?_)
    · have hx := mem_rg.mp hx
      obtain ⟨n, rfl⟩ := Int.eq_ofNat_of_zero_le hx.1
      have hn : n < starts.length * road.length ^ k := by omega
      refine ok_is ?_
      unfold runAt
      have hq : ((n : Int) / ((road.length ^ k : Nat) : Int)) = ((n / road.length ^ k : Nat) : Int) := by simp
      have hm : ((n : Int) % ((road.length ^ k : Nat) : Int)) = ((n % road.length ^ k : Nat) : Int) := by simp
      have hqs : n / road.length ^ k < starts.length := Nat.div_lt_of_lt_mul (by rw [Nat.mul_comm]; exact hn)
      refine ok_bind (P := fun v => v = ((starts.getD (n / road.length ^ k) s0), (digs road w0 k (n % road.length ^ k)).reverse)) (ok_b (manyRows_eq road k hd2 hk) (ok_b (divO_ok (by omega) (by omega)) ?_)) fun v hv => ok_some (by rw [hv]; simp)
      rw [hq]
      refine ok_b (atI_ok (d := s0) (Int.natCast_nonneg _) (Int.ofNat_lt.mpr hqs)) (ok_b (modO_ok (by omega)) ?_)
      rw [hm]
      refine ok_b (rowAt_eq hd hd2 w0 k _ hk) (ok_some (by rw [Int.toNat_natCast]))
    · refine List.ext_getElem? fun n => ?_
      unfold runsL
      rw [flat_get hM _ (fun x _ => by rw [List.length_map, rowsL_len]), List.getElem?_map]
      by_cases q : n < starts.length * road.length ^ k
      · have hqs : n / road.length ^ k < starts.length := Nat.div_lt_of_lt_mul (by rw [Nat.mul_comm]; exact q)
        rw [rg_at q, List.getElem?_eq_getElem hqs]
        show _ = ((rowsL road k).map _)[n % road.length ^ k]?
        rw [List.getElem?_map, rows_get hd w0 k _ (Nat.mod_lt _ hM)]
        simp [List.getD_eq_getElem?_getD, List.getElem?_eq_getElem hqs]
      · have e1 : (rg (starts.length * road.length ^ k))[n]? = none := List.getElem?_eq_none (by rw [rg_len]; omega)
        have e2 : starts[n / road.length ^ k]? = none := List.getElem?_eq_none (by
          have := (Nat.le_div_iff_mul_le hM).mpr (Nat.le_of_not_lt q); exact this)
        rw [e1, e2]; rfl
/-! the law's way -/
def lawRuns (a0 : List α) (a1 : Int) (a2 : List β) : Option (List (β × List α)) :=
  (some ([[]])).bind fun (rows_1 : List (List α)) => (rgO a1).bind fun r2 => (forS (fun (x3 : Int) (s56 : List (List α)) => ((forS (fun (x57 : List α) (s74 : List (List α)) => ((forS (fun (x75 : α) (s80 : List (List α)) => ((catO x57 ([x75] : List α)).bind fun v81 => (appO s80 v81).bind fun v82 => some v82)) a0 s74).bind fun s80 => some s80)) s56 ([] : List (List α))).bind fun s74 => some s74)) r2 rows_1).bind fun s56 => (forS (fun (x83 : β) (s94 : List (β × List α)) => ((forS (fun (x95 : List α) (s98 : List (β × List α)) => ((appO s98 (x83, x95)).bind fun v99 => some v99)) s56 s94).bind fun s98 => some s98)) a2 ([] : List (β × List α))).bind fun s94 => some s94
theorem lawRows_eq {road : List α} (k : Nat) (hk : k ≤ 100) (hN : ∀ i, i ≤ k → road.length ^ i ≤ 100000) : forS (fun (x3 : Int) (s56 : List (List α)) => ((forS (fun (x57 : List α) (s74 : List (List α)) => ((forS (fun (x75 : α) (s80 : List (List α)) => ((catO x57 ([x75] : List α)).bind fun v81 => (appO s80 v81).bind fun v82 => some v82)) road s74).bind fun s80 => some s80)) s56 ([] : List (List α))).bind fun s74 => some s74)) (rg k) [[]] = some (rowsL road k) := by
  have hz := sizeLine_eq
  refine ok_is ((ok_forS (fun i s => s = rowsL road i) rfl fun i x s hx hs => ?_).imp fun s hs => by rw [hs, rg_len])
  obtain ⟨_, hi⟩ := rg_get hx
  subst hs
  have hl := rowsL_len road i
  have hN1 := hN (i + 1) (by omega)
  rw [Nat.pow_succ] at hN1
  refine ok_b (forS_gather (fun row => road.map fun w => row ++ [w]) road.length (rowsL road i) [] (fun x _ => by simp) (by rw [hl]; simp; omega) fun row hr s hs => ?_) (ok_some (by simp [rowsL]))
  have hrl := (rowsL_mem road i row hr).1
  rw [List.length_map] at hs
  refine ok_is (ok_b (forS_maps (fun w => row ++ [w]) road s hs fun w hw s' hs' => ?_) (ok_some rfl))
  exact ok_is (ok_b (catO_ok (by simp; omega)) (ok_b (appO_ok hs') (ok_some rfl)))
theorem lawRuns_eq {road : List α} (k : Nat) (hk : k ≤ 100) (hN : ∀ i, i ≤ k → road.length ^ i ≤ 100000) {starts : List β} (hN2 : starts.length * road.length ^ k ≤ 100000) : lawRuns road k starts = some (runsL road k starts) := by
  have hz := sizeLine_eq
  refine ok_is ?_
  unfold lawRuns
  refine ok_let (ok_b (rgO_ok (by omega)) (ok_b (lawRows_eq k hk hN) ?_))
  have hl := rowsL_len road k
  refine ok_b (forS_gather (fun s => (rowsL road k).map fun r => (s, r)) (road.length ^ k) starts [] (fun x _ => by simp [hl]) (by simp; omega) fun x hx s hs => ?_) (ok_some (by simp [runsL]))
  rw [List.length_map] at hs
  refine ok_is (ok_b (forS_maps (fun r => (x, r)) (rowsL road k) s hs fun w hw s' hs' => ?_) (ok_some rfl))
  exact ok_is (ok_b (appO_ok hs') (ok_some rfl))
end
end Ab
end
section
namespace Lw
open PySem PySem.Spec PyProof.Rows L2 Ab
/-- check_weather(hands, weather, last, letter, start, goal) -/
def f_check_weather : FS := fSeq (fAsgF 2 (fC .non)) (fFor (fIt (fVar 1)) (.nm 3) (fSeq (fAsgT (.tu [4, 5]) (fVar 3)) (fSeq (fIf (fOr (fB (fBin gLt (fVar 4) (fC (.int 0)))) (fOr (fB (fBin gGe (fVar 4) (fVar 0))) (fOr (fB (fBin gLt (fVar 5) (fC (.int 0)))) (fOr (fB (fBin gGe (fVar 5) (fVar 0))) (fB (fBin gEq (fVar 4) (fVar 5))))))) (fRaise "NoRoad") (fNext)) (fSeq (fIf (fAnd (fB (fBin gNotN (fVar 2) (fC .non))) (fB (fBin gLeX (fVar 3) (fVar 2)))) (fRaise "NoRoad") (fNext)) (fAsgF 2 (fVar 3))))))
def F_check_weather : List D → Ro := defF 2 6 f_check_weather
/-- check_road(hands, road, seen, weather) -/
def f_check_road : FS := fSeq (fIf (fOr (fB (fBin gLt (fVar 0) (fC (.int 2)))) (fB (fBin gGt (fVar 0) (fCB gLenX (fCons (fC (.str "abcd")) (fNil)))))) (fRaise "NoRoad") (fNext)) (fSeq (fIf (fOr (fB (fBin gLt (fCB gLenX (fCons (fVar 1) (fNil))) (fC (.int 1)))) (fB (fBin gGt (fCB gLenX (fCons (fVar 1) (fNil))) (fC (.int 8))))) (fRaise "NoRoad") (fNext)) (fSeq (fAsg 2 (fDic0 true)) (fFor (fIt (fVar 1)) (.nm 3) (fSeq (fDrop (fCall F_check_weather (fCons (fVar 0) (fCons (fVar 3) (fNil))))) (fSeq (fIf (fB (fBin gInX (fVar 3) (fVar 2))) (fRaise "NoRoad") (fNext)) (fSetD 2 (fVar 3) (fC (.bl true))))))))
def F_check_road : List D → Ro := defF 2 4 f_check_road
/-- read_letter(word) -/
def f_read_letter : FS := fSeq (fIf (fOr (fB (fBin gNe (fCB gLenX (fCons (fVar 0) (fNil))) (fC (.int 3)))) (fOr (fB (fBin gNotInX (fBin gIxX (fVar 0) (fC (.int 0))) (fC (.str "abcd")))) (fOr (fB (fBin gNe (fBin gIxX (fVar 0) (fC (.int 1))) (fC (.str ">")))) (fB (fBin gNotInX (fBin gIxX (fVar 0) (fC (.int 2))) (fC (.str "abcd"))))))) (fRaise "NoText") (fNext)) (fRet (fTup (fCons (fS1 gSIx (fC (.str "abcd")) (fBin gIxX (fVar 0) (fC (.int 0)))) (fCons (fS1 gSIx (fC (.str "abcd")) (fBin gIxX (fVar 0) (fC (.int 2)))) (fNil)))))
def F_read_letter : List D → Ro := defF 1 1 f_read_letter
/-- read_weather(part, word) -/
def f_read_weather : FS := fSeq (fIf (fB (fBin gEq (fVar 0) (fC (.str "-")))) (fRet (fTup (fNil))) (fNext)) (fRet (fCB gTuple (fCons (fCB gSortedT (fCons (fComp (fIt (fS1 gSplit (fVar 0) (fC (.str " ")))) (.nm 1) fYes (fCall F_read_letter (fCons (fVar 1) (fNil)))) (fNil))) (fNil))))
def F_read_weather : List D → Ro := defF 1 2 f_read_weather
/-- read_road(hands, text, road, part) -/
def f_read_road : FS := fSeq (fAsg 2 (fComp (fIt (fS1 gSplit (fVar 1) (fC (.str ", ")))) (.nm 3) fYes (fCall F_read_weather (fCons (fVar 3) (fNil))))) (fSeq (fDrop (fCall F_check_road (fCons (fVar 0) (fCons (fVar 2) (fNil))))) (fRet (fVar 2)))
def F_read_road : List D → Ro := defF 2 4 f_read_road
/-- shown_weather(weather, start, goal) -/
def f_shown_weather : FS := fSeq (fIf (fB (fBin gEq (fCB gLenX (fCons (fVar 0) (fNil))) (fC (.int 0)))) (fRet (fC (.str "-"))) (fNext)) (fRet (fS1 gJoin (fC (.str " ")) (fComp (fIt (fVar 0)) (.tu [1, 2]) fYes (fBin gAdd (fBin gAdd (fBin gIxX (fC (.str "abcd")) (fVar 1)) (fC (.str ">"))) (fBin gIxX (fC (.str "abcd")) (fVar 2))))))
def F_shown_weather : List D → Ro := defF 1 3 f_shown_weather
/-- shown_road(road, weather) -/
def f_shown_road : FS := fRet (fS1 gJoin (fC (.str ", ")) (fComp (fIt (fVar 0)) (.nm 1) fYes (fCall F_shown_weather (fCons (fVar 1) (fNil)))))
def F_shown_road : List D → Ro := defF 1 2 f_shown_road
/-- _law_at(_law_script, _law_k) -/
def f__law_at : FS := fSeq (fIf (fB (fBin gLt (fVar 1) (fCB gLenX (fCons (fVar 0) (fNil))))) (fRet (fBin gIxX (fVar 0) (fVar 1))) (fNext)) (fRet (fBin gAdd (fBin gMulA (fC (.int 13)) (fVar 1)) (fC (.int 6))))
def F__law_at : List D → Ro := defF 2 2 f__law_at
/-- _law_mix(_law_number, _law_place, _law_part, _law_turn) -/
def f__law_mix : FS := fSeq (fIf (fB (fBin gGe (fVar 0) (fBin gPow (fC (.int 10)) (fC (.int 12))))) (fSeq (fAsgF 0 (fBin gMinus (fBin gDiv (fVar 0) (fBin gPow (fC (.int 10)) (fC (.int 12)))) (fC (.int 1)))) (fSeq (fFor (fRange (fBin gMod (fVar 1) (fC (.int 61)))) (.nm 3) (fAsgF 0 (fBin gDiv (fVar 0) (fC (.int 2147483648))))) (fRet (fBin gMod (fVar 0) (fC (.int 2147483648)))))) (fNext)) (fSeq (fAsgF 2 (fBin gMod (fBin gMulA (fBin gAdd (fBin gAdd (fBin gMod (fVar 0) (fC (.int 2147483629))) (fVar 1)) (fC (.int 1))) (fBin gAdd (fBin gMulA (fBin gMulA (fC (.int 8)) (fVar 1)) (fVar 1)) (fC (.int 48271)))) (fC (.int 2147483647)))) (fSeq (fAsgF 2 (fBin gMod (fBin gMulA (fVar 2) (fVar 2)) (fC (.int 2147483587)))) (fRet (fBin gMod (fBin gMulA (fVar 2) (fBin gAdd (fVar 2) (fC (.int 2)))) (fC (.int 2147483579))))))
def F__law_mix : List D → Ro := defF 2 4 f__law_mix
/-- _law_letters(_law_hands, _law_letters_here, _law_start, _law_goal) -/
def f__law_letters : FS := fSeq (fAsg 1 (fLst (fNil))) (fSeq (fFor (fRange (fVar 0)) (.nm 2) (fDrop (fExt 1 (fComp (fRange (fVar 0)) (.nm 3) (fB (fBin gNe (fVar 3) (fVar 2))) (fTup (fCons (fVar 2) (fCons (fVar 3) (fNil)))))))) (fRet (fVar 1)))
def F__law_letters : List D → Ro := defF 1 4 f__law_letters
/-- _law_road(_law_script, _law_hands, _law_most, _law_letters_here, _law_lost, _law_cell, _law_road_here, _law_bag, _law_number, _law_at_here, _law_weather, _law_k) -/
def f__law_road : FS := fSeq (fAsgF 3 (fCall F__law_letters (fCons (fVar 1) (fNil)))) (fSeq (fAsg 4 (fComp (fRange (fBin gAdd (fC (.int 1)) (fBin gMod (fCall F__law_mix (fCons (fCall F__law_at (fCons (fVar 0) (fCons (fC (.int 0)) (fNil)))) (fCons (fC (.int 1)) (fNil)))) (fVar 2)))) (.nm 11) fYes (fBin gMulA (fLst (fCons (fC (.int 0)) (fNil))) (fCB gLenX (fCons (fVar 3) (fNil)))))) (fSeq (fFor (fIt (fSl (fVar 0) (fPart (fC (.int 1))) (fPart (fC (.int 64))))) (.nm 5) (fSeq (fAsgF 8 (fCall F__law_mix (fCons (fVar 5) (fCons (fC (.int 2)) (fNil))))) (fBag 4 7 9 8 3 8 (fBin gMod (fVar 8) (fCB gLenX (fCons (fVar 4) (fNil))))))) (fSeq (fAsg 6 (fLst (fNil))) (fSeq (fFor (fIt (fVar 4)) (.nm 7) (fSeq (fAsgF 10 (fCB gTuple (fCons (fComp (fRange (fCB gLenX (fCons (fVar 3) (fNil)))) (.nm 11) (fB (fBin gEq (fBin gIxX (fVar 7) (fVar 11)) (fC (.int 1)))) (fBin gIxX (fVar 3) (fVar 11))) (fNil)))) (fIf (fB (fBin gNotInX (fVar 10) (fVar 6))) (fDrop (fApp 6 (fVar 10))) (fNext)))) (fRet (fVar 6))))))
def F__law_road : List D → Ro := defF 3 12 f__law_road
/-- _law_text(_law_weather, _law_step, _law_words, _law_at_here, _law_start, _law_goal) -/
def f__law_text : FS := fSeq (fAsgF 2 (fComp (fIt (fVar 0)) (.tu [4, 5]) fYes (fBin gAdd (fBin gAdd (fBin gIxX (fC (.str "abcd")) (fVar 4)) (fC (.str ">"))) (fBin gIxX (fC (.str "abcd")) (fVar 5))))) (fSeq (fIf (fB (fBin gEq (fCB gLenX (fCons (fVar 2) (fNil))) (fC (.int 0)))) (fRet (fC (.str "-"))) (fNext)) (fSeq (fAsgF 3 (fBin gMod (fVar 1) (fCB gLenX (fCons (fVar 2) (fNil))))) (fSeq (fAsgF 2 (fBin gAdd (fSl (fVar 2) (fPart (fVar 3)) fNoPart) (fSl (fVar 2) fNoPart (fPart (fVar 3))))) (fSeq (fIf (fB (fBin gEq (fBin gMod (fBin gDiv (fVar 1) (fC (.int 16))) (fC (.int 2))) (fC (.int 1)))) (fAsgF 2 (fSlS (fVar 2) fNoPart fNoPart (fPart (fUn gNeg (fC (.int 1)))))) (fNext)) (fRet (fS1 gJoin (fC (.str " ")) (fVar 2)))))))
def F__law_text : List D → Ro := defF 2 6 f__law_text
/-- _law_same(_law_found, _law_road_here, _law_weather, _law_letter) -/
def f__law_same : FS := fSeq (fIf (fOr (fNot (fB (fCB gIsi (fCons (fVar 0) (fCons (fC (.ty "list")) (fNil)))))) (fB (fBin gNe (fVar 0) (fVar 1)))) (fRet (fC (.bl false))) (fNext)) (fSeq (fFor (fIt (fVar 0)) (.nm 2) (fSeq (fIf (fNot (fB (fCB gIsi (fCons (fVar 2) (fCons (fC (.ty "tuple")) (fNil)))))) (fRet (fC (.bl false))) (fNext)) (fFor (fIt (fVar 2)) (.nm 3) (fIf (fOr (fNot (fB (fCB gIsi (fCons (fVar 3) (fCons (fC (.ty "tuple")) (fNil)))))) (fOr (fB (fCB gIsi (fCons (fBin gIxX (fVar 3) (fC (.int 0))) (fCons (fC (.ty "bool")) (fNil))))) (fB (fCB gIsi (fCons (fBin gIxX (fVar 3) (fC (.int 1))) (fCons (fC (.ty "bool")) (fNil))))))) (fRet (fC (.bl false))) (fNext))))) (fRet (fC (.bl true))))
def F__law_same : List D → Ro := defF 2 4 f__law_same
/-- law(_law_script, _law_hands, _law_road_here, _law_handed, _law_told, _law_found, _law_number, _law_mixed, _law_k, _law_weather) -/
def f_law : FS := fSeq (fAsgF 1 (fBin gAdd (fC (.int 2)) (fBin gMod (fCall F__law_mix (fCons (fCall F__law_at (fCons (fVar 0) (fCons (fC (.int 0)) (fNil)))) (fCons (fC (.int 3)) (fNil)))) (fC (.int 3))))) (fSeq (fAsgF 2 (fCall F__law_road (fCons (fVar 0) (fCons (fVar 1) (fCons (fC (.int 8)) (fNil)))))) (fSeq (fAsgF 3 (fCB gList (fCons (fVar 2) (fNil)))) (fSeq (fAsgF 4 (fCall F_shown_road (fCons (fVar 3) (fNil)))) (fSeq (fIf (fOr (fNot (fB (fCB gIsi (fCons (fVar 4) (fCons (fC (.ty "str")) (fNil)))))) (fOr (fB (fBin gNe (fVar 4) (fS1 gJoin (fC (.str ", ")) (fComp (fIt (fVar 2)) (.nm 9) fYes (fCall F__law_text (fCons (fVar 9) (fCons (fC (.int 0)) (fNil)))))))) (fB (fBin gNe (fVar 3) (fVar 2))))) (fRet (fC (.bl false))) (fNext)) (fSeq (fAsg 5 (fCall F_read_road (fCons (fVar 1) (fCons (fVar 4) (fNil))))) (fSeq (fIf (fNot (fB (fCall F__law_same (fCons (fVar 5) (fCons (fVar 2) (fNil)))))) (fRet (fC (.bl false))) (fNext)) (fSeq (fDrop (fClr 5)) (fSeq (fAsgF 6 (fCall F__law_mix (fCons (fCall F__law_at (fCons (fVar 0) (fCons (fC (.int 0)) (fNil)))) (fCons (fC (.int 5)) (fNil))))) (fSeq (fAsgF 7 (fS1 gJoin (fC (.str ", ")) (fComp (fEnum (fVar 2)) (.tu [8, 9]) fYes (fCall F__law_text (fCons (fVar 9) (fCons (fBin gDiv (fVar 6) (fBin gAdd (fVar 8) (fC (.int 1)))) (fNil))))))) (fRet (fAndV (fCall F__law_same (fCons (fCall F_read_road (fCons (fVar 1) (fCons (fVar 7) (fNil)))) (fCons (fVar 2) (fNil)))) (fCall F__law_same (fCons (fCall F_read_road (fCons (fVar 1) (fCons (fVar 4) (fNil)))) (fCons (fVar 2) (fNil)))))))))))))))
def F_law : List D → Ro := defF 1 10 f_law
end Lw
end
section
namespace Lw
open PySem PySem.Spec PyProof.Rows L2 Ab
def scE (d : Scope) : Expr → Scope
  | .ListComp _ _ s _ => s
  | _ => d
def scS (d : Scope) : Stmt → Scope
  | .Return (some e) _ => scE d e
  | .Assign _ e _ => scE d e
  | _ => d
def scR (d : Scope) (st : Stmt) : Scope := relabel (scS d st) (envOfC (Str.ofString "") d 0 0 .none)
def topS (i : Nat) : Stmt := PySem.Challenge.pw_losspact_k02_shown_and_read.main.body.getD i (.Pass ⟨0, 0, 0, 0⟩)
abbrev s_check_weather : Stmt := topS 7
abbrev N_check_weather : List Str := ["hands", "weather", "last", "letter", "start", "goal"]
theorem sc_check_weather : FnScope N_check_weather ["hands", "weather"] (defScope s_check_weather) := ⟨rfl, rfl, rfl, by decide +kernel, rfl, by decide +kernel, by decide +kernel⟩
abbrev s_check_road : Stmt := topS 8
abbrev N_check_road : List Str := ["hands", "road", "seen", "weather"]
theorem sc_check_road : FnScope N_check_road ["hands", "road"] (defScope s_check_road) := ⟨rfl, rfl, rfl, by decide +kernel, rfl, by decide +kernel, by decide +kernel⟩
abbrev s_read_letter : Stmt := topS 9
abbrev N_read_letter : List Str := ["word"]
theorem sc_read_letter : FnScope N_read_letter ["word"] (defScope s_read_letter) := ⟨rfl, rfl, rfl, by decide +kernel, rfl, by decide +kernel, by decide +kernel⟩
abbrev s_read_weather : Stmt := topS 10
abbrev N_read_weather : List Str := ["part", "word"]
theorem sc_read_weather : FnScope N_read_weather ["part"] (defScope s_read_weather) := ⟨rfl, rfl, rfl, by decide +kernel, rfl, by decide +kernel, by decide +kernel⟩
abbrev s_read_road : Stmt := topS 11
abbrev N_read_road : List Str := ["hands", "text", "road", "part"]
theorem sc_read_road : FnScope N_read_road ["hands", "text"] (defScope s_read_road) := ⟨rfl, rfl, rfl, by decide +kernel, rfl, by decide +kernel, by decide +kernel⟩
abbrev s_shown_weather : Stmt := topS 12
abbrev N_shown_weather : List Str := ["weather", "start", "goal"]
theorem sc_shown_weather : FnScope N_shown_weather ["weather"] (defScope s_shown_weather) := ⟨rfl, rfl, rfl, by decide +kernel, rfl, by decide +kernel, by decide +kernel⟩
abbrev s_shown_road : Stmt := topS 13
abbrev N_shown_road : List Str := ["road", "weather"]
theorem sc_shown_road : FnScope N_shown_road ["road"] (defScope s_shown_road) := ⟨rfl, rfl, rfl, by decide +kernel, rfl, by decide +kernel, by decide +kernel⟩
abbrev s__law_at : Stmt := topS 15
abbrev N__law_at : List Str := ["_law_script", "_law_k"]
theorem sc__law_at : FnScope N__law_at ["_law_script", "_law_k"] (defScope s__law_at) := ⟨rfl, rfl, rfl, by decide +kernel, rfl, by decide +kernel, by decide +kernel⟩
abbrev s__law_mix : Stmt := topS 16
abbrev N__law_mix : List Str := ["_law_number", "_law_place", "_law_part", "_law_turn"]
theorem sc__law_mix : FnScope N__law_mix ["_law_number", "_law_place"] (defScope s__law_mix) := ⟨rfl, rfl, rfl, by decide +kernel, rfl, by decide +kernel, by decide +kernel⟩
abbrev s__law_letters : Stmt := topS 17
abbrev N__law_letters : List Str := ["_law_hands", "_law_letters_here", "_law_start", "_law_goal"]
theorem sc__law_letters : FnScope N__law_letters ["_law_hands"] (defScope s__law_letters) := ⟨rfl, rfl, rfl, by decide +kernel, rfl, by decide +kernel, by decide +kernel⟩
abbrev s__law_road : Stmt := topS 18
abbrev N__law_road : List Str := ["_law_script", "_law_hands", "_law_most", "_law_letters_here", "_law_lost", "_law_cell", "_law_road_here", "_law_bag", "_law_number", "_law_at_here", "_law_weather", "_law_k"]
theorem sc__law_road : FnScope N__law_road ["_law_script", "_law_hands", "_law_most"] (defScope s__law_road) := ⟨rfl, rfl, rfl, by decide +kernel, rfl, by decide +kernel, by decide +kernel⟩
abbrev s__law_text : Stmt := topS 19
abbrev N__law_text : List Str := ["_law_weather", "_law_step", "_law_words", "_law_at_here", "_law_start", "_law_goal"]
theorem sc__law_text : FnScope N__law_text ["_law_weather", "_law_step"] (defScope s__law_text) := ⟨rfl, rfl, rfl, by decide +kernel, rfl, by decide +kernel, by decide +kernel⟩
abbrev s__law_same : Stmt := topS 20
abbrev N__law_same : List Str := ["_law_found", "_law_road_here", "_law_weather", "_law_letter"]
theorem sc__law_same : FnScope N__law_same ["_law_found", "_law_road_here"] (defScope s__law_same) := ⟨rfl, rfl, rfl, by decide +kernel, rfl, by decide +kernel, by decide +kernel⟩
abbrev s_law : Stmt := topS 21
abbrev N_law : List Str := ["_law_script", "_law_hands", "_law_road_here", "_law_handed", "_law_told", "_law_found", "_law_number", "_law_mixed", "_law_k", "_law_weather"]
theorem sc_law : FnScope N_law ["_law_script"] (defScope s_law) := ⟨rfl, rfl, rfl, by decide +kernel, rfl, by decide +kernel, by decide +kernel⟩
/-- what the top has left: the defs' places a, their data, the built-ins, the constants -/
structure Txt (K : PySem.W.Frag) (mg : Str → Option Value) (cl : Str → Value) (c : Nat → Addr) (a : Nat → Addr) (fd : Nat → FuncData) : Prop where
  xg_NoRoad : mg "NoRoad" = some (.ref (c 0))
  xq_NoRoad : PySem.W.excIn K (c 0) [.type "ValueError", .type "Exception", .type "BaseException", .type "object"] "ValueError.__new__" = true
  xk_NoRoad : PySem.W.keepIn K (.ref (c 0)) = true
  xb_NoRoad : PySem.W.subIn K (.ref (c 0)) (.type "BaseException") = some true
  xt_NoRoad : PySem.W.typeIn K (.ref (c 0)) = some (.type "type")
  xc_NoRoad : cl "NoRoad" = .ref (c 0)
  xg_NoText : mg "NoText" = some (.ref (c 1))
  xq_NoText : PySem.W.excIn K (c 1) [.type "ValueError", .type "Exception", .type "BaseException", .type "object"] "ValueError.__new__" = true
  xk_NoText : PySem.W.keepIn K (.ref (c 1)) = true
  xb_NoText : PySem.W.subIn K (.ref (c 1)) (.type "BaseException") = some true
  xt_NoText : PySem.W.typeIn K (.ref (c 1)) = some (.type "type")
  xc_NoText : cl "NoText" = .ref (c 1)
  f_check_weather : Fun K "check_weather" "check_weather" s_check_weather (a 0) (fd 0)
  g_check_weather : mg "check_weather" = some (.ref (a 0))
  k_check_weather : PySem.W.keepIn K (.ref (a 0)) = true
  b_check_weather : L2.Binds K (fd 0) ["hands", "weather"] []
  f_check_road : Fun K "check_road" "check_road" s_check_road (a 1) (fd 1)
  g_check_road : mg "check_road" = some (.ref (a 1))
  k_check_road : PySem.W.keepIn K (.ref (a 1)) = true
  b_check_road : L2.Binds K (fd 1) ["hands", "road"] []
  f_read_letter : Fun K "read_letter" "read_letter" s_read_letter (a 2) (fd 2)
  g_read_letter : mg "read_letter" = some (.ref (a 2))
  k_read_letter : PySem.W.keepIn K (.ref (a 2)) = true
  b_read_letter : L2.Binds K (fd 2) ["word"] []
  f_read_weather : Fun K "read_weather" "read_weather" s_read_weather (a 3) (fd 3)
  g_read_weather : mg "read_weather" = some (.ref (a 3))
  k_read_weather : PySem.W.keepIn K (.ref (a 3)) = true
  b_read_weather : L2.Binds K (fd 3) ["part"] []
  f_read_road : Fun K "read_road" "read_road" s_read_road (a 4) (fd 4)
  g_read_road : mg "read_road" = some (.ref (a 4))
  k_read_road : PySem.W.keepIn K (.ref (a 4)) = true
  b_read_road : L2.Binds K (fd 4) ["hands", "text"] []
  f_shown_weather : Fun K "shown_weather" "shown_weather" s_shown_weather (a 5) (fd 5)
  g_shown_weather : mg "shown_weather" = some (.ref (a 5))
  k_shown_weather : PySem.W.keepIn K (.ref (a 5)) = true
  b_shown_weather : L2.Binds K (fd 5) ["weather"] []
  f_shown_road : Fun K "shown_road" "shown_road" s_shown_road (a 6) (fd 6)
  g_shown_road : mg "shown_road" = some (.ref (a 6))
  k_shown_road : PySem.W.keepIn K (.ref (a 6)) = true
  b_shown_road : L2.Binds K (fd 6) ["road"] []
  f__law_at : Fun K "_law_at" "_law_at" s__law_at (a 7) (fd 7)
  g__law_at : mg "_law_at" = some (.ref (a 7))
  k__law_at : PySem.W.keepIn K (.ref (a 7)) = true
  b__law_at : L2.Binds K (fd 7) ["_law_script", "_law_k"] []
  f__law_mix : Fun K "_law_mix" "_law_mix" s__law_mix (a 8) (fd 8)
  g__law_mix : mg "_law_mix" = some (.ref (a 8))
  k__law_mix : PySem.W.keepIn K (.ref (a 8)) = true
  b__law_mix : L2.Binds K (fd 8) ["_law_number", "_law_place"] []
  f__law_letters : Fun K "_law_letters" "_law_letters" s__law_letters (a 9) (fd 9)
  g__law_letters : mg "_law_letters" = some (.ref (a 9))
  k__law_letters : PySem.W.keepIn K (.ref (a 9)) = true
  b__law_letters : L2.Binds K (fd 9) ["_law_hands"] []
  f__law_road : Fun K "_law_road" "_law_road" s__law_road (a 10) (fd 10)
  g__law_road : mg "_law_road" = some (.ref (a 10))
  k__law_road : PySem.W.keepIn K (.ref (a 10)) = true
  b__law_road : L2.Binds K (fd 10) ["_law_script", "_law_hands", "_law_most"] []
  f__law_text : Fun K "_law_text" "_law_text" s__law_text (a 11) (fd 11)
  g__law_text : mg "_law_text" = some (.ref (a 11))
  k__law_text : PySem.W.keepIn K (.ref (a 11)) = true
  b__law_text : L2.Binds K (fd 11) ["_law_weather", "_law_step"] []
  f__law_same : Fun K "_law_same" "_law_same" s__law_same (a 12) (fd 12)
  g__law_same : mg "_law_same" = some (.ref (a 12))
  k__law_same : PySem.W.keepIn K (.ref (a 12)) = true
  b__law_same : L2.Binds K (fd 12) ["_law_found", "_law_road_here"] []
  f_law : Fun K "law" "law" s_law (a 13) (fd 13)
  g_law : mg "law" = some (.ref (a 13))
  k_law : PySem.W.keepIn K (.ref (a 13)) = true
  b_law : L2.Binds K (fd 13) ["_law_script"] []
  c_MOST : ∃ t, mg "MOST" = some (.int 8 t)
  c_NAMES : ∃ t, mg "NAMES" = some (.str "abcd" t)
  b_bool : mg "bool" = none
  b_enumerate : mg "enumerate" = none
  b_isinstance : mg "isinstance" = none
  b_len : mg "len" = none
  b_list : mg "list" = none
  b_range : mg "range" = none
  b_sorted : mg "sorted" = none
  b_str : mg "str" = none
  b_tuple : mg "tuple" = none
section
variable {P : Program} {w : World} {K : PySem.W.Frag} {mg : Str → Option Value} {base : Heap} {cl : Str → Value} {a : Nat → Addr} {fd : Nat → FuncData} {c : Nat → Addr}
theorem ok_check_weather (T : Txt K mg cl c a fd) : FnOk P w K mg base (L2.CX P w) 1 (a 0) (fd 0) ["hands", "weather"] (spF ⟨K, w, cl⟩ cl 2 F_check_weather) := by
  have sc := sc_check_weather
  refine ok_def (N := N_check_weather) (k := 0) (np := 2) (nn := 6) (fb := f_check_weather) rfl rfl T.f_check_weather sc fun cdv A outer s H E B hr tk hp => ?_
  exact (qs_cons (qs_setF (i := 2) sc.nd rfl (by first | exact Or.inl rfl | exact Or.inr rfl) qe_non)
      (qs_one (qs_for hp rfl rfl (qi_it rfl (qv 1)) (qg_name (i := 3) sc.nd rfl (by first | exact Or.inl rfl | exact Or.inr rfl)) (qs_cons (qs_asgT rfl (qv 3) (qg_tup rfl (qgs_cons (i := 4) sc.nd rfl (by first | exact Or.inl rfl | exact Or.inr rfl) (qgs_cons (i := 5) sc.nd rfl (by first | exact Or.inl rfl | exact Or.inr rfl) qgs_nil))))
      (qs_cons (qs_if ((qw_or (qt_cmp op_lt opd_lt (qv 4) qe_int (nomark _)) (qw_or (qt_cmp op_ge opd_ge (qv 4) (qv 0) (nomark _)) (qw_or (qt_cmp op_lt opd_lt (qv 5) qe_int (nomark _)) (qw_or (qt_cmp op_ge opd_ge (qv 5) (qv 0) (nomark _)) (qw_or1 (qt_cmp (op_eqD (hu64 hr)) opd_eq (qv 4) (qv 5) (nomark _)))))))).pt (qs_one (qs_raise PySem.F.excBase_ValueError rfl tk T.xq_NoRoad T.xg_NoRoad T.xk_NoRoad T.xb_NoRoad T.xt_NoRoad (by rfl) T.xc_NoRoad)) qs_nil)
      (qs_cons (qs_if ((qw_and (qt_cmp op_notN opd_notN (qv 2) qe_non (nomark _)) (qw_and1 (qt_cmp (op_leX (hu0 hr)) opd_leX (qv 3) (qv 2) (nomark _))))).pt (qs_one (qs_raise PySem.F.excBase_ValueError rfl tk T.xq_NoRoad T.xg_NoRoad T.xk_NoRoad T.xb_NoRoad T.xt_NoRoad (by rfl) T.xc_NoRoad)) qs_nil)
      (qs_one (qs_setF (i := 2) sc.nd rfl (by first | exact Or.inl rfl | exact Or.inr rfl) (qv 3)))))))))
theorem ok_check_road (T : Txt K mg cl c a fd) (G_check_weather : FnOk P w K mg base (L2.CX P w) 1 (a 0) (fd 0) ["hands", "weather"] (spF ⟨K, w, cl⟩ cl 2 F_check_weather)) : FnOk P w K mg base (L2.CX P w) 2 (a 1) (fd 1) ["hands", "road"] (spF ⟨K, w, cl⟩ cl 2 F_check_road) := by
  have sc := sc_check_road
  refine ok_def (N := N_check_road) (k := 1) (np := 2) (nn := 4) (fb := f_check_road) rfl rfl T.f_check_road sc fun cdv A outer s H E B hr tk hp => ?_
  exact (qs_cons (qs_if ((qw_or (qt_cmp op_lt opd_lt (qv 0) qe_int (nomark _)) (qw_or1 (qt_cmp op_gt opd_gt (qv 0) (qe_callB call_lenX cd_lenX (by rfl) T.b_len (by decide +kernel) (qa_cons (qe_gstr (T.c_NAMES.elim fun t e => pe_glob (by rfl) e ⟨t, rfl⟩)) qa_nil)) (nomark _))))).pt (qs_one (qs_raise PySem.F.excBase_ValueError rfl tk T.xq_NoRoad T.xg_NoRoad T.xk_NoRoad T.xb_NoRoad T.xt_NoRoad (by rfl) T.xc_NoRoad)) qs_nil)
      (qs_cons (qs_if ((qw_or (qt_cmp op_lt opd_lt (qe_callB call_lenX cd_lenX (by rfl) T.b_len (by decide +kernel) (qa_cons (qv 1) qa_nil)) qe_int (nomark _)) (qw_or1 (qt_cmp op_gt opd_gt (qe_callB call_lenX cd_lenX (by rfl) T.b_len (by decide +kernel) (qa_cons (qv 1) qa_nil)) (qe_gint (T.c_MOST.elim fun t e => pe_glob (by rfl) e ⟨t, rfl⟩)) (nomark _))))).pt (qs_one (qs_raise PySem.F.excBase_ValueError rfl tk T.xq_NoRoad T.xg_NoRoad T.xk_NoRoad T.xb_NoRoad T.xt_NoRoad (by rfl) T.xc_NoRoad)) qs_nil)
      (qs_cons (qs_set (i := 2) sc.nd rfl (by first | exact Or.inl rfl | exact Or.inr rfl) (qe_dic0N rfl))
      (qs_one (qs_for hp rfl rfl (qi_it rfl (qv 1)) (qg_name (i := 3) sc.nd rfl (by first | exact Or.inl rfl | exact Or.inr rfl)) (qs_cons (qs_expr (qe_call defF_len rfl tk G_check_weather (hr.mono (by decide)) (by rfl) T.g_check_weather T.k_check_weather T.b_check_weather (qa_cons (qv 0) (qa_cons (qv 3) qa_nil))))
      (qs_cons (qs_if (qt_cmp (op_inX (hu65 hr)) opd_inX (qv 3) (qv 2) (by rfl)) (qs_one (qs_raise PySem.F.excBase_ValueError rfl tk T.xq_NoRoad T.xg_NoRoad T.xk_NoRoad T.xb_NoRoad T.xt_NoRoad (by rfl) T.xc_NoRoad)) qs_nil)
      (qs_one (qs_setD (hu65 hr) rfl (pv 2) (qv 3) qe_bl)))))))))
theorem ok_read_letter (T : Txt K mg cl c a fd) : FnOk P w K mg base (L2.CX P w) 1 (a 2) (fd 2) ["word"] (spF ⟨K, w, cl⟩ cl 1 F_read_letter) := by
  have sc := sc_read_letter
  refine ok_def (N := N_read_letter) (k := 0) (np := 1) (nn := 1) (fb := f_read_letter) rfl rfl T.f_read_letter sc fun cdv A outer s H E B hr tk hp => ?_
  exact (qs_cons (qs_if ((qw_or (qt_cmp (op_neD (hu64 hr)) opd_ne (qe_callB call_lenX cd_lenX (by rfl) T.b_len (by decide +kernel) (qa_cons (qv 0) qa_nil)) qe_int (nomark _)) (qw_or (qt_cmp (op_notInX (hu65 hr)) opd_notInX (qe_ix (ix_X (hu65 hr)) opd_ixX (qv 0) qe_int (fun _ _ => rfl)) (qe_gstr (T.c_NAMES.elim fun t e => pe_glob (by rfl) e ⟨t, rfl⟩)) (by rfl)) (qw_or (qt_cmp (op_neD (hu64 hr)) opd_ne (qe_ix (ix_X (hu65 hr)) opd_ixX (qv 0) qe_int (fun _ _ => rfl)) qe_str (nomark _)) (qw_or1 (qt_cmp (op_notInX (hu65 hr)) opd_notInX (qe_ix (ix_X (hu65 hr)) opd_ixX (qv 0) qe_int (fun _ _ => rfl)) (qe_gstr (T.c_NAMES.elim fun t e => pe_glob (by rfl) e ⟨t, rfl⟩)) (by rfl))))))).pt (qs_one (qs_raise PySem.F.excBase_ValueError rfl tk T.xq_NoText T.xg_NoText T.xk_NoText T.xb_NoText T.xt_NoText (by rfl) T.xc_NoText)) qs_nil)
      (qs_one (qs_ret (qe_tup (qa_cons (qe_six (qe_gstr (T.c_NAMES.elim fun t e => pe_glob (by rfl) e ⟨t, rfl⟩)) (qe_ix (ix_X (hu65 hr)) opd_ixX (qv 0) qe_int (fun _ _ => rfl))) (qa_cons (qe_six (qe_gstr (T.c_NAMES.elim fun t e => pe_glob (by rfl) e ⟨t, rfl⟩)) (qe_ix (ix_X (hu65 hr)) opd_ixX (qv 0) qe_int (fun _ _ => rfl))) qa_nil))))))
theorem ok_read_weather (T : Txt K mg cl c a fd) (G_read_letter : FnOk P w K mg base (L2.CX P w) 1 (a 2) (fd 2) ["word"] (spF ⟨K, w, cl⟩ cl 1 F_read_letter)) : FnOk P w K mg base (L2.CX P w) 2 (a 3) (fd 3) ["part"] (spF ⟨K, w, cl⟩ cl 1 F_read_weather) := by
  have sc := sc_read_weather
  refine ok_def (N := N_read_weather) (k := 1) (np := 1) (nn := 2) (fb := f_read_weather) rfl rfl T.f_read_weather sc fun cdv A outer s H E B hr tk hp => ?_
  exact (qs_cons (qs_if (qt_cmp (op_eqD (hu64 hr)) opd_eq (qv 0) qe_str (nomark _)) (qs_one (qs_ret (qe_tup qa_nil))) qs_nil)
      (qs_one (qs_ret (qe_callTy call_tuple_of cd_tuple (by rfl) T.b_tuple (by decide +kernel) (qa_cons (qe_callB cr_sortedT2 cd_sortedT (by rfl) T.b_sorted (by decide +kernel) (qa_cons (qe_comp (own := [("word", 1)]) rfl sc.nd rfl rfl (qi_it rfl (qe_split (qv 0) qe_str)) (blkOk_by (own := [("word", 1)]) (N := N_read_weather) (sc := defScope s_read_weather) (by decide +kernel)) (fun _ _ _ _ _ => (qg_name (i := 1) sc.nd rfl (by first | exact Or.inl rfl | exact Or.inr rfl))) (fun _ _ _ _ _ => qts_nil) (fun _ _ _ _ _ => (qe_call defF_len rfl takes0 G_read_letter (hr.mono (by decide)) (by rfl) T.g_read_letter T.k_read_letter T.b_read_letter (qa_cons (qv 1) qa_nil)))) qa_nil)) qa_nil)))))
theorem ok_read_road (T : Txt K mg cl c a fd) (G_read_weather : FnOk P w K mg base (L2.CX P w) 2 (a 3) (fd 3) ["part"] (spF ⟨K, w, cl⟩ cl 1 F_read_weather)) (G_check_road : FnOk P w K mg base (L2.CX P w) 2 (a 1) (fd 1) ["hands", "road"] (spF ⟨K, w, cl⟩ cl 2 F_check_road)) : FnOk P w K mg base (L2.CX P w) 3 (a 4) (fd 4) ["hands", "text"] (spF ⟨K, w, cl⟩ cl 2 F_read_road) := by
  have sc := sc_read_road
  refine ok_def (N := N_read_road) (k := 2) (np := 2) (nn := 4) (fb := f_read_road) rfl rfl T.f_read_road sc fun cdv A outer s H E B hr tk hp => ?_
  exact (qs_cons (qs_comp (i := 2) (own := [("part", 3)]) rfl sc.nd rfl rfl rfl rfl (sw_true rfl rfl rfl (by decide +kernel)) (qi_it rfl (qe_split (qv 1) qe_str)) (blkOk_by (own := [("part", 3)]) (N := N_read_road) (sc := defScope s_read_road) (by decide +kernel)) (fun _ _ _ _ _ => (qg_name (i := 3) sc.nd rfl (by first | exact Or.inl rfl | exact Or.inr rfl))) (fun _ _ _ _ _ => qts_nil) (fun _ _ _ _ _ => (qe_call defF_len rfl takes0 G_read_weather (hr.mono (by decide)) (by rfl) T.g_read_weather T.k_read_weather T.b_read_weather (qa_cons (qv 3) qa_nil))))
      (qs_cons (qs_expr (qe_call defF_len rfl tk G_check_road (hr.mono (by decide)) (by rfl) T.g_check_road T.k_check_road T.b_check_road (qa_cons (qv 0) (qa_cons (qv 2) qa_nil))))
      (qs_one (qs_ret (qv 2)))))
theorem ok_shown_weather (T : Txt K mg cl c a fd) : FnOk P w K mg base (L2.CX P w) 1 (a 5) (fd 5) ["weather"] (spF ⟨K, w, cl⟩ cl 1 F_shown_weather) := by
  have sc := sc_shown_weather
  refine ok_def (N := N_shown_weather) (k := 0) (np := 1) (nn := 3) (fb := f_shown_weather) rfl rfl T.f_shown_weather sc fun cdv A outer s H E B hr tk hp => ?_
  exact (qs_cons (qs_if (qt_cmp (op_eqD (hu64 hr)) opd_eq (qe_callB call_lenX cd_lenX (by rfl) T.b_len (by decide +kernel) (qa_cons (qv 0) qa_nil)) qe_int (nomark _)) (qs_one (qs_ret qe_str)) qs_nil)
      (qs_one (qs_ret (qe_join rfl qe_str (qe_comp (own := [("start", 1), ("goal", 2)]) rfl sc.nd rfl rfl (qi_it rfl (qv 0)) (blkOk_by (own := [("start", 1), ("goal", 2)]) (N := N_shown_weather) (sc := defScope s_shown_weather) (by decide +kernel)) (fun _ _ _ _ _ => (qg_tup rfl (qgs_cons (i := 1) sc.nd rfl (by first | exact Or.inl rfl | exact Or.inr rfl) (qgs_cons (i := 2) sc.nd rfl (by first | exact Or.inl rfl | exact Or.inr rfl) qgs_nil)))) (fun _ _ _ _ _ => qts_nil) (fun _ _ _ _ _ => (qe_bin op_addA opd_add (qe_bin op_addA opd_add (qe_ix (ix_X (hu65 hr)) opd_ixX (qe_gstr (T.c_NAMES.elim fun t e => pe_glob (by rfl) e ⟨t, rfl⟩)) (qv 1) (fun _ _ => rfl)) qe_str) (qe_ix (ix_X (hu65 hr)) opd_ixX (qe_gstr (T.c_NAMES.elim fun t e => pe_glob (by rfl) e ⟨t, rfl⟩)) (qv 2) (fun _ _ => rfl)))))))))
theorem ok_shown_road (T : Txt K mg cl c a fd) (G_shown_weather : FnOk P w K mg base (L2.CX P w) 1 (a 5) (fd 5) ["weather"] (spF ⟨K, w, cl⟩ cl 1 F_shown_weather)) : FnOk P w K mg base (L2.CX P w) 2 (a 6) (fd 6) ["road"] (spF ⟨K, w, cl⟩ cl 1 F_shown_road) := by
  have sc := sc_shown_road
  refine ok_def (N := N_shown_road) (k := 1) (np := 1) (nn := 2) (fb := f_shown_road) rfl rfl T.f_shown_road sc fun cdv A outer s H E B hr tk hp => ?_
  exact (qs_one (qs_ret (qe_join rfl qe_str (qe_comp (own := [("weather", 1)]) rfl sc.nd rfl rfl (qi_it rfl (qv 0)) (blkOk_by (own := [("weather", 1)]) (N := N_shown_road) (sc := defScope s_shown_road) (by decide +kernel)) (fun _ _ _ _ _ => (qg_name (i := 1) sc.nd rfl (by first | exact Or.inl rfl | exact Or.inr rfl))) (fun _ _ _ _ _ => qts_nil) (fun _ _ _ _ _ => (qe_call defF_len rfl takes0 G_shown_weather (hr.mono (by decide)) (by rfl) T.g_shown_weather T.k_shown_weather T.b_shown_weather (qa_cons (qv 1) qa_nil)))))))
theorem ok__law_at (T : Txt K mg cl c a fd) : FnOk P w K mg base (L2.CX P w) 1 (a 7) (fd 7) ["_law_script", "_law_k"] (spF ⟨K, w, cl⟩ cl 2 F__law_at) := by
  have sc := sc__law_at
  refine ok_def (N := N__law_at) (k := 0) (np := 2) (nn := 2) (fb := f__law_at) rfl rfl T.f__law_at sc fun cdv A outer s H E B hr tk hp => ?_
  exact (qs_cons (qs_if (qt_cmp op_lt opd_lt (qv 1) (qe_callB call_lenX cd_lenX (by rfl) T.b_len (by decide +kernel) (qa_cons (qv 0) qa_nil)) (nomark _)) (qs_one (qs_ret (qe_ix (ix_X (hu65 hr)) opd_ixX (qv 0) (qv 1) (fun _ _ => rfl)))) qs_nil)
      (qs_one (qs_ret (qe_bin op_addA opd_add (qe_bin op_mulA opd_mulA qe_int (qv 1)) qe_int))))
theorem ok__law_mix (T : Txt K mg cl c a fd) : FnOk P w K mg base (L2.CX P w) 1 (a 8) (fd 8) ["_law_number", "_law_place"] (spF ⟨K, w, cl⟩ cl 2 F__law_mix) := by
  have sc := sc__law_mix
  refine ok_def (N := N__law_mix) (k := 0) (np := 2) (nn := 4) (fb := f__law_mix) rfl rfl T.f__law_mix sc fun cdv A outer s H E B hr tk hp => ?_
  exact (qs_cons (qs_if (qt_cmp op_ge opd_ge (qv 0) (qe_bin op_pow opd_pow qe_int qe_int) (nomark _)) (qs_cons (qs_setF (i := 0) sc.nd rfl (by first | exact Or.inl rfl | exact Or.inr rfl) (qe_bin op_sub opd_sub (qe_bin op_fdivW opd_div (qv 0) (qe_bin op_pow opd_pow qe_int qe_int)) qe_int))
      (qs_cons (qs_for hp rfl rfl (qi_range (by rfl) T.b_range (qe_bin op_mod opd_mod (qv 1) qe_int)) (qg_name (i := 3) sc.nd rfl (by first | exact Or.inl rfl | exact Or.inr rfl)) (qs_one (qs_setF (i := 0) sc.nd rfl (by first | exact Or.inl rfl | exact Or.inr rfl) (qe_bin op_fdivW opd_div (qv 0) qe_int))))
      (qs_one (qs_ret (qe_bin op_mod opd_mod (qv 0) qe_int))))) qs_nil)
      (qs_cons (qs_setF (i := 2) sc.nd rfl (by first | exact Or.inl rfl | exact Or.inr rfl) (qe_bin op_mod opd_mod (qe_bin op_mulA opd_mulA (qe_bin op_addA opd_add (qe_bin op_addA opd_add (qe_bin op_mod opd_mod (qv 0) qe_int) (qv 1)) qe_int) (qe_bin op_addA opd_add (qe_bin op_mulA opd_mulA (qe_bin op_mulA opd_mulA qe_int (qv 1)) (qv 1)) qe_int)) qe_int))
      (qs_cons (qs_setF (i := 2) sc.nd rfl (by first | exact Or.inl rfl | exact Or.inr rfl) (qe_bin op_mod opd_mod (qe_bin op_mulA opd_mulA (qv 2) (qv 2)) qe_int))
      (qs_one (qs_ret (qe_bin op_mod opd_mod (qe_bin op_mulA opd_mulA (qv 2) (qe_bin op_addA opd_add (qv 2) qe_int)) qe_int))))))
theorem ok__law_letters (T : Txt K mg cl c a fd) : FnOk P w K mg base (L2.CX P w) 1 (a 9) (fd 9) ["_law_hands"] (spF ⟨K, w, cl⟩ cl 1 F__law_letters) := by
  have sc := sc__law_letters
  refine ok_def (N := N__law_letters) (k := 0) (np := 1) (nn := 4) (fb := f__law_letters) rfl rfl T.f__law_letters sc fun cdv A outer s H E B hr tk hp => ?_
  exact (qs_cons (qs_set (i := 1) sc.nd rfl (by first | exact Or.inl rfl | exact Or.inr rfl) (qe_lst qa_nil))
      (qs_cons (qs_for hp rfl rfl (qi_range (by rfl) T.b_range (qv 0)) (qg_name (i := 2) sc.nd rfl (by first | exact Or.inl rfl | exact Or.inr rfl)) (qs_one (qs_expr (qe_ext rfl (pv 1) (qe_comp (own := [("_law_goal", 3)]) rfl sc.nd rfl rfl (qi_range (by rfl) T.b_range (qv 0)) (blkOk_by (own := [("_law_goal", 3)]) (N := N__law_letters) (sc := defScope s__law_letters) (by decide +kernel)) (fun _ _ _ _ _ => (qg_name (i := 3) sc.nd rfl (by first | exact Or.inl rfl | exact Or.inr rfl))) (fun _ _ _ _ _ => (qts_one (qt_cmp (op_neD (hu64 hr)) opd_ne (qv 3) (qv 2) (nomark _)))) (fun _ _ _ _ _ => (qe_tup (qa_cons (qv 2) (qa_cons (qv 3) qa_nil)))))))))
      (qs_one (qs_ret (qv 1)))))
theorem ok__law_road (T : Txt K mg cl c a fd) (G__law_letters : FnOk P w K mg base (L2.CX P w) 1 (a 9) (fd 9) ["_law_hands"] (spF ⟨K, w, cl⟩ cl 1 F__law_letters)) (G__law_mix : FnOk P w K mg base (L2.CX P w) 1 (a 8) (fd 8) ["_law_number", "_law_place"] (spF ⟨K, w, cl⟩ cl 2 F__law_mix)) (G__law_at : FnOk P w K mg base (L2.CX P w) 1 (a 7) (fd 7) ["_law_script", "_law_k"] (spF ⟨K, w, cl⟩ cl 2 F__law_at)) : FnOk P w K mg base (L2.CX P w) 2 (a 10) (fd 10) ["_law_script", "_law_hands", "_law_most"] (spF ⟨K, w, cl⟩ cl 3 F__law_road) := by
  have sc := sc__law_road
  refine ok_def (N := N__law_road) (k := 1) (np := 3) (nn := 12) (fb := f__law_road) rfl rfl T.f__law_road sc fun cdv A outer s H E B hr tk hp => ?_
  exact (qs_cons (qs_setF (i := 3) sc.nd rfl (by first | exact Or.inl rfl | exact Or.inr rfl) (qe_call defF_len rfl tk G__law_letters (hr.mono (by decide)) (by rfl) T.g__law_letters T.k__law_letters T.b__law_letters (qa_cons (qv 1) qa_nil)))
      (qs_cons (qs_comp (i := 4) (own := [("_law_k", 11)]) rfl sc.nd rfl rfl rfl rfl (sw_true rfl rfl rfl (by decide +kernel)) (qi_range (by rfl) T.b_range (qe_bin op_addA opd_add qe_int (qe_bin op_mod opd_mod (qe_call defF_len rfl tk G__law_mix (hr.mono (by decide)) (by rfl) T.g__law_mix T.k__law_mix T.b__law_mix (qa_cons (qe_call defF_len rfl tk G__law_at (hr.mono (by decide)) (by rfl) T.g__law_at T.k__law_at T.b__law_at (qa_cons (qv 0) (qa_cons qe_int qa_nil))) (qa_cons qe_int qa_nil))) (qv 2)))) (blkOk_by (own := [("_law_k", 11)]) (N := N__law_road) (sc := defScope s__law_road) (by decide +kernel)) (fun _ _ _ _ _ => (qg_name (i := 11) sc.nd rfl (by first | exact Or.inl rfl | exact Or.inr rfl))) (fun _ _ _ _ _ => qts_nil) (fun _ _ _ _ _ => (qe_bin op_mulA opd_mulA (qe_lst (qa_cons qe_int qa_nil)) (qe_callB call_lenX cd_lenX (by rfl) T.b_len (by decide +kernel) (qa_cons (qv 3) qa_nil)))))
      (qs_cons (qs_for hp rfl rfl (qi_it rfl (qe_slice rfl (qv 0) (qo_some qe_int) (qo_some qe_int))) (qg_name (i := 5) sc.nd rfl (by first | exact Or.inl rfl | exact Or.inr rfl)) (qs_cons (qs_setF (i := 8) sc.nd rfl (by first | exact Or.inl rfl | exact Or.inr rfl) (qe_call defF_len rfl tk G__law_mix (hr.mono (by decide)) (by rfl) T.g__law_mix T.k__law_mix T.b__law_mix (qa_cons (qv 5) (qa_cons qe_int qa_nil))))
      (qs_bag rfl (by decide) (ps_set (i := 7) sc.nd rfl (by first | exact Or.inl rfl | exact Or.inr rfl) (pe_ix ix_list (pv 4) (qe_bin op_mod opd_mod (qv 8) (qe_callB call_lenX cd_lenX (by rfl) T.b_len (by decide +kernel) (qa_cons (qv 4) qa_nil))) (fun _ _ => rfl))) (ps_set (i := 9) sc.nd rfl (by first | exact Or.inl rfl | exact Or.inr rfl) (pe_op op_mod (pe_op op_fdivW (pv 8) pe_int) (pe_callB call_len (by rfl) T.b_len (by decide +kernel) (pa_cons (pv 3) pa_nil)))) (ps_asg (pe_op op_sub pe_int (pe_ix ix_list (pv 7) (pv 9) (fun _ _ => rfl))) (pg_sub (pv 7) (pv 9) set_list (by intro _; rfl))))))
      (qs_cons (qs_set (i := 6) sc.nd rfl (by first | exact Or.inl rfl | exact Or.inr rfl) (qe_lst qa_nil))
      (qs_cons (qs_for hp rfl rfl (qi_it rfl (qv 4)) (qg_name (i := 7) sc.nd rfl (by first | exact Or.inl rfl | exact Or.inr rfl)) (qs_cons (qs_setF (i := 10) sc.nd rfl (by first | exact Or.inl rfl | exact Or.inr rfl) (qe_callTy call_tuple_of cd_tuple (by rfl) T.b_tuple (by decide +kernel) (qa_cons (qe_comp (own := [("_law_k", 11)]) rfl sc.nd rfl rfl (qi_range (by rfl) T.b_range (qe_callB call_lenX cd_lenX (by rfl) T.b_len (by decide +kernel) (qa_cons (qv 3) qa_nil))) (blkOk_by (own := [("_law_k", 11)]) (N := N__law_road) (sc := defScope s__law_road) (by decide +kernel)) (fun _ _ _ _ _ => (qg_name (i := 11) sc.nd rfl (by first | exact Or.inl rfl | exact Or.inr rfl))) (fun _ _ _ _ _ => (qts_one (qt_cmp (op_eqD (hu64 hr)) opd_eq (qe_ix (ix_X (hu65 hr)) opd_ixX (qv 7) (qv 11) (fun _ _ => rfl)) qe_int (nomark _)))) (fun _ _ _ _ _ => (qe_ix (ix_X (hu65 hr)) opd_ixX (qv 3) (qv 11) (fun _ _ => rfl)))) qa_nil)))
      (qs_one (qs_if (qt_cmp (op_notInX (hu65 hr)) opd_notInX (qv 10) (qv 6) (by rfl)) (qs_one (qs_expr (qe_app rfl (pv 6) (qv 10)))) qs_nil))))
      (qs_one (qs_ret (qv 6))))))))
theorem ok__law_text (T : Txt K mg cl c a fd) : FnOk P w K mg base (L2.CX P w) 1 (a 11) (fd 11) ["_law_weather", "_law_step"] (spF ⟨K, w, cl⟩ cl 2 F__law_text) := by
  have sc := sc__law_text
  refine ok_def (N := N__law_text) (k := 0) (np := 2) (nn := 6) (fb := f__law_text) rfl rfl T.f__law_text sc fun cdv A outer s H E B hr tk hp => ?_
  exact (qs_cons (qs_compF (i := 2) (own := [("_law_start", 4), ("_law_goal", 5)]) rfl sc.nd rfl rfl rfl rfl (sw_true rfl rfl rfl (by decide +kernel)) (qi_it rfl (qv 0)) (blkOk_by (own := [("_law_start", 4), ("_law_goal", 5)]) (N := N__law_text) (sc := defScope s__law_text) (by decide +kernel)) (fun _ _ _ _ _ => (qg_tup rfl (qgs_cons (i := 4) sc.nd rfl (by first | exact Or.inl rfl | exact Or.inr rfl) (qgs_cons (i := 5) sc.nd rfl (by first | exact Or.inl rfl | exact Or.inr rfl) qgs_nil)))) (fun _ _ _ _ _ => qts_nil) (fun _ _ _ _ _ => (qe_bin op_addA opd_add (qe_bin op_addA opd_add (qe_ix (ix_X (hu65 hr)) opd_ixX qe_str (qv 4) (fun _ _ => rfl)) qe_str) (qe_ix (ix_X (hu65 hr)) opd_ixX qe_str (qv 5) (fun _ _ => rfl)))))
      (qs_cons (qs_if (qt_cmp (op_eqD (hu64 hr)) opd_eq (qe_callB call_lenX cd_lenX (by rfl) T.b_len (by decide +kernel) (qa_cons (qv 2) qa_nil)) qe_int (nomark _)) (qs_one (qs_ret qe_str)) qs_nil)
      (qs_cons (qs_setF (i := 3) sc.nd rfl (by first | exact Or.inl rfl | exact Or.inr rfl) (qe_bin op_mod opd_mod (qv 1) (qe_callB call_lenX cd_lenX (by rfl) T.b_len (by decide +kernel) (qa_cons (qv 2) qa_nil))))
      (qs_cons (qs_setF (i := 2) sc.nd rfl (by first | exact Or.inl rfl | exact Or.inr rfl) (qe_bin op_addA opd_add (qe_slice rfl (qv 2) (qo_some (qv 3)) qo_none) (qe_slice rfl (qv 2) qo_none (qo_some (qv 3)))))
      (qs_cons (qs_if (qt_cmp (op_eqD (hu64 hr)) opd_eq (qe_bin op_mod opd_mod (qe_bin op_fdivW opd_div (qv 1) qe_int) qe_int) qe_int (nomark _)) (qs_one (qs_setF (i := 2) sc.nd rfl (by first | exact Or.inl rfl | exact Or.inr rfl) (qe_sliceS rfl (qv 2) qo_none qo_none (qo_some (qe_neg qe_int))))) qs_nil)
      (qs_one (qs_ret (qe_join rfl qe_str (qv 2)))))))))
theorem ok__law_same (T : Txt K mg cl c a fd) : FnOk P w K mg base (L2.CX P w) 1 (a 12) (fd 12) ["_law_found", "_law_road_here"] (spF ⟨K, w, cl⟩ cl 2 F__law_same) := by
  have sc := sc__law_same
  refine ok_def (N := N__law_same) (k := 0) (np := 2) (nn := 4) (fb := f__law_same) rfl rfl T.f__law_same sc fun cdv A outer s H E B hr tk hp => ?_
  exact (qs_cons (qs_if ((qw_or (qt_not (qt_val (qe_callB call_isi cd_isi (by rfl) T.b_isinstance (by decide +kernel) (qa_cons (qv 0) (qa_cons (qe_ty (pe_bltn (v := .ty "list") (by rfl) T.b_list (by decide +kernel) rfl)) qa_nil))))) (qw_or1 (qt_cmp (op_neD (hu64 hr)) opd_ne (qv 0) (qv 1) (nomark _))))).pt (qs_one (qs_ret qe_bl)) qs_nil)
      (qs_cons (qs_for hp rfl rfl (qi_it rfl (qv 0)) (qg_name (i := 2) sc.nd rfl (by first | exact Or.inl rfl | exact Or.inr rfl)) (qs_cons (qs_if (qt_not (qt_val (qe_callB call_isi cd_isi (by rfl) T.b_isinstance (by decide +kernel) (qa_cons (qv 2) (qa_cons (qe_ty (pe_bltn (v := .ty "tuple") (by rfl) T.b_tuple (by decide +kernel) rfl)) qa_nil))))) (qs_one (qs_ret qe_bl)) qs_nil)
      (qs_one (qs_for hp rfl rfl (qi_it rfl (qv 2)) (qg_name (i := 3) sc.nd rfl (by first | exact Or.inl rfl | exact Or.inr rfl)) (qs_one (qs_if ((qw_or (qt_not (qt_val (qe_callB call_isi cd_isi (by rfl) T.b_isinstance (by decide +kernel) (qa_cons (qv 3) (qa_cons (qe_ty (pe_bltn (v := .ty "tuple") (by rfl) T.b_tuple (by decide +kernel) rfl)) qa_nil))))) (qw_or (qt_val (qe_callB call_isi cd_isi (by rfl) T.b_isinstance (by decide +kernel) (qa_cons (qe_ix (ix_X (hu65 hr)) opd_ixX (qv 3) qe_int (fun _ _ => rfl)) (qa_cons (qe_ty (pe_bltn (v := .ty "bool") (by rfl) T.b_bool (by decide +kernel) rfl)) qa_nil)))) (qw_or1 (qt_val (qe_callB call_isi cd_isi (by rfl) T.b_isinstance (by decide +kernel) (qa_cons (qe_ix (ix_X (hu65 hr)) opd_ixX (qv 3) qe_int (fun _ _ => rfl)) (qa_cons (qe_ty (pe_bltn (v := .ty "bool") (by rfl) T.b_bool (by decide +kernel) rfl)) qa_nil)))))))).pt (qs_one (qs_ret qe_bl)) qs_nil))))))
      (qs_one (qs_ret qe_bl))))
theorem ok_law (T : Txt K mg cl c a fd) (G__law_mix : FnOk P w K mg base (L2.CX P w) 1 (a 8) (fd 8) ["_law_number", "_law_place"] (spF ⟨K, w, cl⟩ cl 2 F__law_mix)) (G__law_at : FnOk P w K mg base (L2.CX P w) 1 (a 7) (fd 7) ["_law_script", "_law_k"] (spF ⟨K, w, cl⟩ cl 2 F__law_at)) (G__law_road : FnOk P w K mg base (L2.CX P w) 2 (a 10) (fd 10) ["_law_script", "_law_hands", "_law_most"] (spF ⟨K, w, cl⟩ cl 3 F__law_road)) (G_shown_road : FnOk P w K mg base (L2.CX P w) 2 (a 6) (fd 6) ["road"] (spF ⟨K, w, cl⟩ cl 1 F_shown_road)) (G__law_text : FnOk P w K mg base (L2.CX P w) 1 (a 11) (fd 11) ["_law_weather", "_law_step"] (spF ⟨K, w, cl⟩ cl 2 F__law_text)) (G_read_road : FnOk P w K mg base (L2.CX P w) 3 (a 4) (fd 4) ["hands", "text"] (spF ⟨K, w, cl⟩ cl 2 F_read_road)) (G__law_same : FnOk P w K mg base (L2.CX P w) 1 (a 12) (fd 12) ["_law_found", "_law_road_here"] (spF ⟨K, w, cl⟩ cl 2 F__law_same)) : FnOk P w K mg base (L2.CX P w) 4 (a 13) (fd 13) ["_law_script"] (spF ⟨K, w, cl⟩ cl 1 F_law) := by
  have sc := sc_law
  refine ok_def (N := N_law) (k := 3) (np := 1) (nn := 10) (fb := f_law) rfl rfl T.f_law sc fun cdv A outer s H E B hr tk hp => ?_
  exact (qs_cons (qs_setF (i := 1) sc.nd rfl (by first | exact Or.inl rfl | exact Or.inr rfl) (qe_bin op_addA opd_add qe_int (qe_bin op_mod opd_mod (qe_call defF_len rfl tk G__law_mix (hr.mono (by decide)) (by rfl) T.g__law_mix T.k__law_mix T.b__law_mix (qa_cons (qe_call defF_len rfl tk G__law_at (hr.mono (by decide)) (by rfl) T.g__law_at T.k__law_at T.b__law_at (qa_cons (qv 0) (qa_cons qe_int qa_nil))) (qa_cons qe_int qa_nil))) qe_int)))
      (qs_cons (qs_setF (i := 2) sc.nd rfl (by first | exact Or.inl rfl | exact Or.inr rfl) (qe_call defF_len rfl tk G__law_road (hr.mono (by decide)) (by rfl) T.g__law_road T.k__law_road T.b__law_road (qa_cons (qv 0) (qa_cons (qv 1) (qa_cons qe_int qa_nil)))))
      (qs_cons (qs_setF (i := 3) sc.nd rfl (by first | exact Or.inl rfl | exact Or.inr rfl) (qe_callTy call_list_of cd_list (by rfl) T.b_list (by decide +kernel) (qa_cons (qv 2) qa_nil)))
      (qs_cons (qs_setF (i := 4) sc.nd rfl (by first | exact Or.inl rfl | exact Or.inr rfl) (qe_call defF_len rfl tk G_shown_road (hr.mono (by decide)) (by rfl) T.g_shown_road T.k_shown_road T.b_shown_road (qa_cons (qv 3) qa_nil)))
      (qs_cons (qs_if ((qw_or (qt_not (qt_val (qe_callB call_isi cd_isi (by rfl) T.b_isinstance (by decide +kernel) (qa_cons (qv 4) (qa_cons (qe_ty (pe_bltn (v := .ty "str") (by rfl) T.b_str (by decide +kernel) rfl)) qa_nil))))) (qw_or (qt_cmp (op_neD (hu64 hr)) opd_ne (qv 4) (qe_join rfl qe_str (qe_comp (own := [("_law_weather", 9)]) rfl sc.nd rfl rfl (qi_it rfl (qv 2)) (blkOk_by (own := [("_law_weather", 9)]) (N := N_law) (sc := defScope s_law) (by decide +kernel)) (fun _ _ _ _ _ => (qg_name (i := 9) sc.nd rfl (by first | exact Or.inl rfl | exact Or.inr rfl))) (fun _ _ _ _ _ => qts_nil) (fun _ _ _ _ _ => (qe_call defF_len rfl takes0 G__law_text (hr.mono (by decide)) (by rfl) T.g__law_text T.k__law_text T.b__law_text (qa_cons (qv 9) (qa_cons qe_int qa_nil)))))) (nomark _)) (qw_or1 (qt_cmp (op_neD (hu64 hr)) opd_ne (qv 3) (qv 2) (nomark _)))))).pt (qs_one (qs_ret qe_bl)) qs_nil)
      (qs_cons (qs_set (i := 5) sc.nd rfl (by first | exact Or.inl rfl | exact Or.inr rfl) (qe_call defF_len rfl tk G_read_road (hr.mono (by decide)) (by rfl) T.g_read_road T.k_read_road T.b_read_road (qa_cons (qv 1) (qa_cons (qv 4) qa_nil))))
      (qs_cons (qs_if (qt_not (qt_val (qe_call defF_len rfl tk G__law_same (hr.mono (by decide)) (by rfl) T.g__law_same T.k__law_same T.b__law_same (qa_cons (qv 5) (qa_cons (qv 2) qa_nil))))) (qs_one (qs_ret qe_bl)) qs_nil)
      (qs_cons (qs_expr (qe_clr rfl (pv 5)))
      (qs_cons (qs_setF (i := 6) sc.nd rfl (by first | exact Or.inl rfl | exact Or.inr rfl) (qe_call defF_len rfl tk G__law_mix (hr.mono (by decide)) (by rfl) T.g__law_mix T.k__law_mix T.b__law_mix (qa_cons (qe_call defF_len rfl tk G__law_at (hr.mono (by decide)) (by rfl) T.g__law_at T.k__law_at T.b__law_at (qa_cons (qv 0) (qa_cons qe_int qa_nil))) (qa_cons qe_int qa_nil))))
      (qs_cons (qs_setF (i := 7) sc.nd rfl (by first | exact Or.inl rfl | exact Or.inr rfl) (qe_join rfl qe_str (qe_comp (own := [("_law_k", 8), ("_law_weather", 9)]) rfl sc.nd rfl rfl (qi_enum rfl (by rfl) T.b_enumerate (qv 2)) (blkOk_by (own := [("_law_k", 8), ("_law_weather", 9)]) (N := N_law) (sc := defScope s_law) (by decide +kernel)) (fun _ _ _ _ _ => (qg_tup rfl (qgs_cons (i := 8) sc.nd rfl (by first | exact Or.inl rfl | exact Or.inr rfl) (qgs_cons (i := 9) sc.nd rfl (by first | exact Or.inl rfl | exact Or.inr rfl) qgs_nil)))) (fun _ _ _ _ _ => qts_nil) (fun _ _ _ _ _ => (qe_call defF_len rfl takes0 G__law_text (hr.mono (by decide)) (by rfl) T.g__law_text T.k__law_text T.b__law_text (qa_cons (qv 9) (qa_cons (qe_bin op_fdivW opd_div (qv 6) (qe_bin op_addA opd_add (qv 8) qe_int)) qa_nil)))))))
      (qs_one (qs_ret (qe_and (qe_call defF_len rfl tk G__law_same (hr.mono (by decide)) (by rfl) T.g__law_same T.k__law_same T.b__law_same (qa_cons (qe_call defF_len rfl tk G_read_road (hr.mono (by decide)) (by rfl) T.g_read_road T.k_read_road T.b_read_road (qa_cons (qv 1) (qa_cons (qv 7) qa_nil))) (qa_cons (qv 2) qa_nil))) (qe_one (qe_call defF_len rfl tk G__law_same (hr.mono (by decide)) (by rfl) T.g__law_same T.k__law_same T.b__law_same (qa_cons (qe_call defF_len rfl tk G_read_road (hr.mono (by decide)) (by rfl) T.g_read_road T.k_read_road T.b_read_road (qa_cons (qv 1) (qa_cons (qv 4) qa_nil))) (qa_cons (qv 2) qa_nil)))))))))))))))))
end
/-! ### the end -/
theorem all_mk {l : PySem.W.OpenLaw} {w : World} {K : PySem.W.Frag} {h : Heap} {mg : Str → Option Value} {fa : Addr} (X : K.In h) (G : h.Ns mainGlobals mg) (hfa : mg "law" = some (.ref fa))
    {p0 p1 p2 p3 p4 p5 p6 p7 p8 p9 p10 p11 p12 p13 : Addr} {od0 an0 od1 an1 od2 an2 od3 an3 od4 an4 od5 an5 od6 an6 od7 an7 od8 an8 od9 an9 od10 an10 od11 an11 od12 an12 od13 an13 : Option Addr} {sl0 sl1 sl2 sl3 sl4 sl5 sl6 sl7 sl8 sl9 sl10 sl11 sl12 sl13 : Array (Option Value)} {oc0 kV0 dc0 pm0 cd0 ct0 oc1 kV1 dc1 pm1 cd1 ct1 oc2 kV2 dc2 pm2 cd2 ct2 oc3 kV3 dc3 pm3 cd3 ct3 oc4 kV4 dc4 pm4 cd4 ct4 oc5 kV5 dc5 pm5 cd5 ct5 oc6 kV6 dc6 pm6 cd6 ct6 oc7 kV7 dc7 pm7 cd7 ct7 oc8 kV8 dc8 pm8 cd8 ct8 oc9 kV9 dc9 pm9 cd9 ct9 oc10 kV10 dc10 pm10 cd10 ct10 oc11 kV11 dc11 pm11 cd11 ct11 oc12 kV12 dc12 pm12 cd12 ct12 oc13 kV13 dc13 pm13 cd13 ct13 : Value}
    (a0 : PySem.W.nsIn K mainGlobals "check_weather" = some (some (.ref p0))) (l0 : K.lookup p0 = some ⟨oc0, od0, .func (PySem.W.fnOf "check_weather" "check_weather" (defArgs s_check_weather) (defBody s_check_weather) (defScope s_check_weather) .none kV0 dc0 pm0 an0 cd0 ct0), sl0⟩) (c0 : PySem.W.codeIn K cd0 "check_weather" = true) (k0 : PySem.W.keepIn K (.ref p0) = true)
    (a1 : PySem.W.nsIn K mainGlobals "check_road" = some (some (.ref p1))) (l1 : K.lookup p1 = some ⟨oc1, od1, .func (PySem.W.fnOf "check_road" "check_road" (defArgs s_check_road) (defBody s_check_road) (defScope s_check_road) .none kV1 dc1 pm1 an1 cd1 ct1), sl1⟩) (c1 : PySem.W.codeIn K cd1 "check_road" = true) (k1 : PySem.W.keepIn K (.ref p1) = true)
    (a2 : PySem.W.nsIn K mainGlobals "read_letter" = some (some (.ref p2))) (l2 : K.lookup p2 = some ⟨oc2, od2, .func (PySem.W.fnOf "read_letter" "read_letter" (defArgs s_read_letter) (defBody s_read_letter) (defScope s_read_letter) .none kV2 dc2 pm2 an2 cd2 ct2), sl2⟩) (c2 : PySem.W.codeIn K cd2 "read_letter" = true) (k2 : PySem.W.keepIn K (.ref p2) = true)
    (a3 : PySem.W.nsIn K mainGlobals "read_weather" = some (some (.ref p3))) (l3 : K.lookup p3 = some ⟨oc3, od3, .func (PySem.W.fnOf "read_weather" "read_weather" (defArgs s_read_weather) (defBody s_read_weather) (defScope s_read_weather) .none kV3 dc3 pm3 an3 cd3 ct3), sl3⟩) (c3 : PySem.W.codeIn K cd3 "read_weather" = true) (k3 : PySem.W.keepIn K (.ref p3) = true)
    (a4 : PySem.W.nsIn K mainGlobals "read_road" = some (some (.ref p4))) (l4 : K.lookup p4 = some ⟨oc4, od4, .func (PySem.W.fnOf "read_road" "read_road" (defArgs s_read_road) (defBody s_read_road) (defScope s_read_road) .none kV4 dc4 pm4 an4 cd4 ct4), sl4⟩) (c4 : PySem.W.codeIn K cd4 "read_road" = true) (k4 : PySem.W.keepIn K (.ref p4) = true)
    (a5 : PySem.W.nsIn K mainGlobals "shown_weather" = some (some (.ref p5))) (l5 : K.lookup p5 = some ⟨oc5, od5, .func (PySem.W.fnOf "shown_weather" "shown_weather" (defArgs s_shown_weather) (defBody s_shown_weather) (defScope s_shown_weather) .none kV5 dc5 pm5 an5 cd5 ct5), sl5⟩) (c5 : PySem.W.codeIn K cd5 "shown_weather" = true) (k5 : PySem.W.keepIn K (.ref p5) = true)
    (a6 : PySem.W.nsIn K mainGlobals "shown_road" = some (some (.ref p6))) (l6 : K.lookup p6 = some ⟨oc6, od6, .func (PySem.W.fnOf "shown_road" "shown_road" (defArgs s_shown_road) (defBody s_shown_road) (defScope s_shown_road) .none kV6 dc6 pm6 an6 cd6 ct6), sl6⟩) (c6 : PySem.W.codeIn K cd6 "shown_road" = true) (k6 : PySem.W.keepIn K (.ref p6) = true)
    (a7 : PySem.W.nsIn K mainGlobals "_law_at" = some (some (.ref p7))) (l7 : K.lookup p7 = some ⟨oc7, od7, .func (PySem.W.fnOf "_law_at" "_law_at" (defArgs s__law_at) (defBody s__law_at) (defScope s__law_at) .none kV7 dc7 pm7 an7 cd7 ct7), sl7⟩) (c7 : PySem.W.codeIn K cd7 "_law_at" = true) (k7 : PySem.W.keepIn K (.ref p7) = true)
    (a8 : PySem.W.nsIn K mainGlobals "_law_mix" = some (some (.ref p8))) (l8 : K.lookup p8 = some ⟨oc8, od8, .func (PySem.W.fnOf "_law_mix" "_law_mix" (defArgs s__law_mix) (defBody s__law_mix) (defScope s__law_mix) .none kV8 dc8 pm8 an8 cd8 ct8), sl8⟩) (c8 : PySem.W.codeIn K cd8 "_law_mix" = true) (k8 : PySem.W.keepIn K (.ref p8) = true)
    (a9 : PySem.W.nsIn K mainGlobals "_law_letters" = some (some (.ref p9))) (l9 : K.lookup p9 = some ⟨oc9, od9, .func (PySem.W.fnOf "_law_letters" "_law_letters" (defArgs s__law_letters) (defBody s__law_letters) (defScope s__law_letters) .none kV9 dc9 pm9 an9 cd9 ct9), sl9⟩) (c9 : PySem.W.codeIn K cd9 "_law_letters" = true) (k9 : PySem.W.keepIn K (.ref p9) = true)
    (a10 : PySem.W.nsIn K mainGlobals "_law_road" = some (some (.ref p10))) (l10 : K.lookup p10 = some ⟨oc10, od10, .func (PySem.W.fnOf "_law_road" "_law_road" (defArgs s__law_road) (defBody s__law_road) (defScope s__law_road) .none kV10 dc10 pm10 an10 cd10 ct10), sl10⟩) (c10 : PySem.W.codeIn K cd10 "_law_road" = true) (k10 : PySem.W.keepIn K (.ref p10) = true)
    (a11 : PySem.W.nsIn K mainGlobals "_law_text" = some (some (.ref p11))) (l11 : K.lookup p11 = some ⟨oc11, od11, .func (PySem.W.fnOf "_law_text" "_law_text" (defArgs s__law_text) (defBody s__law_text) (defScope s__law_text) .none kV11 dc11 pm11 an11 cd11 ct11), sl11⟩) (c11 : PySem.W.codeIn K cd11 "_law_text" = true) (k11 : PySem.W.keepIn K (.ref p11) = true)
    (a12 : PySem.W.nsIn K mainGlobals "_law_same" = some (some (.ref p12))) (l12 : K.lookup p12 = some ⟨oc12, od12, .func (PySem.W.fnOf "_law_same" "_law_same" (defArgs s__law_same) (defBody s__law_same) (defScope s__law_same) .none kV12 dc12 pm12 an12 cd12 ct12), sl12⟩) (c12 : PySem.W.codeIn K cd12 "_law_same" = true) (k12 : PySem.W.keepIn K (.ref p12) = true)
    (a13 : PySem.W.nsIn K mainGlobals "law" = some (some (.ref p13))) (l13 : K.lookup p13 = some ⟨oc13, od13, .func (PySem.W.fnOf "law" "law" (defArgs s_law) (defBody s_law) (defScope s_law) .none kV13 dc13 pm13 an13 cd13 ct13), sl13⟩) (c13 : PySem.W.codeIn K cd13 "law" = true) (k13 : PySem.W.keepIn K (.ref p13) = true)
    {pc0 pc1 : Addr}
    (xa0 : PySem.W.nsIn K mainGlobals "NoRoad" = some (some (.ref pc0))) (xq0 : PySem.W.excIn K pc0 [.type "ValueError", .type "Exception", .type "BaseException", .type "object"] "ValueError.__new__" = true) (xk0 : PySem.W.keepIn K (.ref pc0) = true) (xb0 : PySem.W.subIn K (.ref pc0) (.type "BaseException") = some true) (xt0 : PySem.W.typeIn K (.ref pc0) = some (.type "type"))
    (xa1 : PySem.W.nsIn K mainGlobals "NoText" = some (some (.ref pc1))) (xq1 : PySem.W.excIn K pc1 [.type "ValueError", .type "Exception", .type "BaseException", .type "object"] "ValueError.__new__" = true) (xk1 : PySem.W.keepIn K (.ref pc1) = true) (xb1 : PySem.W.subIn K (.ref pc1) (.type "BaseException") = some true) (xt1 : PySem.W.typeIn K (.ref pc1) = some (.type "type"))
    {tv_MOST tv_NAMES : Tok}
    (v_MOST : PySem.W.nsIn K mainGlobals "MOST" = some (some (.int 8 tv_MOST)))
    (v_NAMES : PySem.W.nsIn K mainGlobals "NAMES" = some (some (.str "abcd" tv_NAMES)))
    (z_bool : PySem.W.nsIn K mainGlobals "bool" = some none)
    (z_enumerate : PySem.W.nsIn K mainGlobals "enumerate" = some none)
    (z_isinstance : PySem.W.nsIn K mainGlobals "isinstance" = some none)
    (z_len : PySem.W.nsIn K mainGlobals "len" = some none)
    (z_list : PySem.W.nsIn K mainGlobals "list" = some none)
    (z_range : PySem.W.nsIn K mainGlobals "range" = some none)
    (z_sorted : PySem.W.nsIn K mainGlobals "sorted" = some none)
    (z_str : PySem.W.nsIn K mainGlobals "str" = some none)
    (z_tuple : PySem.W.nsIn K mainGlobals "tuple" = some none) :
    ∃ fd : FuncData, (∀ (s : Shared) (v : Value), BindsTo s fd ⟨[v], []⟩ [("_law_script", v)]) ∧ ∀ base : Heap, K.In base → base.Ns mainGlobals mg → FnOk l.prog w K mg base (L2.CX l.prog w) 4 fa fd ["_law_script"] (spAny K w 1 F_law) := by
  have e := hfa.symm.trans (PySem.W.mg_of X G a13)
  have e2 : p13 = fa := by injection e with e3; injection e3 with e4; exact e4.symm
  subst e2
  have F0 := fun_mk (st := s_check_weather) l0 c0 k0
  have F1 := fun_mk (st := s_check_road) l1 c1 k1
  have F2 := fun_mk (st := s_read_letter) l2 c2 k2
  have F3 := fun_mk (st := s_read_weather) l3 c3 k3
  have F4 := fun_mk (st := s_read_road) l4 c4 k4
  have F5 := fun_mk (st := s_shown_weather) l5 c5 k5
  have F6 := fun_mk (st := s_shown_road) l6 c6 k6
  have F7 := fun_mk (st := s__law_at) l7 c7 k7
  have F8 := fun_mk (st := s__law_mix) l8 c8 k8
  have F9 := fun_mk (st := s__law_letters) l9 c9 k9
  have F10 := fun_mk (st := s__law_road) l10 c10 k10
  have F11 := fun_mk (st := s__law_text) l11 c11 k11
  have F12 := fun_mk (st := s__law_same) l12 c12 k12
  have F13 := fun_mk (st := s_law) l13 c13 k13
  have T : Txt K mg (fun s => if s = "NoRoad" then .ref pc0 else if s = "NoText" then .ref pc1 else .none) (fun i => [pc0, pc1].getD i 0) (fun i => [p0, p1, p2, p3, p4, p5, p6, p7, p8, p9, p10, p11, p12, p13].getD i 0) (fun i => [PySem.W.fnOf "check_weather" "check_weather" (defArgs s_check_weather) (defBody s_check_weather) (defScope s_check_weather) .none kV0 dc0 pm0 an0 cd0 ct0, PySem.W.fnOf "check_road" "check_road" (defArgs s_check_road) (defBody s_check_road) (defScope s_check_road) .none kV1 dc1 pm1 an1 cd1 ct1, PySem.W.fnOf "read_letter" "read_letter" (defArgs s_read_letter) (defBody s_read_letter) (defScope s_read_letter) .none kV2 dc2 pm2 an2 cd2 ct2, PySem.W.fnOf "read_weather" "read_weather" (defArgs s_read_weather) (defBody s_read_weather) (defScope s_read_weather) .none kV3 dc3 pm3 an3 cd3 ct3, PySem.W.fnOf "read_road" "read_road" (defArgs s_read_road) (defBody s_read_road) (defScope s_read_road) .none kV4 dc4 pm4 an4 cd4 ct4, PySem.W.fnOf "shown_weather" "shown_weather" (defArgs s_shown_weather) (defBody s_shown_weather) (defScope s_shown_weather) .none kV5 dc5 pm5 an5 cd5 ct5, PySem.W.fnOf "shown_road" "shown_road" (defArgs s_shown_road) (defBody s_shown_road) (defScope s_shown_road) .none kV6 dc6 pm6 an6 cd6 ct6, PySem.W.fnOf "_law_at" "_law_at" (defArgs s__law_at) (defBody s__law_at) (defScope s__law_at) .none kV7 dc7 pm7 an7 cd7 ct7, PySem.W.fnOf "_law_mix" "_law_mix" (defArgs s__law_mix) (defBody s__law_mix) (defScope s__law_mix) .none kV8 dc8 pm8 an8 cd8 ct8, PySem.W.fnOf "_law_letters" "_law_letters" (defArgs s__law_letters) (defBody s__law_letters) (defScope s__law_letters) .none kV9 dc9 pm9 an9 cd9 ct9, PySem.W.fnOf "_law_road" "_law_road" (defArgs s__law_road) (defBody s__law_road) (defScope s__law_road) .none kV10 dc10 pm10 an10 cd10 ct10, PySem.W.fnOf "_law_text" "_law_text" (defArgs s__law_text) (defBody s__law_text) (defScope s__law_text) .none kV11 dc11 pm11 an11 cd11 ct11, PySem.W.fnOf "_law_same" "_law_same" (defArgs s__law_same) (defBody s__law_same) (defScope s__law_same) .none kV12 dc12 pm12 an12 cd12 ct12, PySem.W.fnOf "law" "law" (defArgs s_law) (defBody s_law) (defScope s_law) .none kV13 dc13 pm13 an13 cd13 ct13].getD i (PySem.W.fnOf "law" "law" (defArgs s_law) (defBody s_law) (defScope s_law) .none kV0 dc0 pm0 an0 cd0 ct0)) :=
    ⟨PySem.W.mg_of X G xa0, xq0, xk0, xb0, xt0, if_pos rfl, PySem.W.mg_of X G xa1, xq1, xk1, xb1, xt1, (if_neg (by decide +kernel)).trans (if_pos rfl), F0, PySem.W.mg_of X G a0, k0, F0.binds (fun _ _ _ _ _ _ us hl => match us, hl with | [_, _], _ => rfl), F1, PySem.W.mg_of X G a1, k1, F1.binds (fun _ _ _ _ _ _ us hl => match us, hl with | [_, _], _ => rfl), F2, PySem.W.mg_of X G a2, k2, F2.binds (fun _ _ _ _ _ _ us hl => match us, hl with | [_], _ => rfl), F3, PySem.W.mg_of X G a3, k3, F3.binds (fun _ _ _ _ _ _ us hl => match us, hl with | [_], _ => rfl), F4, PySem.W.mg_of X G a4, k4, F4.binds (fun _ _ _ _ _ _ us hl => match us, hl with | [_, _], _ => rfl), F5, PySem.W.mg_of X G a5, k5, F5.binds (fun _ _ _ _ _ _ us hl => match us, hl with | [_], _ => rfl), F6, PySem.W.mg_of X G a6, k6, F6.binds (fun _ _ _ _ _ _ us hl => match us, hl with | [_], _ => rfl), F7, PySem.W.mg_of X G a7, k7, F7.binds (fun _ _ _ _ _ _ us hl => match us, hl with | [_, _], _ => rfl), F8, PySem.W.mg_of X G a8, k8, F8.binds (fun _ _ _ _ _ _ us hl => match us, hl with | [_, _], _ => rfl), F9, PySem.W.mg_of X G a9, k9, F9.binds (fun _ _ _ _ _ _ us hl => match us, hl with | [_], _ => rfl), F10, PySem.W.mg_of X G a10, k10, F10.binds (fun _ _ _ _ _ _ us hl => match us, hl with | [_, _, _], _ => rfl), F11, PySem.W.mg_of X G a11, k11, F11.binds (fun _ _ _ _ _ _ us hl => match us, hl with | [_, _], _ => rfl), F12, PySem.W.mg_of X G a12, k12, F12.binds (fun _ _ _ _ _ _ us hl => match us, hl with | [_, _], _ => rfl), F13, PySem.W.mg_of X G a13, k13, F13.binds (fun _ _ _ _ _ _ us hl => match us, hl with | [_], _ => rfl), ⟨tv_MOST, PySem.W.mg_of X G v_MOST⟩, ⟨tv_NAMES, PySem.W.mg_of X G v_NAMES⟩, PySem.W.mg_none_of X G z_bool, PySem.W.mg_none_of X G z_enumerate, PySem.W.mg_none_of X G z_isinstance, PySem.W.mg_none_of X G z_len, PySem.W.mg_none_of X G z_list, PySem.W.mg_none_of X G z_range, PySem.W.mg_none_of X G z_sorted, PySem.W.mg_none_of X G z_str, PySem.W.mg_none_of X G z_tuple⟩
  refine ⟨PySem.W.fnOf "law" "law" (defArgs s_law) (defBody s_law) (defScope s_law) .none kV13 dc13 pm13 an13 cd13 ct13, fun s v => .of_eq rfl, fun base _ _ => ?_⟩
  have G_check_weather := ok_check_weather (P := l.prog) (w := w) (base := base) T
  have G_check_road := ok_check_road (P := l.prog) (w := w) (base := base) T G_check_weather
  have G_read_letter := ok_read_letter (P := l.prog) (w := w) (base := base) T
  have G_read_weather := ok_read_weather (P := l.prog) (w := w) (base := base) T G_read_letter
  have G_read_road := ok_read_road (P := l.prog) (w := w) (base := base) T G_read_weather G_check_road
  have G_shown_weather := ok_shown_weather (P := l.prog) (w := w) (base := base) T
  have G_shown_road := ok_shown_road (P := l.prog) (w := w) (base := base) T G_shown_weather
  have G__law_at := ok__law_at (P := l.prog) (w := w) (base := base) T
  have G__law_mix := ok__law_mix (P := l.prog) (w := w) (base := base) T
  have G__law_letters := ok__law_letters (P := l.prog) (w := w) (base := base) T
  have G__law_road := ok__law_road (P := l.prog) (w := w) (base := base) T G__law_letters G__law_mix G__law_at
  have G__law_text := ok__law_text (P := l.prog) (w := w) (base := base) T
  have G__law_same := ok__law_same (P := l.prog) (w := w) (base := base) T
  have G_law := ok_law (P := l.prog) (w := w) (base := base) T G__law_mix G__law_at G__law_road G_shown_road G__law_text G_read_road G__law_same
  exact G_law.imp (spAny_to _)
end Lw
end
section
namespace Lw
open PySem L2 Ab
abbrev e_FI : List Int → D := fun xs => D.fro (xs.map D.int)
theorem k_FI : EncOk e_FI 1 := enc_fro enc_int
abbrev e_P2II : (Int × Int) → D := eP D.int D.int
theorem k_P2II : EncOk e_P2II 1 := enc_P2 (enc_up enc_int (by decide)) (enc_up enc_int (by decide))
abbrev e_LP2II : (List (Int × Int)) → D := eL e_P2II
theorem k_LP2II : EncOk e_LP2II 2 := enc_lst k_P2II
abbrev e_MP2II : (List (Int × Int)) → D := eM e_P2II
theorem z_MP2II : Fz e_MP2II e_LP2II := fz_M (fz_F k_P2II)
theorem t_MP2II : Dt e_MP2II e_LP2II := dt_M dt_rfl
abbrev e_LI : List Int → D := eL D.int
theorem k_LI : EncOk e_LI 1 := enc_lst enc_int
abbrev e_MI : List Int → D := eM D.int
theorem z_MI : Fz e_MI e_LI := fz_M (fz_F enc_int)
theorem t_MI : Dt e_MI e_LI := dt_M dt_rfl
abbrev e_LLI : List (List Int) → D := eL e_LI
theorem k_LLI : EncOk e_LLI 2 := enc_lst k_LI
abbrev e_MMI : List (List Int) → D := eM e_MI
theorem z_MMI : Fz e_MMI e_LLI := fz_M z_MI
theorem t_MMI : Dt e_MMI e_LLI := dt_M t_MI
abbrev e_TP2II : (List (Int × Int)) → D := eT e_P2II
theorem k_TP2II : EncOk e_TP2II 2 := enc_tup k_P2II
abbrev e_LTP2II : (List (List (Int × Int))) → D := eL e_TP2II
theorem k_LTP2II : EncOk e_LTP2II 3 := enc_lst k_TP2II
abbrev e_MTP2II : (List (List (Int × Int))) → D := eM e_TP2II
theorem z_MTP2II : Fz e_MTP2II e_LTP2II := fz_M (fz_F k_TP2II)
theorem t_MTP2II : Dt e_MTP2II e_LTP2II := dt_M dt_rfl
abbrev e_LS : List Str → D := eL D.str
theorem k_LS : FOk e_LS := fo_L
abbrev e_MS : List Str → D := eM D.str
theorem z_MS : Fz e_MS e_LS := fz_M (fz_FO fo_str)
abbrev e_N : Unit → D := (fun _ => D.non)
theorem k_N : EncOk e_N 0 := enc_non
abbrev e_OP2II : (Option (Int × Int)) → D := eO e_P2II
theorem k_OP2II : EncOk e_OP2II 1 := enc_opt k_P2II (nn_P).1 (nn_P).2
theorem key_TP2II : KeyEnc e_TP2II true (nkT (nkP NestedKey.num NestedKey.num)) := key_tup (nko_T (nko_P (nko_up (k := 0) nko_int (by decide)) (nko_up (k := 0) nko_int (by decide)))) (fun _ => ⟨_, rfl⟩)
abbrev e_DLnTP2IIB : (List ((List (Int × Int)) × Bool)) → D := eDL true e_TP2II D.bl
theorem k_DLnTP2IIB : FOk e_DLnTP2IIB := fo_D
abbrev e_DMnTP2IIB : (List ((List (Int × Int)) × Bool)) → D := eDM true e_TP2II D.bl
theorem z_DMnTP2IIB : Fz e_DMnTP2IIB e_DLnTP2IIB := fz_D (fz_F enc_bl)
abbrev e_P2ITP2II : (Int × (List (Int × Int))) → D := eP D.int e_TP2II
theorem k_P2ITP2II : EncOk e_P2ITP2II 3 := enc_P2 (enc_up enc_int (by decide)) (enc_up k_TP2II (by decide))
def P__law_at (a0 : List Int) (a1 : Int) : Option Int :=
  if (decide (a1 < (a0.length : Int))) = true then ((atI a0 a1).bind fun v1 => some v1) else (some (((13 : Int) * a1) + (6 : Int)))
theorem sim__law_at (a0 : List Int) (a1 : Int) (r : Int) (h : P__law_at a0 a1 = some r) : F__law_at [e_FI a0, D.int a1] = .ok (D.int r) := by
  refine def_F (e := D.int) [some (e_FI a0), some (D.int a1)] rfl rfl (fun _ _ q => nomatch q) h (sm_last ?_)
  unfold f__law_at P__law_at
  refine sm_as ?_
  refine sm_ifs ((ev_B (ev_bin (ev_var rfl (enc_int.f _)) (ev_cb (ev_cons (ev_var rfl (k_FI.f _)) ev_nil) (gLenX_s (e1 := D.int) rfl)) gLt_ok))) (fun hb => ?_) (fun hb => ?_)
  · refine sm_need fun v1 hv1 => ?_
    exact sm_retF (ev_ret (ev_bin (ev_var rfl (k_FI.f _)) (ev_var rfl (enc_int.f _)) (gIxX_s (gIx_o (e := D.int) rfl hv1 (enc_int.f _)) rfl)) na_int)
  · refine sm_skip ?_
    exact sm_retF (ev_ret (ev_bin (ev_bin ev_C (ev_var rfl (enc_int.f _)) (gMul_cl (by decide))) ev_C gAdd_ok) na_int)
def P__law_mix (a0 : Int) (a1 : Int) : Option Int :=
  if (decide ((10 ^ 12 : Int) ≤ a0)) = true then ((some (((a0 / (10 ^ 12 : Int)) - (1 : Int)))).bind fun (number_1 : Int) => (rgO (a1 % (61 : Int))).bind fun r2 => (forS (fun (x3 : Int) (s6 : Int) => ((some ((s6 / (2147483648 : Int)))).bind fun (number_7 : Int) => some number_7)) r2 number_1).bind fun s6 => some (s6 % (2147483648 : Int))) else ((mulO ((8 : Int) * a1) a1).bind fun v8 => (mulO (((a0 % (2147483629 : Int)) + a1) + (1 : Int)) (v8 + (48271 : Int))).bind fun v9 => (some ((v9 % (2147483647 : Int)))).bind fun (part_10 : Int) => (mulO part_10 part_10).bind fun v11 => (some ((v11 % (2147483587 : Int)))).bind fun (part_12 : Int) => (mulO part_12 (part_12 + (2 : Int))).bind fun v13 => some (v13 % (2147483579 : Int)))
theorem sim__law_mix (a0 : Int) (a1 : Int) (r : Int) (h : P__law_mix a0 a1 = some r) : F__law_mix [D.int a0, D.int a1] = .ok (D.int r) := by
  refine def_F (e := D.int) [some (D.int a0), some (D.int a1), none, none] rfl rfl (fun _ _ q => nomatch q) h (sm_last ?_)
  unfold f__law_mix P__law_mix
  refine sm_as ?_
  refine sm_ifs ((ev_B (ev_bin (ev_var rfl (enc_int.f _)) (ev_bin ev_C ev_C (gPow_ok (b := 12) (by decide) (by decide))) gGe_ok))) (fun hb => ?_) (fun hb => ?_)
  · refine sm_as ?_
    refine sm_nl (fun (number_1 : Int) => [some (D.int number_1), some (D.int a1), none, none]) (ev_asgF (ev_bin (ev_bin (ev_var rfl (enc_int.f _)) (ev_bin ev_C ev_C (gPow_ok (b := 12) (by decide) (by decide))) (gDiv_ok (by decide) (by decide))) ev_C gMinus_ok) (enc_int.f _)) fun number_1 => ?_
    refine sm_as ?_
    refine sm_need fun r2 hr2 => ?_
    refine sm_forS (e := D.int) (fun (s6 : Int) A => ∃ j3 : Option D, A = [some (D.int s6), some (D.int a1), none, j3]) ((ev_rangeO (ev_bin (ev_var rfl (enc_int.f _)) ev_C (gMod_ok (by decide))) hr2)) ⟨_, rfl⟩ (fun x3 s6 _ hR => ?_) ?_
    · obtain ⟨j3, rfl⟩ := hR
      refine ⟨[some (D.int s6), some (D.int a1), none, some (D.int x3)], rfl, sm_last ?_⟩
      refine sm_nl (fun (number_7 : Int) => [some (D.int number_7), some (D.int a1), none, some (D.int x3)]) (ev_asgF (ev_bin (ev_var rfl (enc_int.f _)) ev_C (gDiv_ok (by decide) (by decide))) (enc_int.f _)) fun number_7 => ?_
      exact sm_endC ⟨_, rfl⟩
    rintro s6 _ ⟨j3, rfl⟩
    exact sm_retF (ev_ret (ev_bin (ev_var rfl (enc_int.f _)) ev_C (gMod_ok (by decide))) na_int)
  · refine sm_skip ?_
    refine sm_as ?_
    refine sm_need fun v8 hv8 => ?_
    refine sm_need fun v9 hv9 => ?_
    refine sm_nl (fun (part_10 : Int) => [some (D.int a0), some (D.int a1), some (D.int part_10), none]) (ev_asgF (ev_bin (ev_bin (ev_bin (ev_bin (ev_bin (ev_var rfl (enc_int.f _)) ev_C (gMod_ok (by decide))) (ev_var rfl (enc_int.f _)) gAdd_ok) ev_C gAdd_ok) (ev_bin (ev_bin (ev_bin ev_C (ev_var rfl (enc_int.f _)) (gMul_cl (by decide))) (ev_var rfl (enc_int.f _)) (gMul_o hv8)) ev_C gAdd_ok) (gMul_o hv9)) ev_C (gMod_ok (by decide))) (enc_int.f _)) fun part_10 => ?_
    refine sm_as ?_
    refine sm_need fun v11 hv11 => ?_
    refine sm_nl (fun (part_12 : Int) => [some (D.int a0), some (D.int a1), some (D.int part_12), none]) (ev_asgF (ev_bin (ev_bin (ev_var rfl (enc_int.f _)) (ev_var rfl (enc_int.f _)) (gMul_o hv11)) ev_C (gMod_ok (by decide))) (enc_int.f _)) fun part_12 => ?_
    refine sm_need fun v13 hv13 => ?_
    exact sm_retF (ev_ret (ev_bin (ev_bin (ev_var rfl (enc_int.f _)) (ev_bin (ev_var rfl (enc_int.f _)) ev_C gAdd_ok) (gMul_o hv13)) ev_C (gMod_ok (by decide))) na_int)
def P__law_letters (a0 : Int) : Option (List (Int × Int)) :=
  (rgO a0).bind fun r1 => (forS (fun (x2 : Int) (s11 : (List (Int × Int))) => ((rgO a0).bind fun r12 => (compO r12 (fun (x13 : Int) => (!decide (x13 = x2))) (fun (x13 : Int) => (x2, x13))).bind fun v14 => (catO s11 v14).bind fun v15 => some v15)) r1 ([] : List (Int × Int))).bind fun s11 => some s11
theorem sim__law_letters (a0 : Int) (r : List (Int × Int)) (h : P__law_letters a0 = some r) : F__law_letters [D.int a0] = .ok (e_MP2II r) := by
  refine def_F (e := e_MP2II) [some (D.int a0), none, none, none] rfl rfl (fun _ _ q => nomatch q) h (sm_last ?_)
  unfold f__law_letters P__law_letters
  refine sm_as ?_
  refine sm_n (ev_asg (ev_lst ev_nil isFs_nil (short_ _ 0 rfl (by decide))) (fun _ q => nomatch q)) ?_
  refine sm_as ?_
  refine sm_need fun r1 hr1 => ?_
  refine sm_forS (e := D.int) (fun (s11 : (List (Int × Int))) A => ∃ j2 : Option D, A = [some (D.int a0), some (e_MP2II s11), j2, none]) ((ev_rangeO (ev_var rfl (enc_int.f _)) hr1)) ⟨_, rfl⟩ (fun x2 s11 _ hR => ?_) ?_
  · obtain ⟨j2, rfl⟩ := hR
    refine ⟨[some (D.int a0), some (e_MP2II s11), some (D.int x2), none], rfl, sm_last ?_⟩
    refine sm_need fun r12 hr12 => ?_
    refine sm_need fun v14 hv14 => ?_
    refine sm_need fun v15 hv15 => ?_
    refine sm_n (ev_drop (ev_extO (e := e_P2II) (xs := s11) (ys := v14) rfl (ev_compO (e := D.int) (e' := e_P2II) (ev_rangeO (ev_var rfl (enc_int.f _)) hr12) hv14 (fun _ _ q => nomatch q) (fun x13 => ⟨[some (D.int a0), some (e_MP2II s11), some (D.int x2), some (D.int x13)], rfl, (ev_B (ev_bin (ev_var rfl (enc_int.f _)) (ev_var rfl (enc_int.f _)) gNe_int)), fun _ => (ev_tup (ev_cons (ev_var rfl (enc_int.f _)) (ev_cons (ev_var rfl (enc_int.f _)) ev_nil)) (isFs_cons (enc_int.f _) (isFs_cons (enc_int.f _) isFs_nil)) (short_ _ 2 rfl (by decide))), rfl⟩)) (fun _ q => nomatch q) (z_MP2II v14) rfl hv15)) ?_
    exact sm_endC ⟨_, rfl⟩
  rintro s11 _ ⟨j2, rfl⟩
  exact sm_retF (ev_ret_alG (ev_al rfl isF_mu) rfl)
def P__law_road (a0 : List Int) (a1 : Int) (a2 : Int) : Option (List (List (Int × Int))) :=
  (P__law_letters a1).bind fun v1 => (P__law_at a0 (0 : Int)).bind fun v2 => (P__law_mix v2 (1 : Int)).bind fun v3 => (modO v3 a2).bind fun v4 => (rgO ((1 : Int) + v4)).bind fun r5 => (compP r5 (fun (x6 : Int) => some true) (fun (x6 : Int) => (repO ([(0 : Int)] : List Int) (v1.length : Int)).bind fun v7 => some v7)).bind fun v8 => (forS (fun (x9 : Int) (s16 : (List (List Int))) => ((P__law_mix x9 (2 : Int)).bind fun v17 => (modO v17 (s16.length : Int)).bind fun v18 => (bagO s16 v18 v17 (8 : Int) v1).bind fun v19 => some v19)) (cutG a0 (some (1 : Int)) (some (64 : Int))) v8).bind fun s16 => (forS (fun (x20 : List Int) (s33 : (List (List (Int × Int)))) => ((rgO (v1.length : Int)).bind fun r34 => (compP r34 (fun (x35 : Int) => (atI x20 x35).bind fun v36 => some (decide (v36 = (1 : Int)))) (fun (x35 : Int) => (atI v1 x35).bind fun v37 => some v37)).bind fun v38 => if (!isIn v38 s33) = true then ((appO s33 v38).bind fun v39 => some v39) else (some s33))) s16 ([] : List (List (Int × Int)))).bind fun s33 => some s33
theorem sim__law_road (a0 : List Int) (a1 : Int) (a2 : Int) (r : List (List (Int × Int))) (h : P__law_road a0 a1 a2 = some r) : F__law_road [e_FI a0, D.int a1, D.int a2] = .ok (e_MTP2II r) := by
  refine def_F (e := e_MTP2II) [some (e_FI a0), some (D.int a1), some (D.int a2), none, none, none, none, none, none, none, none, none] rfl rfl (fun _ _ q => nomatch q) h (sm_last ?_)
  unfold f__law_road P__law_road
  refine sm_as ?_
  refine sm_need fun v1 hv1 => ?_
  refine sm_n (ev_asgF_G (ev_fcallN (ev_cons (ev_var rfl (enc_int.f _)) ev_nil) (ar_F (enc_int.f a1) ar_nil) (sim__law_letters a1 _ hv1)) (fun _ q => nomatch q) (z_MP2II v1)) ?_
  refine sm_as ?_
  refine sm_need fun v2 hv2 => ?_
  refine sm_need fun v3 hv3 => ?_
  refine sm_need fun v4 hv4 => ?_
  refine sm_need fun r5 hr5 => ?_
  refine sm_need fun v8 hv8 => ?_
  refine sm_n (ev_asg (ev_compP (e := D.int) (e' := e_MI) (ev_rangeO (ev_bin ev_C (ev_bin (ev_fcallS (ev_cons (ev_fcallS (ev_cons (ev_var rfl (k_FI.f _)) (ev_cons ev_C ev_nil)) (ar_F (k_FI.f a0) (ar_F (enc_int.f (0 : Int)) ar_nil)) (sim__law_at a0 (0 : Int) _ hv2) rfl) (ev_cons ev_C ev_nil)) (ar_F (enc_int.f v2) (ar_F (enc_int.f (1 : Int)) ar_nil)) (sim__law_mix v2 (1 : Int) _ hv3) rfl) (ev_var rfl (enc_int.f _)) (gMod_o hv4)) gAdd_ok) hr5) hv8 (fun _ _ q => nomatch q) (fun x6 => ⟨[some (e_FI a0), some (D.int a1), some (D.int a2), some (e_LP2II v1), none, none, none, none, none, none, none, some (D.int x6)], rfl, fun _ q => (by cases q; exact rfl), fun _ _ q => (by obtain ⟨v7, hv7, q⟩ := of_bind q; cases q; exact (ev_bin (ev_lst (ev_cons ev_C ev_nil) (isFs_cons (enc_int.f _) isFs_nil) (short_ _ 1 rfl (by decide))) (ev_cb (ev_cons (ev_var rfl (k_LP2II.f _)) ev_nil) (gLenX_s (e1 := e_P2II) rfl)) (gMul_repO (e := D.int) rfl hv7 enc_int.f (fun _ q => nomatch q)))), rfl⟩)) (fun _ q => nomatch q)) ?_
  refine sm_as ?_
  refine sm_forS (e := D.int) (fun (s16 : (List (List Int))) A => ∃ j5 : Option D, ∃ j8 : Option D, ∃ j9 : Option D, A = [some (e_FI a0), some (D.int a1), some (D.int a2), some (e_LP2II v1), some (e_MMI s16), j5, none, none, j8, j9, none, none]) ((ev_itM (es := List.map D.int (cutG a0 (some (1 : Int)) (some (64 : Int)))) (ev_sl (ev_var rfl (k_FI.f _)) (ev_part ev_C) (ev_part ev_C) (gSl_lst (f := D.int) rfl (enc_int.fs _))) (fun _ q => nomatch q) (z_MI (cutG a0 (some (1 : Int)) (some (64 : Int)))) rfl)) ⟨_, _, _, rfl⟩ (fun x9 s16 _ hR => ?_) ?_
  · obtain ⟨j5, j8, j9, rfl⟩ := hR
    refine ⟨[some (e_FI a0), some (D.int a1), some (D.int a2), some (e_LP2II v1), some (e_MMI s16), some (D.int x9), none, none, j8, j9, none, none], rfl, sm_last ?_⟩
    refine sm_as ?_
    refine sm_need fun v17 hv17 => ?_
    refine sm_n (ev_asgF (ev_fcallS (ev_cons (ev_var rfl (enc_int.f _)) (ev_cons ev_C ev_nil)) (ar_F (enc_int.f x9) (ar_F (enc_int.f (2 : Int)) ar_nil)) (sim__law_mix x9 (2 : Int) _ hv17) rfl) (enc_int.f _)) ?_
    refine sm_need fun v18 hv18 => ?_
    refine sm_need fun v19 hv19 => ?_
    refine sm_n (ev_bagO (e := e_P2II) (xs := s16) rfl (ev_bin (ev_var rfl (enc_int.f _)) (ev_cb (ev_cons (ev_al rfl isF_mu) ev_nil) (gLenX_s (e1 := e_MI) rfl)) (gMod_o hv18)) rfl rfl rfl (by simp) (by simp) hv19) ?_
    exact sm_endC ⟨_, _, _, rfl⟩
  rintro s16 _ ⟨j5, j8, j9, rfl⟩
  refine sm_as ?_
  refine sm_n (ev_asg (ev_lst ev_nil isFs_nil (short_ _ 0 rfl (by decide))) (fun _ q => nomatch q)) ?_
  refine sm_as ?_
  refine sm_forS (e := e_LI) (fun (s33 : (List (List (Int × Int)))) A => ∃ j5 : Option D, ∃ j7 : Option D, ∃ j8 : Option D, ∃ j9 : Option D, ∃ j10 : Option D, A = [some (e_FI a0), some (D.int a1), some (D.int a2), some (e_LP2II v1), some (e_LLI s16), j5, some (e_MTP2II s33), j7, j8, j9, j10, none]) ((ev_itA (es := List.map e_LI s16) (ev_al rfl isF_mu) rfl (z_MMI s16) ((fz_F k_LLI) s16) rfl)) ⟨_, _, _, _, _, rfl⟩ (fun x20 s33 _ hR => ?_) ?_
  · obtain ⟨j5, j7, j8, j9, j10, rfl⟩ := hR
    refine ⟨[some (e_FI a0), some (D.int a1), some (D.int a2), some (e_LP2II v1), some (e_LLI s16), j5, some (e_MTP2II s33), some (e_LI x20), j8, j9, j10, none], rfl, sm_last ?_⟩
    refine sm_as ?_
    refine sm_need fun r34 hr34 => ?_
    refine sm_need fun v38 hv38 => ?_
    refine sm_n (ev_asgF (ev_cb (ev_cons (ev_compP (e := D.int) (e' := e_P2II) (ev_rangeO (ev_cb (ev_cons (ev_var rfl (k_LP2II.f _)) ev_nil) (gLenX_s (e1 := e_P2II) rfl)) hr34) hv38 (fun _ _ q => nomatch q) (fun x35 => ⟨[some (e_FI a0), some (D.int a1), some (D.int a2), some (e_LP2II v1), some (e_LLI s16), j5, some (e_MTP2II s33), some (e_LI x20), j8, j9, j10, some (D.int x35)], rfl, fun _ q => (by obtain ⟨v36, hv36, q⟩ := of_bind q; cases q; exact (ev_B (ev_bin (ev_bin (ev_var rfl (k_LI.f _)) (ev_var rfl (enc_int.f _)) (gIxX_s (gIx_o (e := D.int) rfl hv36 (enc_int.f _)) rfl)) ev_C gEq_int))), fun _ _ q => (by obtain ⟨v37, hv37, q⟩ := of_bind q; cases q; exact (ev_bin (ev_var rfl (k_LP2II.f _)) (ev_var rfl (enc_int.f _)) (gIxX_s (gIx_o (e := e_P2II) rfl hv37 (k_P2II.f _)) rfl))), rfl⟩)) ev_nil) (gTuple_sq (es := List.map e_P2II v38) rfl (k_P2II.fs _))) (k_TP2II.f _)) ?_
    refine sm_ifs ((ev_B (ev_bin (ev_var rfl (k_TP2II.f _)) (ev_al rfl isF_mu) (gNotInX_s (gNotIn_v k_TP2II (see_eq (k_TP2II.see _ v38)) (sq_v (e := e_TP2II) rfl dt_rfl)) rfl)))) (fun hb => ?_) (fun hb => ?_)
    · refine sm_need fun v39 hv39 => ?_
      refine sm_n (ev_drop (ev_appO (e := e_TP2II) (xs := s33) (x := v38) rfl (ev_var rfl (k_TP2II.f _)) rfl (fun _ q => nomatch q) hv39)) ?_
      exact sm_endC ⟨_, _, _, _, _, rfl⟩
    · refine sm_skip ?_
      exact sm_endC ⟨_, _, _, _, _, rfl⟩
  rintro s33 _ ⟨j5, j7, j8, j9, j10, rfl⟩
  exact sm_retF (ev_ret_alG (ev_al rfl isF_mu) rfl)
def P_shown_weather (a0 : List (Int × Int)) : Option Str :=
  if (decide ((a0.length : Int) = (0 : Int))) = true then (some ("-" : Str)) else ((compP a0 (fun (x1 : Int × Int) => some true) (fun (x1 : Int × Int) => (chO ("abcd" : Str) x1.1).bind fun v2 => (addSO v2 (">" : Str)).bind fun v3 => (chO ("abcd" : Str) x1.2).bind fun v4 => (addSO v3 v4).bind fun v5 => some v5)).bind fun v6 => (joinO (" " : Str) v6).bind fun v7 => some v7)
theorem sim_shown_weather (a0 : List (Int × Int)) (r : Str) (h : P_shown_weather a0 = some r) : F_shown_weather [e_TP2II a0] = .ok (D.str r) := by
  refine def_F (e := D.str) [some (e_TP2II a0), none, none] rfl rfl (fun _ _ q => nomatch q) h (sm_last ?_)
  unfold f_shown_weather P_shown_weather
  refine sm_as ?_
  refine sm_ifs ((ev_B (ev_bin (ev_cb (ev_cons (ev_var rfl (k_TP2II.f _)) ev_nil) (gLenX_s (e1 := e_P2II) rfl)) ev_C gEq_int))) (fun hb => ?_) (fun hb => ?_)
  · exact sm_retF (ev_ret ev_C na_str)
  · refine sm_skip ?_
    refine sm_need fun v6 hv6 => ?_
    refine sm_need fun v7 hv7 => ?_
    exact sm_retF (ev_ret (ev_s1 ev_C (ev_compP (e := e_P2II) (e' := D.str) (ev_itF (e := e_P2II) (ev_var rfl (k_TP2II.f _)) (k_TP2II.f _) (iter_T k_P2II.f)) hv6 (fun _ _ q => nomatch q) (fun x1 => ⟨[some (e_TP2II a0), some (D.int x1.1), some (D.int x1.2)], (set_tu2 (enc_int.f _) (enc_int.f _)), fun _ q => (by cases q; exact rfl), fun _ _ q => (by obtain ⟨v2, hv2, q⟩ := of_bind q; obtain ⟨v3, hv3, q⟩ := of_bind q; obtain ⟨v4, hv4, q⟩ := of_bind q; obtain ⟨v5, hv5, q⟩ := of_bind q; cases q; exact (ev_bin (ev_bin (ev_bin ev_C (ev_var rfl (enc_int.f _)) (gIx_ch rfl hv2)) ev_C (gAdd_S hv3)) (ev_bin ev_C (ev_var rfl (enc_int.f _)) (gIx_ch rfl hv4)) (gAdd_S hv5))), rfl⟩)) (gJoin_o (ys := v6) rfl hv7)) na_str)
def P_shown_road (a0 : List (List (Int × Int))) : Option Str :=
  (compP a0 (fun (x1 : List (Int × Int)) => some true) (fun (x1 : List (Int × Int)) => (P_shown_weather x1).bind fun v2 => some v2)).bind fun v3 => (joinO (", " : Str) v3).bind fun v4 => some v4
theorem sim_shown_road (a0 : List (List (Int × Int))) (r : Str) (h : P_shown_road a0 = some r) : F_shown_road [e_LTP2II a0] = .ok (D.str r) := by
  refine def_F (e := D.str) [some (e_LTP2II a0), none] rfl rfl (fun _ _ q => nomatch q) h (sm_last ?_)
  unfold f_shown_road P_shown_road
  refine sm_need fun v3 hv3 => ?_
  refine sm_need fun v4 hv4 => ?_
  exact sm_retF (ev_ret (ev_s1 ev_C (ev_compP (e := e_TP2II) (e' := D.str) (ev_itF (e := e_TP2II) (ev_var rfl (k_LTP2II.f _)) (k_LTP2II.f _) rfl) hv3 (fun _ _ q => nomatch q) (fun x1 => ⟨[some (e_LTP2II a0), some (e_TP2II x1)], rfl, fun _ q => (by cases q; exact rfl), fun _ _ q => (by obtain ⟨v2, hv2, q⟩ := of_bind q; cases q; exact (ev_fcallS (ev_cons (ev_var rfl (k_TP2II.f _)) ev_nil) (ar_F (k_TP2II.f x1) ar_nil) (sim_shown_weather x1 _ hv2) rfl)), rfl⟩)) (gJoin_o (ys := v3) rfl hv4)) na_str)
def P__law_text (a0 : List (Int × Int)) (a1 : Int) : Option Str :=
  (compP a0 (fun (x1 : Int × Int) => some true) (fun (x1 : Int × Int) => (chO ("abcd" : Str) x1.1).bind fun v2 => (addSO v2 (">" : Str)).bind fun v3 => (chO ("abcd" : Str) x1.2).bind fun v4 => (addSO v3 v4).bind fun v5 => some v5)).bind fun v6 => if (decide ((v6.length : Int) = (0 : Int))) = true then (some ("-" : Str)) else ((modO a1 (v6.length : Int)).bind fun v7 => (catO (cutG v6 (some v7) none) (cutG v6 none (some v7))).bind fun v8 => (if (decide (((a1 / (16 : Int)) % (2 : Int)) = (1 : Int))) = true then (some v8.reverse) else (some v8) : Option ((List Str))).bind fun s9 => (joinO (" " : Str) s9).bind fun v10 => some v10)
theorem sim__law_text (a0 : List (Int × Int)) (a1 : Int) (r : Str) (h : P__law_text a0 a1 = some r) : F__law_text [e_TP2II a0, D.int a1] = .ok (D.str r) := by
  refine def_F (e := D.str) [some (e_TP2II a0), some (D.int a1), none, none, none, none] rfl rfl (fun _ _ q => nomatch q) h (sm_last ?_)
  unfold f__law_text P__law_text
  refine sm_as ?_
  refine sm_need fun v6 hv6 => ?_
  refine sm_n (ev_asgF_G (ev_compP (e := e_P2II) (e' := D.str) (ev_itF (e := e_P2II) (ev_var rfl (k_TP2II.f _)) (k_TP2II.f _) (iter_T k_P2II.f)) hv6 (fun _ _ q => nomatch q) (fun x1 => ⟨[some (e_TP2II a0), some (D.int a1), none, none, some (D.int x1.1), some (D.int x1.2)], (set_tu2 (enc_int.f _) (enc_int.f _)), fun _ q => (by cases q; exact rfl), fun _ _ q => (by obtain ⟨v2, hv2, q⟩ := of_bind q; obtain ⟨v3, hv3, q⟩ := of_bind q; obtain ⟨v4, hv4, q⟩ := of_bind q; obtain ⟨v5, hv5, q⟩ := of_bind q; cases q; exact (ev_bin (ev_bin (ev_bin ev_C (ev_var rfl (enc_int.f _)) (gIx_ch rfl hv2)) ev_C (gAdd_S hv3)) (ev_bin ev_C (ev_var rfl (enc_int.f _)) (gIx_ch rfl hv4)) (gAdd_S hv5))), rfl⟩)) (fun _ q => nomatch q) (z_MS v6)) ?_
  refine sm_as ?_
  refine sm_ifs ((ev_B (ev_bin (ev_cb (ev_cons (ev_var rfl (k_LS.f _)) ev_nil) (gLenX_s (e1 := D.str) rfl)) ev_C gEq_int))) (fun hb => ?_) (fun hb => ?_)
  · exact sm_retF (ev_ret ev_C na_str)
  · refine sm_skip ?_
    refine sm_as ?_
    refine sm_need fun v7 hv7 => ?_
    refine sm_n (ev_asgF (ev_bin (ev_var rfl (enc_int.f _)) (ev_cb (ev_cons (ev_var rfl (k_LS.f _)) ev_nil) (gLenX_s (e1 := D.str) rfl)) (gMod_o hv7)) (enc_int.f _)) ?_
    refine sm_as ?_
    refine sm_need fun v8 hv8 => ?_
    refine sm_n (ev_asgF_G (ev_bin (ev_sl (ev_var rfl (k_LS.f _)) (ev_part (ev_var rfl (enc_int.f _))) ev_noPart (gSl_lst (f := D.str) rfl (fo_str.fs _))) (ev_sl (ev_var rfl (k_LS.f _)) ev_noPart (ev_part (ev_var rfl (enc_int.f _))) (gSl_lst (f := D.str) rfl (fo_str.fs _))) (gAdd_lstO (e := D.str) rfl rfl hv8 fo_str.f)) (fun _ q => nomatch q) (z_MS v8)) ?_
    refine sm_as ?_
    refine sm_seqS (Rg := (fun (s9 : (List Str)) A => A = [some (e_TP2II a0), some (D.int a1), some (e_LS s9), some (D.int v7), none, none])) (sm_if ((ev_B (ev_bin (ev_bin (ev_bin (ev_var rfl (enc_int.f _)) ev_C (gDiv_ok (by decide) (by decide))) ev_C (gMod_ok (by decide))) ev_C gEq_int))) (fun hb => ?_) (fun hb => ?_)) ?_
    · refine sm_last ?_
      refine sm_n (ev_asgF_G (ev_slS (ev_var rfl (k_LS.f _)) ev_noPart ev_noPart (ev_part (ev_un ev_C rfl)) (gSlS_lrev (f := D.str) rfl (fo_str.fs _))) (fun _ q => nomatch q) (z_MS v8.reverse)) ?_
      exact sm_endS rfl
    · exact sm_endS rfl
    rintro s9 _ rfl
    refine sm_need fun v10 hv10 => ?_
    exact sm_retF (ev_ret (ev_s1 ev_C (ev_var rfl (k_LS.f _)) (gJoin_o (ys := s9) rfl hv10)) na_str)
def P_read_letter (a0 : Str) : Option (Int × Int) :=
  (lenS a0).bind fun v1 => (if (!decide (v1 = (3 : Int))) = true then some true else (chO a0 (0 : Int)).bind fun v2 => (inSO v2 ("abcd" : Str)).bind fun v3 => (if (!v3) = true then some true else (chO a0 (1 : Int)).bind fun v4 => (strEqO v4 (">" : Str)).bind fun v5 => (if (!v5) = true then some true else (chO a0 (2 : Int)).bind fun v6 => (inSO v6 ("abcd" : Str)).bind fun v7 => some (!v7)).bind fun c8 => some c8).bind fun c9 => some c9).bind fun c10 => if c10 = true then (none) else ((chO a0 (0 : Int)).bind fun v11 => (sixO ("abcd" : Str) v11).bind fun v12 => (chO a0 (2 : Int)).bind fun v13 => (sixO ("abcd" : Str) v13).bind fun v14 => some (v12, v14))
theorem sim_read_letter (a0 : Str) (r : Int × Int) (h : P_read_letter a0 = some r) : F_read_letter [D.str a0] = .ok (e_P2II r) := by
  refine def_F (e := e_P2II) [some (D.str a0)] rfl rfl (fun _ _ q => nomatch q) h (sm_last ?_)
  unfold f_read_letter P_read_letter
  refine sm_as ?_
  refine sm_need fun v1 hv1 => ?_
  refine sm_need fun c10 hc10 => ?_
  refine sm_ifs ((ev_torO (ev_B (ev_bin (ev_cb (ev_cons (ev_var rfl (fo_str.f _)) ev_nil) (gLen_str rfl hv1)) ev_C gNe_int)) hc10 (fun _ q => (by obtain ⟨v2, hv2, q⟩ := of_bind q; obtain ⟨v3, hv3, q⟩ := of_bind q; obtain ⟨c9, hc9, q⟩ := of_bind q; cases q; exact (ev_torO (ev_B (ev_bin (ev_bin (ev_var rfl (fo_str.f _)) ev_C (gIx_ch rfl hv2)) ev_C (gNotInX_S rfl hv3))) hc9 (fun _ q => (by obtain ⟨v4, hv4, q⟩ := of_bind q; obtain ⟨v5, hv5, q⟩ := of_bind q; obtain ⟨c8, hc8, q⟩ := of_bind q; cases q; exact (ev_torO (ev_B (ev_bin (ev_bin (ev_var rfl (fo_str.f _)) ev_C (gIx_ch rfl hv4)) ev_C (gNeS_o rfl rfl hv5))) hc8 (fun _ q => (by obtain ⟨v6, hv6, q⟩ := of_bind q; obtain ⟨v7, hv7, q⟩ := of_bind q; cases q; exact (ev_B (ev_bin (ev_bin (ev_var rfl (fo_str.f _)) ev_C (gIx_ch rfl hv6)) ev_C (gNotInX_S rfl hv7))))))))))))) (fun hb => ?_) (fun hb => ?_)
  · exact sm_raise
  · refine sm_skip ?_
    refine sm_need fun v11 hv11 => ?_
    refine sm_need fun v12 hv12 => ?_
    refine sm_need fun v13 hv13 => ?_
    refine sm_need fun v14 hv14 => ?_
    exact sm_retF (ev_ret (ev_tup (ev_cons (ev_s1 ev_C (ev_bin (ev_var rfl (fo_str.f _)) ev_C (gIx_ch rfl hv11)) (gSIx_o hv12)) (ev_cons (ev_s1 ev_C (ev_bin (ev_var rfl (fo_str.f _)) ev_C (gIx_ch rfl hv13)) (gSIx_o hv14)) ev_nil)) (isFs_cons (enc_int.f _) (isFs_cons (enc_int.f _) isFs_nil)) (short_ _ 2 rfl (by decide))) (fun _ q => nomatch q))
def P_read_weather (a0 : Str) : Option (List (Int × Int)) :=
  (strEqO a0 ("-" : Str)).bind fun v1 => if v1 = true then (some ([] : List (Int × Int))) else ((splitO a0 (" " : Str)).bind fun v2 => (compP v2 (fun (x3 : Str) => some true) (fun (x3 : Str) => (P_read_letter x3).bind fun v4 => some v4)).bind fun v5 => some (sortP v5))
theorem sim_read_weather (a0 : Str) (r : List (Int × Int)) (h : P_read_weather a0 = some r) : F_read_weather [D.str a0] = .ok (e_TP2II r) := by
  refine def_F (e := e_TP2II) [some (D.str a0), none] rfl rfl (fun _ _ q => nomatch q) h (sm_last ?_)
  unfold f_read_weather P_read_weather
  refine sm_as ?_
  refine sm_need fun v1 hv1 => ?_
  refine sm_ifs ((ev_B (ev_bin (ev_var rfl (fo_str.f _)) ev_C (gEqS_o rfl rfl hv1)))) (fun hb => ?_) (fun hb => ?_)
  · exact sm_retF (ev_ret (ev_tup ev_nil isFs_nil (short_ _ 0 rfl (by decide))) (fun _ q => nomatch q))
  · refine sm_skip ?_
    refine sm_need fun v2 hv2 => ?_
    refine sm_need fun v5 hv5 => ?_
    exact sm_retF (ev_ret (ev_cb (ev_cons (ev_cb (ev_cons (ev_compP (e := D.str) (e' := e_P2II) (ev_itM (es := List.map D.str v2) (ev_s1 (ev_var rfl (fo_str.f _)) ev_C (gSplit_o hv2)) (fun _ q => nomatch q) (z_MS v2) rfl) hv5 (fun _ _ q => nomatch q) (fun x3 => ⟨[some (D.str a0), some (D.str x3)], rfl, fun _ q => (by cases q; exact rfl), fun _ _ q => (by obtain ⟨v4, hv4, q⟩ := of_bind q; cases q; exact (ev_fcallN (ev_cons (ev_var rfl (fo_str.f _)) ev_nil) (ar_F (fo_str.f x3) ar_nil) (sim_read_letter x3 _ hv4))), rfl⟩)) ev_nil) (gSortedT_l rfl (gSortedX_p rfl))) ev_nil) (gTuple_sq (es := List.map e_P2II (sortP v5)) rfl (k_P2II.fs _))) (fun _ q => nomatch q))
def P_check_weather (a0 : Int) (a1 : List (Int × Int)) : Option Unit :=
  (forP (R := Unit) (fun (x1 : Int × Int) (s4 : (Option (Int × Int))) => (if ((decide (x1.1 < (0 : Int))) || ((decide (a0 ≤ x1.1)) || ((decide (x1.2 < (0 : Int))) || ((decide (a0 ≤ x1.2)) || (decide (x1.1 = x1.2)))))) = true then (none) else ((if (s4.isSome) = true then (s4).bind fun v5 => some (lePair x1.1 x1.2 v5.1 v5.2) else some false).bind fun c6 => if c6 = true then (none) else (some (Stp.go (some x1)))))) a1 none).bind fun z => z.elim (fun s4 => (some ())) (fun r7 => some r7)
theorem sim_check_weather (a0 : Int) (a1 : List (Int × Int)) (r : Unit) (h : P_check_weather a0 a1 = some r) : F_check_weather [D.int a0, e_TP2II a1] = .ok (e_N r) := by
  refine def_F (e := e_N) [some (D.int a0), some (e_TP2II a1), none, none, none, none] rfl rfl (fun _ _ q => nomatch q) h (sm_last ?_)
  unfold f_check_weather P_check_weather
  refine sm_as ?_
  refine sm_n (ev_asgF ev_C (k_N.f ())) ?_
  refine sm_forP (e := e_P2II) (kr := fun r7 => r7) (fun (s4 : (Option (Int × Int))) A => ∃ j3 : Option D, ∃ j4 : Option D, ∃ j5 : Option D, A = [some (D.int a0), some (e_TP2II a1), some (e_OP2II s4), j3, j4, j5]) (RS e_N) ((ev_itF (e := e_P2II) (ev_var rfl (k_TP2II.f _)) (k_TP2II.f _) (iter_T k_P2II.f))) ⟨_, _, _, rfl⟩ (fun x1 s4 _ hR => ?_) rs_ex rs_rf ?_
  · obtain ⟨j3, j4, j5, rfl⟩ := hR
    refine ⟨[some (D.int a0), some (e_TP2II a1), some (e_OP2II s4), some (e_P2II x1), j4, j5], rfl, sm_last ?_⟩
    refine sm_as ?_
    refine sm_n (ev_asgT_G (ev_var rfl (k_P2II.f _)) (fun _ q => nomatch q) ((fz_F k_P2II) x1) (set_tu2 (enc_int.f _) (enc_int.f _))) ?_
    refine sm_as ?_
    refine sm_ifs ((ev_or2 (ev_B (ev_bin (ev_var rfl (enc_int.f _)) ev_C gLt_ok)) (fun _ => (ev_or2 (ev_B (ev_bin (ev_var rfl (enc_int.f _)) (ev_var rfl (enc_int.f _)) gGe_ok)) (fun _ => (ev_or2 (ev_B (ev_bin (ev_var rfl (enc_int.f _)) ev_C gLt_ok)) (fun _ => (ev_or2 (ev_B (ev_bin (ev_var rfl (enc_int.f _)) (ev_var rfl (enc_int.f _)) gGe_ok)) (fun _ => (ev_B (ev_bin (ev_var rfl (enc_int.f _)) (ev_var rfl (enc_int.f _)) gEq_int))))))))))) (fun hb => ?_) (fun hb => ?_)
    · exact sm_raise
    · refine sm_skip ?_
      refine sm_as ?_
      refine sm_need fun c6 hc6 => ?_
      refine sm_ifs ((ev_tandO (ev_B (ev_bin (ev_var rfl (k_OP2II.f _)) ev_C (gNotN_O (fun x => (nnon_P x))))) hc6 (fun _ q => (by obtain ⟨v5, hv5, q⟩ := of_bind q; cases q; exact (ev_B (ev_bin (ev_var rfl (k_P2II.f _)) (ev_some (e := e_P2II) (ev_var rfl (k_OP2II.f _)) hv5) (gLeX_p rfl rfl))))))) (fun hb => ?_) (fun hb => ?_)
      · exact sm_raise
      · refine sm_skip ?_
        refine sm_n (ev_asgF (ev_var rfl (k_P2II.f _)) (k_P2II.f _)) ?_
        exact sm_endP ⟨_, _, _, rfl⟩
  rintro s4 _ ⟨j3, j4, j5, rfl⟩
  exact sm_endF rfl
def P_check_road (a0 : Int) (a1 : List (List (Int × Int))) : Option Unit :=
  (if (decide (a0 < (2 : Int))) = true then some true else (lenS ("abcd" : Str)).bind fun v1 => some (decide (v1 < a0))).bind fun c2 => if c2 = true then (none) else (if ((decide ((a1.length : Int) < (1 : Int))) || (decide ((8 : Int) < (a1.length : Int)))) = true then (none) else ((forP (R := Unit) (fun (x3 : List (Int × Int)) (s8 : (List ((List (Int × Int)) × Bool))) => ((P_check_weather a0 x3).bind fun v9 => if (dHas s8 x3) = true then (none) else ((dPutO s8 x3 true).bind fun v10 => some (Stp.go v10)))) a1 ([] : List ((List (Int × Int)) × Bool))).bind fun z => z.elim (fun s8 => (some ())) (fun r11 => some r11)))
theorem sim_check_road (a0 : Int) (a1 : List (List (Int × Int))) (r : Unit) (h : P_check_road a0 a1 = some r) : F_check_road [D.int a0, e_LTP2II a1] = .ok (e_N r) := by
  refine def_F (e := e_N) [some (D.int a0), some (e_LTP2II a1), none, none] rfl rfl (fun _ _ q => nomatch q) h (sm_last ?_)
  unfold f_check_road P_check_road
  refine sm_as ?_
  refine sm_need fun c2 hc2 => ?_
  refine sm_ifs ((ev_torO (ev_B (ev_bin (ev_var rfl (enc_int.f _)) ev_C gLt_ok)) hc2 (fun _ q => (by obtain ⟨v1, hv1, q⟩ := of_bind q; cases q; exact (ev_B (ev_bin (ev_var rfl (enc_int.f _)) (ev_cb (ev_cons ev_C ev_nil) (gLen_str rfl hv1)) gGt_ok)))))) (fun hb => ?_) (fun hb => ?_)
  · exact sm_raise
  · refine sm_skip ?_
    refine sm_as ?_
    refine sm_ifs ((ev_or2 (ev_B (ev_bin (ev_cb (ev_cons (ev_var rfl (k_LTP2II.f _)) ev_nil) (gLenX_s (e1 := e_TP2II) rfl)) ev_C gLt_ok)) (fun _ => (ev_B (ev_bin (ev_cb (ev_cons (ev_var rfl (k_LTP2II.f _)) ev_nil) (gLenX_s (e1 := e_TP2II) rfl)) ev_C gGt_ok))))) (fun hb => ?_) (fun hb => ?_)
    · exact sm_raise
    · refine sm_skip ?_
      refine sm_as ?_
      refine sm_n (ev_asg (ev_dic0 (κ := Int) (ν := Int) (e := D.int) (e1 := D.int)) (fun _ q => nomatch q)) ?_
      refine sm_forP (e := e_TP2II) (kr := fun r11 => r11) (fun (s8 : (List ((List (Int × Int)) × Bool))) A => ∃ j3 : Option D, A = [some (D.int a0), some (e_LTP2II a1), some (e_DMnTP2IIB s8), j3]) (RS e_N) ((ev_itF (e := e_TP2II) (ev_var rfl (k_LTP2II.f _)) (k_LTP2II.f _) rfl)) ⟨_, rfl⟩ (fun x3 s8 _ hR => ?_) rs_ex rs_rf ?_
      · obtain ⟨j3, rfl⟩ := hR
        refine ⟨[some (D.int a0), some (e_LTP2II a1), some (e_DMnTP2IIB s8), some (e_TP2II x3)], rfl, sm_last ?_⟩
        refine sm_as ?_
        refine sm_need fun v9 hv9 => ?_
        refine sm_n (ev_drop (ev_fcallS (ev_cons (ev_var rfl (enc_int.f _)) (ev_cons (ev_var rfl (k_TP2II.f _)) ev_nil)) (ar_F (enc_int.f a0) (ar_F (k_TP2II.f x3) ar_nil)) (sim_check_weather a0 x3 _ hv9) rfl)) ?_
        refine sm_as ?_
        refine sm_ifs ((ev_B (ev_bin (ev_var rfl (k_TP2II.f _)) (ev_al rfl isF_mdi) (gInX_d (e1 := D.bl) (kv := s8) key_TP2II rfl (k_TP2II.see _ x3))))) (fun hb => ?_) (fun hb => ?_)
        · exact sm_raise
        · refine sm_skip ?_
          refine sm_need fun v10 hv10 => ?_
          refine sm_n (ev_setD (e1 := D.bl) (kv := s8) (k := x3) (v := true) key_TP2II ev_C na_bl rfl (ev_var rfl (k_TP2II.f _)) hv10) ?_
          exact sm_endP ⟨_, rfl⟩
      rintro s8 _ ⟨j3, rfl⟩
      exact sm_endF rfl
def P_read_road (a0 : Int) (a1 : Str) : Option (List (List (Int × Int))) :=
  (splitO a1 (", " : Str)).bind fun v1 => (compP v1 (fun (x2 : Str) => some true) (fun (x2 : Str) => (P_read_weather x2).bind fun v3 => some v3)).bind fun v4 => (P_check_road a0 v4).bind fun v5 => some v4
theorem sim_read_road (a0 : Int) (a1 : Str) (r : List (List (Int × Int))) (h : P_read_road a0 a1 = some r) : F_read_road [D.int a0, D.str a1] = .ok (e_MTP2II r) := by
  refine def_F (e := e_MTP2II) [some (D.int a0), some (D.str a1), none, none] rfl rfl (fun _ _ q => nomatch q) h (sm_last ?_)
  unfold f_read_road P_read_road
  refine sm_as ?_
  refine sm_need fun v1 hv1 => ?_
  refine sm_need fun v4 hv4 => ?_
  refine sm_n (ev_asg (ev_compP (e := D.str) (e' := e_TP2II) (ev_itM (es := List.map D.str v1) (ev_s1 (ev_var rfl (fo_str.f _)) ev_C (gSplit_o hv1)) (fun _ q => nomatch q) (z_MS v1) rfl) hv4 (fun _ _ q => nomatch q) (fun x2 => ⟨[some (D.int a0), some (D.str a1), none, some (D.str x2)], rfl, fun _ q => (by cases q; exact rfl), fun _ _ q => (by obtain ⟨v3, hv3, q⟩ := of_bind q; cases q; exact (ev_fcallN (ev_cons (ev_var rfl (fo_str.f _)) ev_nil) (ar_F (fo_str.f x2) ar_nil) (sim_read_weather x2 _ hv3))), rfl⟩)) (fun _ q => nomatch q)) ?_
  refine sm_as ?_
  refine sm_need fun v5 hv5 => ?_
  refine sm_n (ev_drop (ev_fcallS (ev_cons (ev_var rfl (enc_int.f _)) (ev_cons (ev_al rfl isF_mu) ev_nil)) (ar_F (enc_int.f a0) (ar_al rfl (z_MTP2II v4) ((fz_F k_LTP2II) v4) ar_nil)) (sim_check_road a0 v4 _ hv5) rfl)) ?_
  exact sm_retF (ev_ret_alG (ev_al rfl isF_mu) rfl)
def P__law_same (a0 : List (List (Int × Int))) (a1 : List (List (Int × Int))) : Option Bool :=
  if ((!true) || (!decide (a0 = a1))) = true then (some false) else ((forP (R := Bool) (fun (x1 : List (Int × Int)) (s8 : Unit) => (if (!true) = true then (some (Stp.ret false)) else ((forP (R := Bool) (fun (x9 : Int × Int) (s10 : Unit) => (if ((!true) || (false || false)) = true then (some (Stp.ret false)) else (some (Stp.go ())))) x1 ()).bind fun z => z.elim (fun s10 => (some (Stp.go ()))) (fun r11 => some (Stp.ret r11))))) a0 ()).bind fun z => z.elim (fun s8 => (some true)) (fun r12 => some r12))
theorem sim__law_same (a0 : List (List (Int × Int))) (a1 : List (List (Int × Int))) (r : Bool) (h : P__law_same a0 a1 = some r) : F__law_same [e_LTP2II a0, e_LTP2II a1] = .ok (D.bl r) := by
  refine def_F (e := D.bl) [some (e_LTP2II a0), some (e_LTP2II a1), none, none] rfl rfl (fun _ _ q => nomatch q) h (sm_last ?_)
  unfold f__law_same P__law_same
  refine sm_as ?_
  refine sm_ifs ((ev_or2 (ev_not (ev_B (ev_cb (ev_cons (ev_var rfl (k_LTP2II.f _)) (ev_cons ev_C ev_nil)) (isi_m (m := "list") rfl (by decide +kernel))))) (fun _ => (ev_B (ev_bin (ev_var rfl (k_LTP2II.f _)) (ev_var rfl (k_LTP2II.f _)) (gNe_v (x := a0) (y := a1) k_LTP2II (see_eq (k_LTP2II.see _ a0)) (see_eq (k_LTP2II.see _ a1)))))))) (fun hb => ?_) (fun hb => ?_)
  · exact sm_retF (ev_ret ev_C na_bl)
  · refine sm_skip ?_
    refine sm_as ?_
    refine sm_forP (e := e_TP2II) (kr := fun r12 => r12) (fun (s8 : Unit) A => ∃ j2 : Option D, ∃ j3 : Option D, A = [some (e_LTP2II a0), some (e_LTP2II a1), j2, j3]) (RS D.bl) ((ev_itF (e := e_TP2II) (ev_var rfl (k_LTP2II.f _)) (k_LTP2II.f _) rfl)) ⟨_, _, rfl⟩ (fun x1 s8 _ hR => ?_) rs_ex rs_rf ?_
    · obtain ⟨j2, j3, rfl⟩ := hR
      refine ⟨[some (e_LTP2II a0), some (e_LTP2II a1), some (e_TP2II x1), j3], rfl, sm_last ?_⟩
      refine sm_as ?_
      refine sm_ifs ((ev_not (ev_B (ev_cb (ev_cons (ev_var rfl (k_TP2II.f _)) (ev_cons ev_C ev_nil)) (isi_m (m := "tuple") rfl (by decide +kernel)))))) (fun hb => ?_) (fun hb => ?_)
      · exact sm_retP (ev_ret ev_C na_bl)
      · refine sm_skip ?_
        refine sm_forP (e := e_P2II) (kr := fun r11 => (Stp.ret r11)) (fun (s10 : Unit) A => ∃ j3 : Option D, A = [some (e_LTP2II a0), some (e_LTP2II a1), some (e_TP2II x1), j3]) (RS D.bl) ((ev_itF (e := e_P2II) (ev_var rfl (k_TP2II.f _)) (k_TP2II.f _) (iter_T k_P2II.f))) ⟨_, rfl⟩ (fun x9 s10 _ hR => ?_) rs_ex (fun _ _ h => h) ?_
        · obtain ⟨j3, rfl⟩ := hR
          refine ⟨[some (e_LTP2II a0), some (e_LTP2II a1), some (e_TP2II x1), some (e_P2II x9)], rfl, sm_last ?_⟩
          refine sm_ifs ((ev_or2 (ev_not (ev_B (ev_cb (ev_cons (ev_var rfl (k_P2II.f _)) (ev_cons ev_C ev_nil)) (isi_m (m := "tuple") rfl (by decide +kernel))))) (fun _ => (ev_or2 (ev_B (ev_cb (ev_cons (ev_bin (ev_var rfl (k_P2II.f _)) ev_C (gIxX_s (gIx_at rfl rfl (enc_int.f _)) rfl)) (ev_cons ev_C ev_nil)) (isi_m (m := "int") rfl (by decide +kernel)))) (fun _ => (ev_B (ev_cb (ev_cons (ev_bin (ev_var rfl (k_P2II.f _)) ev_C (gIxX_s (gIx_at rfl rfl (enc_int.f _)) rfl)) (ev_cons ev_C ev_nil)) (isi_m (m := "int") rfl (by decide +kernel))))))))) (fun hb => ?_) (fun hb => ?_)
          · exact sm_retP (ev_ret ev_C na_bl)
          · refine sm_skip ?_
            exact sm_endP ⟨_, rfl⟩
        rintro s10 _ ⟨j3, rfl⟩
        exact sm_endP ⟨_, _, rfl⟩
    rintro s8 _ ⟨j2, j3, rfl⟩
    exact sm_retF (ev_ret ev_C na_bl)
def P_law (a0 : List Int) : Option Bool :=
  (P__law_at a0 (0 : Int)).bind fun v1 => (P__law_mix v1 (3 : Int)).bind fun v2 => (some (((2 : Int) + (v2 % (3 : Int))))).bind fun (hands_3 : Int) => (P__law_road a0 hands_3 (8 : Int)).bind fun v4 => (P_shown_road v4).bind fun v5 => (if (!true) = true then some true else (compP v4 (fun (x6 : List (Int × Int)) => some true) (fun (x6 : List (Int × Int)) => (P__law_text x6 (0 : Int)).bind fun v7 => some v7)).bind fun v8 => (joinO (", " : Str) v8).bind fun v9 => (strEqO v5 v9).bind fun v10 => some ((!v10) || (!decide (v4 = v4)))).bind fun c11 => if c11 = true then (some false) else ((P_read_road hands_3 v5).bind fun v12 => (P__law_same v12 v4).bind fun v13 => if (!v13) = true then (some false) else ((P__law_at a0 (0 : Int)).bind fun v14 => (P__law_mix v14 (5 : Int)).bind fun v15 => (compP (enumL v4) (fun (x16 : Int × (List (Int × Int))) => some true) (fun (x16 : Int × (List (Int × Int))) => (divO v15 (x16.1 + (1 : Int))).bind fun v17 => (P__law_text x16.2 v17).bind fun v18 => some v18)).bind fun v19 => (joinO (", " : Str) v19).bind fun v20 => (P_read_road hands_3 v20).bind fun v21 => (P__law_same v21 v4).bind fun v22 => (if v22 = true then (P_read_road hands_3 v5).bind fun v23 => (P__law_same v23 v4).bind fun v24 => some v24 else some false).bind fun c25 => some c25))
theorem sim_law (a0 : List Int) (r : Bool) (h : P_law a0 = some r) : F_law [e_FI a0] = .ok (D.bl r) := by
  refine def_F (e := D.bl) [some (e_FI a0), none, none, none, none, none, none, none, none, none] rfl rfl (fun _ _ q => nomatch q) h (sm_last ?_)
  unfold f_law P_law
  refine sm_as ?_
  refine sm_need fun v1 hv1 => ?_
  refine sm_need fun v2 hv2 => ?_
  refine sm_nl (fun (hands_3 : Int) => [some (e_FI a0), some (D.int hands_3), none, none, none, none, none, none, none, none]) (ev_asgF (ev_bin ev_C (ev_bin (ev_fcallS (ev_cons (ev_fcallS (ev_cons (ev_var rfl (k_FI.f _)) (ev_cons ev_C ev_nil)) (ar_F (k_FI.f a0) (ar_F (enc_int.f (0 : Int)) ar_nil)) (sim__law_at a0 (0 : Int) _ hv1) rfl) (ev_cons ev_C ev_nil)) (ar_F (enc_int.f v1) (ar_F (enc_int.f (3 : Int)) ar_nil)) (sim__law_mix v1 (3 : Int) _ hv2) rfl) ev_C (gMod_ok (by decide))) gAdd_ok) (enc_int.f _)) fun hands_3 => ?_
  refine sm_as ?_
  refine sm_need fun v4 hv4 => ?_
  refine sm_n (ev_asgF_G (ev_fcallN (ev_cons (ev_var rfl (k_FI.f _)) (ev_cons (ev_var rfl (enc_int.f _)) (ev_cons ev_C ev_nil))) (ar_F (k_FI.f a0) (ar_F (enc_int.f hands_3) (ar_F (enc_int.f (8 : Int)) ar_nil))) (sim__law_road a0 hands_3 (8 : Int) _ hv4)) (fun _ q => nomatch q) (z_MTP2II v4)) ?_
  show Sm ((_ : FS) [some (e_FI a0), some (D.int hands_3), some (e_LTP2II v4), none, none, none, none, none, none, none]) _ _
  refine sm_as ?_
  refine sm_n (ev_asgF_G (ev_cb (ev_cons (ev_var rfl (k_LTP2II.f _)) ev_nil) (gList_sq (es := List.map e_TP2II v4) rfl (k_TP2II.fs _))) (fun _ q => nomatch q) (z_MTP2II v4)) ?_
  show Sm ((_ : FS) [some (e_FI a0), some (D.int hands_3), some (e_LTP2II v4), some (e_LTP2II v4), none, none, none, none, none, none]) _ _
  refine sm_as ?_
  refine sm_need fun v5 hv5 => ?_
  refine sm_n (ev_asgF (ev_fcallS (ev_cons (ev_var rfl (k_LTP2II.f _)) ev_nil) (ar_F (k_LTP2II.f v4) ar_nil) (sim_shown_road v4 _ hv5) rfl) (fo_str.f _)) ?_
  show Sm ((_ : FS) [some (e_FI a0), some (D.int hands_3), some (e_LTP2II v4), some (e_LTP2II v4), some (D.str v5), none, none, none, none, none]) _ _
  refine sm_as ?_
  refine sm_need fun c11 hc11 => ?_
  refine sm_ifs ((ev_torO (ev_not (ev_B (ev_cb (ev_cons (ev_var rfl (fo_str.f _)) (ev_cons ev_C ev_nil)) (isi_m (m := "str") rfl (by decide +kernel))))) hc11 (fun _ q => (by obtain ⟨v8, hv8, q⟩ := of_bind q; obtain ⟨v9, hv9, q⟩ := of_bind q; obtain ⟨v10, hv10, q⟩ := of_bind q; cases q; exact (ev_or2 (ev_B (ev_bin (ev_var rfl (fo_str.f _)) (ev_s1 ev_C (ev_compP (e := e_TP2II) (e' := D.str) (ev_itF (e := e_TP2II) (ev_var rfl (k_LTP2II.f _)) (k_LTP2II.f _) rfl) hv8 (fun _ _ q => nomatch q) (fun x6 => ⟨[some (e_FI a0), some (D.int hands_3), some (e_LTP2II v4), some (e_LTP2II v4), some (D.str v5), none, none, none, none, some (e_TP2II x6)], rfl, fun _ q => (by cases q; exact rfl), fun _ _ q => (by obtain ⟨v7, hv7, q⟩ := of_bind q; cases q; exact (ev_fcallS (ev_cons (ev_var rfl (k_TP2II.f _)) (ev_cons ev_C ev_nil)) (ar_F (k_TP2II.f x6) (ar_F (enc_int.f (0 : Int)) ar_nil)) (sim__law_text x6 (0 : Int) _ hv7) rfl)), rfl⟩)) (gJoin_o (ys := v8) rfl hv9)) (gNeS_o rfl rfl hv10))) (fun _ => (ev_B (ev_bin (ev_var rfl (k_LTP2II.f _)) (ev_var rfl (k_LTP2II.f _)) (gNe_v (x := v4) (y := v4) k_LTP2II (see_eq (k_LTP2II.see _ v4)) (see_eq (k_LTP2II.see _ v4))))))))))) (fun hb => ?_) (fun hb => ?_)
  · exact sm_retF (ev_ret ev_C na_bl)
  · refine sm_skip ?_
    refine sm_as ?_
    refine sm_need fun v12 hv12 => ?_
    refine sm_n (ev_asg (ev_fcallN (ev_cons (ev_var rfl (enc_int.f _)) (ev_cons (ev_var rfl (fo_str.f _)) ev_nil)) (ar_F (enc_int.f hands_3) (ar_F (fo_str.f v5) ar_nil)) (sim_read_road hands_3 v5 _ hv12)) (fun _ q => nomatch q)) ?_
    show Sm ((_ : FS) [some (e_FI a0), some (D.int hands_3), some (e_LTP2II v4), some (e_LTP2II v4), some (D.str v5), some (e_MTP2II v12), none, none, none, none]) _ _
    refine sm_as ?_
    refine sm_need fun v13 hv13 => ?_
    refine sm_ifs ((ev_not (ev_B (ev_fcallS (ev_cons (ev_al rfl isF_mu) (ev_cons (ev_var rfl (k_LTP2II.f _)) ev_nil)) (ar_al rfl (z_MTP2II v12) ((fz_F k_LTP2II) v12) (ar_F (k_LTP2II.f v4) ar_nil)) (sim__law_same v12 v4 _ hv13) rfl)))) (fun hb => ?_) (fun hb => ?_)
    · exact sm_retF (ev_ret ev_C na_bl)
    · refine sm_skip ?_
      refine sm_as ?_
      refine sm_n (ev_drop (ev_clrO rfl)) ?_
      show Sm ((_ : FS) [some (e_FI a0), some (D.int hands_3), some (e_LTP2II v4), some (e_LTP2II v4), some (D.str v5), some (e_MTP2II ([] : List (List (Int × Int)))), none, none, none, none]) _ _
      refine sm_as ?_
      refine sm_need fun v14 hv14 => ?_
      refine sm_need fun v15 hv15 => ?_
      refine sm_n (ev_asgF (ev_fcallS (ev_cons (ev_fcallS (ev_cons (ev_var rfl (k_FI.f _)) (ev_cons ev_C ev_nil)) (ar_F (k_FI.f a0) (ar_F (enc_int.f (0 : Int)) ar_nil)) (sim__law_at a0 (0 : Int) _ hv14) rfl) (ev_cons ev_C ev_nil)) (ar_F (enc_int.f v14) (ar_F (enc_int.f (5 : Int)) ar_nil)) (sim__law_mix v14 (5 : Int) _ hv15) rfl) (enc_int.f _)) ?_
      show Sm ((_ : FS) [some (e_FI a0), some (D.int hands_3), some (e_LTP2II v4), some (e_LTP2II v4), some (D.str v5), some (e_MTP2II ([] : List (List (Int × Int)))), some (D.int v15), none, none, none]) _ _
      refine sm_as ?_
      refine sm_need fun v19 hv19 => ?_
      refine sm_need fun v20 hv20 => ?_
      refine sm_n (ev_asgF (ev_s1 ev_C (ev_compP (e := e_P2ITP2II) (e' := D.str) (ev_enumL (e := e_TP2II) (ev_var rfl (k_LTP2II.f _)) k_TP2II.f) hv19 (fun _ _ q => nomatch q) (fun x16 => ⟨[some (e_FI a0), some (D.int hands_3), some (e_LTP2II v4), some (e_LTP2II v4), some (D.str v5), some (e_MTP2II ([] : List (List (Int × Int)))), some (D.int v15), none, some (D.int x16.1), some (e_TP2II x16.2)], (set_tu2 (enc_int.f _) (k_TP2II.f _)), fun _ q => (by cases q; exact rfl), fun _ _ q => (by obtain ⟨v17, hv17, q⟩ := of_bind q; obtain ⟨v18, hv18, q⟩ := of_bind q; cases q; exact (ev_fcallS (ev_cons (ev_var rfl (k_TP2II.f _)) (ev_cons (ev_bin (ev_var rfl (enc_int.f _)) (ev_bin (ev_var rfl (enc_int.f _)) ev_C gAdd_ok) (gDiv_o hv17)) ev_nil)) (ar_F (k_TP2II.f x16.2) (ar_F (enc_int.f v17) ar_nil)) (sim__law_text x16.2 v17 _ hv18) rfl)), rfl⟩)) (gJoin_o (ys := v19) rfl hv20)) (fo_str.f _)) ?_
      show Sm ((_ : FS) [some (e_FI a0), some (D.int hands_3), some (e_LTP2II v4), some (e_LTP2II v4), some (D.str v5), some (e_MTP2II ([] : List (List (Int × Int)))), some (D.int v15), some (D.str v20), none, none]) _ _
      refine sm_need fun v21 hv21 => ?_
      refine sm_need fun v22 hv22 => ?_
      refine sm_need fun c25 hc25 => ?_
      exact sm_retF (ev_ret (ev_andO (ev_fcallS (ev_cons (ev_fcallN (ev_cons (ev_var rfl (enc_int.f _)) (ev_cons (ev_var rfl (fo_str.f _)) ev_nil)) (ar_F (enc_int.f hands_3) (ar_F (fo_str.f v20) ar_nil)) (sim_read_road hands_3 v20 _ hv21)) (ev_cons (ev_var rfl (k_LTP2II.f _)) ev_nil)) (ar_M (fun _ q => nomatch q) (z_MTP2II v21) (ar_F (k_LTP2II.f v4) ar_nil)) (sim__law_same v21 v4 _ hv22) rfl) hc25 (fun _ q => (by obtain ⟨v23, hv23, q⟩ := of_bind q; obtain ⟨v24, hv24, q⟩ := of_bind q; cases q; exact (ev_fcallS (ev_cons (ev_fcallN (ev_cons (ev_var rfl (enc_int.f _)) (ev_cons (ev_var rfl (fo_str.f _)) ev_nil)) (ar_F (enc_int.f hands_3) (ar_F (fo_str.f v5) ar_nil)) (sim_read_road hands_3 v5 _ hv23)) (ev_cons (ev_var rfl (k_LTP2II.f _)) ev_nil)) (ar_M (fun _ q => nomatch q) (z_MTP2II v23) (ar_F (k_LTP2II.f v4) ar_nil)) (sim__law_same v23 v4 _ hv24) rfl)))) na_bl)
end Lw
end
section
namespace Lw
open PySem L2 Ab
abbrev Wt := List (Int × Int)
abbrev Rn := List Int × List Wt
/-! ### the script's numbers, of the second kind of laws -/
def atV (ns : List Int) (k : Int) : Int := if k < ns.length then ns.getD k.toNat 0 else 13 * k + 6
theorem at_eq (ns : List Int) (k : Int) (h0 : 0 ≤ k) : P__law_at ns k = some (atV ns k) := by
  unfold P__law_at atV
  by_cases h : k < ns.length
  · rw [if_pos (by simpa using h), if_pos h, atI_ok (d := 0) h0 h]; rfl
  · rw [if_neg (by simpa using h), if_neg h]
theorem mix_ok (c k : Int) (h0 : 0 ≤ k) (h1 : k ≤ 1000) : Ok (P__law_mix c k) fun v => 0 ≤ v := by
  unfold P__law_mix
  refine ok_if (fun _ => ?_) fun _ => ?_
  · refine ok_let ?_
    refine ok_b (rgO_int (by omega) (by omega)) ?_
    refine ok_bind (ok_forS (fun _ _ => True) True.intro fun i x s _ _ => ok_let (ok_some True.intro)) fun s _ => ?_
    exact ok_some (by omega)
  · have e8 : 8 * k * k ≤ 8000000 := by
      have : 8 * k * k = 8 * (k * k) := Int.mul_assoc 8 k k
      have := Int.mul_le_mul h1 h1 h0 (by omega)
      omega
    have e0 : 0 ≤ 8 * k * k := Int.mul_nonneg (by omega) h0
    refine ok_b (mulO_l (by omega)) ?_
    refine ok_b (mulO_r (by omega)) (ok_let ?_)
    refine ok_b (mulO_l (by omega)) (ok_let ?_)
    refine ok_b (mulO_l (by omega)) ?_
    exact ok_some (by omega)
def mixV (c k : Int) : Int := (P__law_mix c k).getD 0
theorem mix_eq (c k : Int) (h0 : 0 ≤ k) (h1 : k ≤ 1000) : P__law_mix c k = some (mixV c k) := by
  obtain ⟨v, e, _⟩ := mix_ok c k h0 h1
  unfold mixV; rw [e]; rfl
theorem mix_nn (c k : Int) (h0 : 0 ≤ k) (h1 : k ≤ 1000) : 0 ≤ mixV c k := by
  obtain ⟨v, e, h⟩ := mix_ok c k h0 h1
  unfold mixV; rw [e]; exact h
/-! ### letters lost and found again -/
theorem bag_ok {α : Type} (ls : List α) (hl : 0 < ls.length) {s : List (List Int)} (hs : ∀ b ∈ s, b.length = ls.length) {i m : Int} (hi : 0 ≤ i ∧ i < (s.length : Int)) : Ok (bagO s i m 8 ls) fun v => v.length = s.length ∧ ∀ b ∈ v, b.length = ls.length := by
  have h1 := Int.emod_nonneg (m / 8) (show (ls.length : Int) ≠ 0 by omega)
  have h3 := Int.emod_lt_of_pos (m / 8) (show (0 : Int) < (ls.length : Int) by omega)
  unfold bagO ixN
  rw [if_pos hi.1, if_pos (by omega)]
  refine ok_b (v := i.toNat) rfl ?_
  have hb : s[i.toNat]? = some (s[i.toNat]'(by omega)) := List.getElem?_eq_getElem (by omega)
  generalize s[i.toNat]'(by omega) = b at hb
  have hbl := hs b (mem_getElem hb)
  refine ok_b hb ?_
  rw [if_pos ⟨rfl, hl⟩, if_pos h1, if_pos (by omega)]
  refine ok_b (v := (m / 8 % (ls.length : Int)).toNat) rfl ?_
  refine ok_b (List.getElem?_eq_getElem (by omega)) (ok_some ⟨by simp, fun b' hb' => ?_⟩)
  rcases List.mem_or_eq_of_mem_set hb' with q | q
  · exact hs _ q
  · rw [q, List.length_set, hbl]
theorem weathers_ok (ls : Wt) (hl : ls.length ≤ 16) {s : List (List Int)} (a2 : ∀ b ∈ s, b.length = ls.length) (hs : s.length ≤ 8) :
    Ok (forS (fun (x17 : List Int) (s30 : (List (List (Int × Int)))) => ((rgO (ls.length : Int)).bind fun r31 => (compP r31 (fun (x32 : Int) => (atI x17 x32).bind fun v33 => some (decide (v33 = (1 : Int)))) (fun (x32 : Int) => (atI ls x32).bind fun v34 => some v34)).bind fun v35 => if (!isIn v35 s30) = true then ((appO s30 v35).bind fun v36 => some v36) else (some s30))) s ([] : List (List (Int × Int)))) fun r => (r.length ≤ s.length ∧ (s.length ≠ 0 → 1 ≤ r.length)) ∧ r.Nodup ∧ ∀ w ∈ r, w.Sublist ls := by
  have hz := sizeLine_eq
  refine ok_forS (fun i (r : List (List (Int × Int))) => (r.length ≤ i ∧ (i ≠ 0 → 1 ≤ r.length)) ∧ r.Nodup ∧ ∀ w ∈ r, w.Sublist ls) (by simp) fun i b r hb ⟨⟨b1, b2⟩, b3, b4⟩ => ?_
  have hbl := a2 b (mem_getElem hb)
  have hi := (List.getElem?_eq_some_iff.mp hb).1
  refine ok_b (rgO_ok (by omega)) (ok_b (compP_ok (fun x => decide (b.getD x.toNat 0 = 1)) (fun x => ls.getD x.toNat default) (by rw [rg_len]; omega) fun x hx => ?_) ?_)
  · have hx := mem_rg.mp hx
    exact ⟨ok_is (ok_b (atI_ok (d := 0) hx.1 (by omega)) (ok_some rfl)), fun _ => ok_is (ok_b (atI_ok (d := default) hx.1 (by omega)) (ok_some rfl))⟩
  · have sub : (((rg ls.length).filter fun x => decide (b.getD x.toNat 0 = 1)).map fun x => ls.getD x.toNat default).Sublist ls := by
      have e : (rg ls.length).map (fun x : Int => ls.getD x.toNat default) = ls := by
        refine List.ext_getElem? fun i => ?_
        rw [List.getElem?_map]
        by_cases q : i < ls.length
        · rw [rg_at q]
          show some (ls.getD i default) = _
          rw [List.getD_eq_getElem?_getD, List.getElem?_eq_getElem q]; rfl
        · rw [List.getElem?_eq_none (by rw [rg_len]; omega), List.getElem?_eq_none (by omega)]; rfl
      have := (List.filter_sublist (l := rg ls.length) (p := fun x => decide (b.getD x.toNat 0 = 1))).map fun x : Int => ls.getD x.toNat default
      rwa [e] at this
    generalize (((rg ls.length).filter fun x => decide (b.getD x.toNat 0 = 1)).map fun x => ls.getD x.toNat default) = w at sub
    refine ok_if (fun hb => ?_) fun hb => ok_some ⟨⟨by omega, fun _ => ?_⟩, b3, b4⟩
    · have nm : w ∉ r := isIn_f.mp (by simpa using hb)
      refine ok_b (appO_ok (by omega)) (ok_some ⟨⟨by rw [List.length_append, List.length_singleton]; omega, fun _ => by rw [List.length_append, List.length_singleton]; omega⟩, ?_, fun x hx => ?_⟩)
      · rw [List.nodup_append]
        exact ⟨b3, by simp, fun a ha b hb => by rw [List.mem_singleton.mp hb]; exact fun e => nm (e ▸ ha)⟩
      · rcases List.mem_append.mp hx with q | q
        · exact b4 x q
        · rw [List.mem_singleton.mp q]; exact sub
    · have : w ∈ r := isIn_iff.mp (by simpa using hb)
      exact List.length_pos_of_mem this
/-! ### a road of letters, where none is sure -/
def lettersL (h : Nat) : Wt := (rg h).flatMap fun a => ((rg h).filter fun b => !decide (b = a)).map fun b => (a, b)
theorem letters_eq (h : Nat) (hh : h ≤ 4) : P__law_letters h = some (lettersL h) := by
  have hz := sizeLine_eq
  refine ok_is ?_
  unfold P__law_letters
  refine ok_b (rgO_ok (by omega)) ?_
  refine ok_b (forS_gather (fun a => ((rg h).filter fun b => !decide (b = a)).map fun b => (a, b)) h (rg h) [] (fun a _ => ?_) (by rw [rg_len]; have := Nat.mul_le_mul hh hh; simp; omega) fun a _ s hs => ?_) (ok_some (by simp [lettersL]))
  · rw [List.length_map]
    exact Nat.le_trans (List.length_filter_le _ _) (by rw [rg_len]; exact Nat.le_refl _)
  · exact ok_is (ok_b (rgO_ok (by omega)) (ok_b (compO_ok (by rw [rg_len]; omega)) (ok_b (catO_ok hs) (ok_some rfl))))
theorem letters_len (h : Nat) (h2 : 2 ≤ h ∧ h ≤ 4) : 0 < (lettersL h).length ∧ (lettersL h).length ≤ 16 := by
  rcases (by omega : h = 2 ∨ h = 3 ∨ h = 4) with rfl | rfl | rfl <;> decide
theorem road_ok (ns : List Int) (h : Nat) (h2 : 2 ≤ h ∧ h ≤ 4) (most : Nat) (hm : 1 ≤ most ∧ most ≤ 8) : Ok (P__law_road ns h most) fun r => (1 ≤ r.length ∧ r.length ≤ most) ∧ r.Nodup ∧ ∀ w ∈ r, w.Sublist (lettersL h) := by
  have hz := sizeLine_eq
  have hl := letters_len h h2
  unfold P__law_road
  refine ok_b (letters_eq h h2.2) ?_
  generalize lettersL h = ls at hl
  refine ok_b (at_eq _ _ (by decide)) (ok_b (mix_eq _ _ (by decide) (by decide)) (ok_b (modO_ok (by omega)) ?_))
  have h1 := Int.emod_nonneg (mixV (atV ns 0) 1) (show (most : Int) ≠ 0 by omega)
  have h3 := Int.emod_lt_of_pos (mixV (atV ns 0) 1) (show (0 : Int) < (most : Int) by omega)
  obtain ⟨n, en, hn⟩ : ∃ n : Nat, (1 : Int) + mixV (atV ns 0) 1 % (most : Int) = (n : Int) ∧ (1 ≤ n ∧ n ≤ most) := ⟨((1 : Int) + mixV (atV ns 0) 1 % (most : Int)).toNat, by omega, by omega⟩
  rw [en]
  refine ok_b (rgO_ok (by omega)) (ok_b (compP_map (fun _ => List.replicate ls.length (0 : Int)) (by rw [rg_len]; omega) fun x _ => ok_is (ok_b (repO_one (by omega)) (ok_some rfl))) ?_)
  refine ok_bind (ok_forS (fun _ s => s.length = n ∧ ∀ b ∈ s, b.length = ls.length) ⟨by rw [List.length_map, rg_len], fun b hb => by
    obtain ⟨_, _, rfl⟩ := List.mem_map.mp hb
    simp⟩ fun i x s hx ⟨a1, a2⟩ => ?_) fun s ⟨a1, a2⟩ => ?_
  · refine ok_b (mix_eq _ _ (by omega) (by omega)) (ok_b (modO_ok (by omega)) ?_)
    have h1 := Int.emod_nonneg (mixV x 2) (show (s.length : Int) ≠ 0 by omega)
    have h3 := Int.emod_lt_of_pos (mixV x 2) (show (0 : Int) < (s.length : Int) by omega)
    exact ok_bind (bag_ok ls hl.1 a2 ⟨h1, by omega⟩) fun v ⟨b1, b2⟩ => ok_some ⟨by rw [b1, a1], b2⟩
  · exact ok_bind (weathers_ok ls hl.2 a2 (by omega)) fun r ⟨⟨b1, b2⟩, b3, b4⟩ => ok_some ⟨⟨b2 (by omega), by omega⟩, b3, b4⟩
theorem cutG_take {α : Type} (xs : List α) (n : Nat) (h : n ≤ xs.length) : cutG xs none (some (n : Int)) = xs.take n := by
  have e1 : HT.sIx xs.length 0 none = 0 := rfl
  have e2 : HT.sIx xs.length xs.length (some (n : Int)) = n := by unfold HT.sIx; simp; rw [if_neg (by omega)]; omega
  unfold cutG
  rw [e1, e2]; simp
theorem cutG_drop {α : Type} (xs : List α) (n : Nat) (h : n ≤ xs.length) : cutG xs (some (n : Int)) none = xs.drop n := by
  have e1 : HT.sIx xs.length xs.length none = xs.length := rfl
  have e2 : HT.sIx xs.length 0 (some (n : Int)) = n := by unfold HT.sIx; simp; rw [if_neg (by omega)]; omega
  unfold cutG
  rw [e1, e2, List.take_of_length_le (by rw [List.length_drop]; exact Nat.le_refl _)]
/-! ### what is a road -/
def badL (h : Int) (x : Int × Int) : Bool := (decide (x.1 < (0 : Int))) || ((decide (h ≤ x.1)) || ((decide (x.2 < (0 : Int))) || ((decide (h ≤ x.2)) || (decide (x.1 = x.2)))))
def wgo (h : Int) : List (Int × Int) → Option (Int × Int) → Bool
  | [], _ => true
  | x :: xs, last => if badL h x = true then false else if (last.map fun l => lePair x.1 x.2 l.1 l.2) = some true then false else wgo h xs (some x)
def ltL (p q : Int × Int) : Bool := !lePair q.1 q.2 p.1 p.2
theorem ltL_iff {p q : Int × Int} : ltL p q = true ↔ p.1 < q.1 ∨ (p.1 = q.1 ∧ p.2 < q.2) := by
  unfold ltL lePair
  by_cases e : q.1 = p.1
  · by_cases f : q.2 = p.2
    · rw [if_pos e, if_pos f]; simp; omega
    · rw [if_pos e, if_neg f]; simp; omega
  · rw [if_neg e]; simp; omega
theorem wgo_of {h : Int} : ∀ {w : List (Int × Int)} {last : Option (Int × Int)}, (∀ x ∈ w, badL h x = false) → w.Pairwise (fun p q => ltL p q = true) → (∀ l, last = some l → ∀ x ∈ w, ltL l x = true) → wgo h w last = true
  | [], _, _, _, _ => rfl
  | x :: xs, last, hb, hp, hl => by
    rw [List.pairwise_cons] at hp
    unfold wgo
    rw [if_neg (by rw [hb x List.mem_cons_self]; exact Bool.false_ne_true)]
    have h2 : (last.map fun l => lePair x.1 x.2 l.1 l.2) ≠ some true := by
      cases last with
      | none => exact fun z => nomatch z
      | some l =>
        have := hl l rfl x List.mem_cons_self
        unfold ltL at this
        intro z
        have z : lePair x.1 x.2 l.1 l.2 = true := Option.some.inj z
        rw [z] at this; cases this
    rw [if_neg h2]
    exact wgo_of (fun y hy => hb y (List.mem_cons_of_mem _ hy)) hp.2 fun l e y hy => by cases e; exact hp.1 y hy
theorem wgo_ok {h : Int} : ∀ {w : List (Int × Int)} {last : Option (Int × Int)}, wgo h w last = true → ∀ x ∈ w, badL h x = false
  | [], _, _, x, m => by cases m
  | y :: ys, last, e, x, m => by
    unfold wgo at e
    split at e
    · cases e
    · rename_i nb
      split at e
      · cases e
      · rcases List.mem_cons.mp m with rfl | m
        · simpa using nb
        · exact wgo_ok e x m
theorem wgo_adj {h : Int} : ∀ {w : List (Int × Int)} {last : Option (Int × Int)}, wgo h w last = true → ∀ l1 a b l2, w = l1 ++ a :: b :: l2 → ltL a b = true
  | [], _, _, l1, a, b, l2, e => by cases l1 <;> cases e
  | y :: ys, last, e, l1, a, b, l2, ew => by
    unfold wgo at e
    split at e
    · cases e
    · split at e
      · cases e
      · cases l1 with
        | nil =>
          rw [List.nil_append] at ew
          injection ew with e1 e2
          subst e1
          subst e2
          unfold wgo at e
          split at e
          · cases e
          · split at e
            · cases e
            · rename_i q
              unfold ltL
              have q : ¬ some (lePair b.1 b.2 y.1 y.2) = some true := q
              cases z : lePair b.1 b.2 y.1 y.2 with
              | false => rfl
              | true => exact absurd (by rw [z]) q
        | cons z l1 =>
          injection ew with e1 e2
          exact wgo_adj e l1 a b l2 e2
theorem look_step {h : Int} {x : Int × Int} {last : Option (Int × Int)} : ((if (last.isSome) = true then (last).bind fun v5 => some (lePair x.1 x.2 v5.1 v5.2) else some false) : Option Bool) = some (decide ((last.map fun l => lePair x.1 x.2 l.1 l.2) = some true)) := by
  cases last with
  | none => simp
  | some l => cases e : lePair x.1 x.2 l.1 l.2 <;> simp [e]
theorem dPut_len {κ ν : Type} [DecidableEq κ] : ∀ (d : List (κ × ν)) (k : κ) (v : ν), (dPut d k v).length ≤ d.length + 1
  | [], _, _ => by simp [dPut]
  | p :: d, k, v => by
    unfold dPut
    split
    · simp
    · have := dPut_len d k v
      simp; omega
theorem weather_P {h : Int} {w : List (Int × Int)} (hg : wgo h w none = true) : P_check_weather h w = some () := by
  have key : ∀ (w : List (Int × Int)) (last : Option (Int × Int)), wgo h w last = true → ∃ s, forP (R := Unit) (fun (x1 : Int × Int) (s4 : (Option (Int × Int))) => (if ((decide (x1.1 < (0 : Int))) || ((decide (h ≤ x1.1)) || ((decide (x1.2 < (0 : Int))) || ((decide (h ≤ x1.2)) || (decide (x1.1 = x1.2)))))) = true then (none) else ((if (s4.isSome) = true then (s4).bind fun v5 => some (lePair x1.1 x1.2 v5.1 v5.2) else some false).bind fun c6 => if c6 = true then (none) else (some (Stp.go (some x1)))))) w last = some (.inl s) := by
    intro w
    induction w with
    | nil => exact fun last _ => ⟨last, rfl⟩
    | cons x xs ih =>
      intro last e
      unfold wgo at e
      split at e
      · cases e
      · rename_i q
        have q' : ¬ ((decide (x.1 < (0 : Int))) || ((decide (h ≤ x.1)) || ((decide (x.2 < (0 : Int))) || ((decide (h ≤ x.2)) || (decide (x.1 = x.2)))))) = true := q
        split at e
        · cases e
        · rename_i r
          obtain ⟨s, es⟩ := ih (some x) e
          refine ⟨s, ?_⟩
          unfold forP
          rw [if_neg q', look_step (h := h), decide_eq_false r]
          exact es
  obtain ⟨s, es⟩ := key w none hg
  unfold P_check_weather
  rw [es]; rfl
theorem road_P {h : Int} (h2 : 2 ≤ h ∧ h ≤ 4) {road : List (List (Int × Int))} (hl : 1 ≤ road.length ∧ road.length ≤ 8) (hw : ∀ w ∈ road, wgo h w none = true) (hn : road.Nodup) : P_check_road h road = some () := by
  have hs := sizeLine_eq
  have key : ∀ (ws : List (List (Int × Int))) (d : List (List (Int × Int) × Bool)), (∀ w ∈ ws, wgo h w none = true) → ws.Nodup → (∀ w ∈ ws, dHas d w = false) → d.length + ws.length ≤ 100 →
      ∃ s, forP (R := Unit) (fun (x3 : List (Int × Int)) (s8 : (List ((List (Int × Int)) × Bool))) => ((P_check_weather h x3).bind fun v9 => if (dHas s8 x3) = true then (none) else ((dPutO s8 x3 true).bind fun v10 => some (Stp.go v10)))) ws d = some (.inl s) := by
    intro ws
    induction ws with
    | nil => exact fun d _ _ _ _ => ⟨d, rfl⟩
    | cons w ws ih =>
      intro d h1 h2 h3 h4
      rw [List.length_cons] at h4
      rw [List.nodup_cons] at h2
      have pl := dPut_len d w true
      obtain ⟨s, es⟩ := ih (dPut d w true) (fun x hx => h1 x (List.mem_cons_of_mem _ hx)) h2.2 (fun x hx => by
        refine Bool.eq_false_iff.mpr fun q => ?_
        rcases (pt_dput d w x true).mp q with q | q
        · exact h2.1 (q ▸ hx)
        · rw [h3 x (List.mem_cons_of_mem _ hx)] at q; cases q) (by omega)
      refine ⟨s, ?_⟩
      unfold forP
      rw [weather_P (h1 w List.mem_cons_self)]
      simp only [Option.bind_some, h3 w List.mem_cons_self, Bool.false_eq_true, if_false, dPutO_ok (d := d) (k := w) (v := true) (by omega)]
      exact es
  obtain ⟨s, es⟩ := key road [] hw hn (fun _ _ => rfl) (by simp; omega)
  have el : lenS ("abcd" : Str) = some 4 := by decide +kernel
  refine ok_is ?_
  unfold P_check_road
  refine ok_b (v := false) ?_ (ok_if (fun hb => by cases hb) fun _ => ok_if (fun hb => ?_) fun _ => ok_b es (ok_some rfl))
  · rw [if_neg (by simp; omega), el]
    simp; omega
  · simp at hb; omega
/-! ### letters, weathers and roads as texts -/
open TL
def plain (x : Str) : Prop := ∀ c ∈ tl x, c < 256
theorem okS {x : Str} (h : plain x) : okD (.str x) = true := by
  have e : PyData.strOk x = true := by
    unfold PyData.strOk
    rw [← Array.all_toList, List.all_eq_true]
    intro c hc
    have := h c hc
    exact decide_eq_true (by omega)
  show SeqAt.shaped (dat (.str x)) = true
  have d : dat (.str x) = .str x := by rw [dat]
  rw [d]
  unfold SeqAt.shaped
  rw [Bool.and_eq_true]
  exact ⟨e, by simp [PyData.depth]⟩
theorem strEq_eq {x y : Str} (hx : plain x) (hy : plain y) : strEqO x y = some (decide (x = y)) := by
  unfold strEqO
  rw [okS hx, okS hy]; rfl
theorem joinL_mem {S : List Nat} {c : Nat} : ∀ {parts : List (List Nat)}, c ∈ joinL S parts → c ∈ S ∨ ∃ p ∈ parts, c ∈ p
  | [], h => by cases h
  | [p], h => .inr ⟨p, List.mem_singleton.mpr rfl, h⟩
  | p :: q :: r, h => by
    rcases List.mem_append.mp h with h | h
    · exact .inr ⟨p, List.mem_cons_self, h⟩
    · rcases List.mem_append.mp h with h | h
      · exact .inl h
      · rcases joinL_mem h with h | ⟨z, hz, h⟩
        · exact .inl h
        · exact .inr ⟨z, List.mem_cons_of_mem _ hz, h⟩
theorem join_mem {y : Str} {c : Nat} {parts : List Str} (h : c ∈ tl (Txt.join y parts)) : c ∈ tl y ∨ ∃ p ∈ parts, c ∈ tl p := by
  rw [join_eq, tl_join] at h
  rcases joinL_mem h with h | ⟨p, hp, h⟩
  · exact .inl h
  · obtain ⟨z, hz, rfl⟩ := List.mem_map.mp hp
    exact .inr ⟨z, hz, h⟩
theorem sum_len (k : Nat) : ∀ ys : List Str, (∀ y ∈ ys, y.length ≤ k) → (ys.map (·.length)).sum ≤ ys.length * k
  | [], _ => by simp
  | y :: ys, h => by
    have := sum_len k ys fun z hz => h z (List.mem_cons_of_mem _ hz)
    have h1 := h y List.mem_cons_self
    rw [List.map_cons, List.sum_cons, List.length_cons, Nat.succ_mul]
    omega
theorem join_len {y : Str} {parts : List Str} {k : Nat} (h : ∀ p ∈ parts, p.length ≤ k) : (Txt.join y parts).length ≤ parts.length * k + parts.length * y.length := by
  rw [join_eq]
  exact Nat.le_trans (StrLaws.join_length_le y parts) (Nat.add_le_add_right (sum_len k parts h) _)
theorem joinO_ok {y : Str} {parts : List Str} {k : Nat} (h : ∀ p ∈ parts, p.length ≤ k) (hz : parts.length * k + parts.length * y.length ≤ 16777216) : joinO y parts = some (Txt.join y parts) := by
  unfold joinO
  have := sum_len k parts h
  rw [if_pos (by omega)]
def allP : List (Int × Int) := (rg 4).flatMap fun a => (rg 4).map fun b => (a, b)
theorem mem_allP {p : Int × Int} : p ∈ allP ↔ (0 ≤ p.1 ∧ p.1 < 4) ∧ 0 ≤ p.2 ∧ p.2 < 4 := by
  unfold allP
  rw [List.mem_flatMap]
  constructor
  · rintro ⟨a, ha, h⟩
    obtain ⟨b, hb, rfl⟩ := List.mem_map.mp h
    exact ⟨by simpa using mem_rg.mp ha, by simpa using mem_rg.mp hb⟩
  · rintro ⟨h1, h2⟩
    exact ⟨p.1, mem_rg.mpr (by simpa using h1), List.mem_map.mpr ⟨p.2, mem_rg.mpr (by simpa using h2), rfl⟩⟩
def wdO (p : Int × Int) : Option Str := (chO ("abcd" : Str) p.1).bind fun v2 => (addSO v2 (">" : Str)).bind fun v3 => (chO ("abcd" : Str) p.2).bind fun v4 => (addSO v3 v4).bind fun v5 => some v5
def wd (p : Int × Int) : Str := (wdO p).getD Str.empty
theorem wd_facts : allP.all (fun p => (wdO p).isSome && decide (P_read_letter (wd p) = some p) && decide ((wd p).length = 3) && (tl (wd p)).all fun c => decide (c < 256) && decide (c ≠ 32) && decide (c ≠ 44)) = true := by decide +kernel
theorem wd_ok {p : Int × Int} (h : p ∈ allP) : wdO p = some (wd p) ∧ P_read_letter (wd p) = some p ∧ (wd p).length = 3 ∧ ∀ c ∈ tl (wd p), c < 256 ∧ c ≠ 32 ∧ c ≠ 44 := by
  have := List.all_eq_true.mp wd_facts p h
  simp only [Bool.and_eq_true, List.all_eq_true, decide_eq_true_eq] at this
  obtain ⟨⟨⟨a, b⟩, c⟩, d⟩ := this
  refine ⟨?_, b, c, fun x hx => ⟨(d x hx).1.1, (d x hx).1.2, (d x hx).2⟩⟩
  obtain ⟨v, hv⟩ := Option.isSome_iff_exists.mp a
  unfold wd
  rw [hv]; rfl
def wtext (w : Wt) : Str := if w = [] then ("-" : Str) else Txt.join (" " : Str) (w.map wd)
/-- a weather's letters lie among the sixteen pairs -/
def Few (w : Wt) : Prop := w.length ≤ 16 ∧ ∀ p ∈ w, p ∈ allP
theorem Few.perm {w w' : Wt} (h : Few w) (p : w'.Perm w) : Few w' := ⟨by rw [p.length_eq]; exact h.1, fun x hx => h.2 x (p.mem_iff.mp hx)⟩
theorem tl_dash : tl ("-" : Str) = [45] := by decide +kernel
theorem tl_blank : tl (" " : Str) = [32] := by decide +kernel
theorem tl_comma : tl (", " : Str) = [44, 32] := by decide +kernel
theorem wtext_mem {w : Wt} (h : Few w) {c : Nat} (hc : c ∈ tl (wtext w)) : c < 256 ∧ c ≠ 44 := by
  unfold wtext at hc
  split at hc
  · rw [tl_dash] at hc
    rw [List.mem_singleton.mp hc]; decide
  · rcases join_mem hc with hc | ⟨p, hp, hc⟩
    · rw [tl_blank] at hc
      rw [List.mem_singleton.mp hc]; decide
    · obtain ⟨x, hx, rfl⟩ := List.mem_map.mp hp
      have := (wd_ok (h.2 x hx)).2.2.2 c hc
      exact ⟨this.1, this.2.2⟩
theorem wtext_len {w : Wt} (h : Few w) : (wtext w).length ≤ 64 := by
  unfold wtext
  split
  · rw [len_tl, tl_dash]; decide
  · have := join_len (y := (" " : Str)) (parts := w.map wd) (k := 3) fun p hp => by
      obtain ⟨x, hx, rfl⟩ := List.mem_map.mp hp
      exact Nat.le_of_eq (wd_ok (h.2 x hx)).2.2.1
    have e : (" " : Str).length = 1 := by rw [len_tl, tl_blank]; rfl
    rw [List.length_map, e] at this
    have := h.1
    omega
theorem words_join {w : Wt} (h : Few w) : joinO (" " : Str) (w.map wd) = some (Txt.join (" " : Str) (w.map wd)) := by
  refine joinO_ok (k := 3) (fun p hp => ?_) ?_
  · obtain ⟨x, hx, rfl⟩ := List.mem_map.mp hp
    exact Nat.le_of_eq (wd_ok (h.2 x hx)).2.2.1
  · have e : (" " : Str).length = 1 := by rw [len_tl, tl_blank]; rfl
    rw [List.length_map, e]
    have := h.1
    omega
theorem words_comp {w : Wt} (h : Few w) : compP w (fun (x1 : Int × Int) => some true) (fun (x1 : Int × Int) => (chO ("abcd" : Str) x1.1).bind fun v2 => (addSO v2 (">" : Str)).bind fun v3 => (chO ("abcd" : Str) x1.2).bind fun v4 => (addSO v3 v4).bind fun v5 => some v5) = some (w.map wd) := by
  have hz := sizeLine_eq
  have := h.1
  exact compP_map wd (by omega) fun p hp => (wd_ok (h.2 p hp)).1
theorem shown_weather_eq {w : Wt} (h : Few w) : P_shown_weather w = some (wtext w) := by
  refine ok_is ?_
  unfold P_shown_weather wtext
  refine ok_if (fun hb => ?_) fun hb => ?_
  · have hb := of_decide_eq_true hb
    have e : w = [] := List.length_eq_zero_iff.mp (by omega)
    rw [if_pos e]; exact ok_some rfl
  · have hb := of_decide_eq_false hb
    have e : w ≠ [] := fun e => hb (by rw [e]; rfl)
    rw [if_neg e]
    exact ok_b (words_comp h) (ok_b (words_join h) (ok_some rfl))
theorem sort_of {w w' : Wt} (p : w'.Perm w) (hs : w.Pairwise fun a b => leP a b = true) : sortP w' = w := (sortP_uniq hs p.symm).symm
theorem wtext_ne {w : Wt} (h : Few w) (hn : w ≠ []) : wtext w ≠ ("-" : Str) := by
  intro e
  cases w with
  | nil => exact hn rfl
  | cons p w =>
    have h1 := (wd_ok (h.2 p List.mem_cons_self)).2.2.1
    have e2 := congrArg tl e
    rw [tl_dash] at e2
    unfold wtext at e2
    rw [if_neg hn, join_eq, tl_join] at e2
    rw [len_tl] at h1
    cases w with
    | nil =>
      have e2 : tl (wd p) = [45] := e2
      rw [e2] at h1; cases h1
    | cons q w =>
      have e2 : tl (wd p) ++ (tl (" " : Str) ++ joinL (tl (" " : Str)) (((q :: w).map wd).map tl)) = [45] := e2
      have := congrArg List.length e2
      rw [List.length_append, h1] at this
      simp at this
      omega
theorem read_weather_eq {w : Wt} (h : Few w) : P_read_weather (wtext w) = some (sortP w) := by
  have hz := sizeLine_eq
  refine ok_is ?_
  unfold P_read_weather
  have pd : plain ("-" : Str) := fun c hc => by rw [tl_dash] at hc; rw [List.mem_singleton.mp hc]; decide
  refine ok_b (strEq_eq (fun c hc => (wtext_mem h hc).1) pd) (ok_if (fun hb => ?_) fun hb => ?_)
  · have hb := of_decide_eq_true hb
    have e : w = [] := by
      by_cases q : w = []
      · exact q
      · exact absurd hb (wtext_ne h q)
    subst e
    exact ok_some (by unfold sortP; simp)
  · have hb := of_decide_eq_false hb
    have e : w ≠ [] := fun e => hb (by subst e; rfl)
    have hs : splitO (wtext w) (" " : Str) = some (w.map wd) := by
      have l1 := wtext_len h
      have e1 : ((" " : Str).length == 0) = false := by rw [len_tl, tl_blank]; rfl
      unfold splitO
      rw [if_pos ⟨e1, by omega⟩]
      unfold wtext
      rw [if_neg e]
      congr 1
      refine split_join tl_blank (by decide +kernel) (fun q => e (List.map_eq_nil_iff.mp q)) fun p hp => ?_
      obtain ⟨x, hx, rfl⟩ := List.mem_map.mp hp
      exact fun hm => ((wd_ok (h.2 x hx)).2.2.2 32 hm).2.1 rfl
    refine ok_b hs (ok_b (v := w) ?_ (ok_some rfl))
    have hl := h.1
    refine (compP_map (fun x => ((P_read_letter x).getD (0, 0))) (by rw [List.length_map]; omega) fun x hx => ?_).trans ?_
    · obtain ⟨p, hp, rfl⟩ := List.mem_map.mp hx
      rw [(wd_ok (h.2 p hp)).2.1]; rfl
    · congr 1
      rw [List.map_map]
      have : ∀ p ∈ w, ((fun x => (P_read_letter x).getD (0, 0)) ∘ wd) p = p := fun p hp => by
        show (P_read_letter (wd p)).getD (0, 0) = p
        rw [(wd_ok (h.2 p hp)).2.1]; rfl
      rw [List.map_congr_left this, List.map_id']
def rtext (ws : List Wt) : Str := Txt.join (", " : Str) (ws.map wtext)
theorem comma_len : (", " : Str).length = 2 := by rw [len_tl, tl_comma]; rfl
theorem road_join {ws : List Wt} (hl : ws.length ≤ 8) (h : ∀ w ∈ ws, Few w) : joinO (", " : Str) (ws.map wtext) = some (rtext ws) := by
  refine joinO_ok (k := 64) (fun p hp => ?_) ?_
  · obtain ⟨x, hx, rfl⟩ := List.mem_map.mp hp
    exact wtext_len (h x hx)
  · rw [List.length_map, comma_len]; omega
theorem rtext_plain {ws : List Wt} (h : ∀ w ∈ ws, Few w) : plain (rtext ws) := fun c hc => by
  rcases join_mem hc with hc | ⟨p, hp, hc⟩
  · rw [tl_comma] at hc
    rcases List.mem_cons.mp hc with rfl | hc
    · decide
    · rw [List.mem_singleton.mp hc]; decide
  · obtain ⟨x, hx, rfl⟩ := List.mem_map.mp hp
    exact (wtext_mem (h x hx) hc).1
theorem shown_road_eq {ws : List Wt} (hl : ws.length ≤ 8) (h : ∀ w ∈ ws, Few w) : P_shown_road ws = some (rtext ws) := by
  have hz := sizeLine_eq
  refine ok_is ?_
  unfold P_shown_road
  exact ok_b (compP_map wtext (by omega) fun w hw => by rw [shown_weather_eq (h w hw)]; rfl) (ok_b (road_join hl h) (ok_some rfl))
theorem read_road_eq {h : Int} {ws road : List Wt} (hl : 1 ≤ ws.length ∧ ws.length ≤ 8) (hf : ∀ w ∈ ws, Few w) (e : ws.map sortP = road) (hc : P_check_road h road = some ()) : P_read_road h (rtext ws) = some road := by
  have hz := sizeLine_eq
  have hs : splitO (rtext ws) (", " : Str) = some (ws.map wtext) := by
    have l1 := join_len (y := (", " : Str)) (parts := ws.map wtext) (k := 64) fun p hp => by
      obtain ⟨x, hx, rfl⟩ := List.mem_map.mp hp
      exact wtext_len (hf x hx)
    rw [List.length_map, comma_len] at l1
    unfold splitO
    rw [if_pos ⟨by rw [comma_len]; rfl, by unfold rtext; omega⟩]
    congr 1
    refine split_join tl_comma (by decide +kernel) (fun q => by
      have := congrArg List.length q
      rw [List.length_map] at this
      simp at this
      rw [this] at hl
      simp at hl) fun p hp => ?_
    obtain ⟨x, hx, rfl⟩ := List.mem_map.mp hp
    exact fun hm => (wtext_mem (hf x hx) hm).2 rfl
  refine ok_is ?_
  unfold P_read_road
  refine ok_b hs (ok_b (v := road) ?_ (ok_b hc (ok_some rfl)))
  refine (compP_map (fun x => ((P_read_weather x).getD [])) (by rw [List.length_map]; omega) fun x hx => ?_).trans ?_
  · obtain ⟨p, hp, rfl⟩ := List.mem_map.mp hx
    rw [read_weather_eq (hf p hp)]; rfl
  · congr 1
    rw [List.map_map, ← e]
    exact List.map_congr_left fun p hp => by
      show (P_read_weather (wtext p)).getD [] = _
      rw [read_weather_eq (hf p hp)]; rfl
theorem letters_good (h : Nat) (h2 : 2 ≤ h ∧ h ≤ 4) : (∀ x ∈ lettersL h, badL h x = false) ∧ (lettersL h).Pairwise (fun p q => ltL p q = true) ∧ (lettersL h).Pairwise (fun p q => leP p q = true) ∧ ∀ x ∈ lettersL h, x ∈ allP := by
  rcases (by omega : h = 2 ∨ h = 3 ∨ h = 4) with rfl | rfl | rfl <;> exact ⟨by decide, by decide, by decide, by decide⟩
theorem sub_good {h : Nat} (h2 : 2 ≤ h ∧ h ≤ 4) {w : Wt} (hw : w.Sublist (lettersL h)) : wgo h w none = true := by
  obtain ⟨a, b, _, _⟩ := letters_good h h2
  exact wgo_of (fun x hx => a x (hw.subset hx)) (b.sublist hw) fun _ e => by cases e
theorem sub_few {h : Nat} (h2 : 2 ≤ h ∧ h ≤ 4) {w : Wt} (hw : w.Sublist (lettersL h)) : Few w := ⟨Nat.le_trans hw.length_le (letters_len h h2).2, fun p hp => (letters_good h h2).2.2.2 p (hw.subset hp)⟩
theorem sub_sort {h : Nat} (h2 : 2 ≤ h ∧ h ≤ 4) {w w' : Wt} (hw : w.Sublist (lettersL h)) (p : w'.Perm w) : sortP w' = w := sort_of p ((letters_good h h2).2.2.1.sublist hw)
theorem law_text_ok {w : Wt} (h : Few w) (n : Int) : Ok (P__law_text w n) fun t => ∃ w', w'.Perm w ∧ t = wtext w' := by
  have hz := sizeLine_eq
  have hl := h.1
  unfold P__law_text
  refine ok_b (words_comp h) (ok_if (fun hb => ?_) fun hb => ?_)
  · have hb := of_decide_eq_true hb
    rw [List.length_map] at hb
    have e : w = [] := List.length_eq_zero_iff.mp (by omega)
    subst e
    exact ok_some ⟨[], .refl _, rfl⟩
  · have hb := of_decide_eq_false hb
    rw [List.length_map] at hb ⊢
    refine ok_b (modO_ok (by omega)) ?_
    have i0 := Int.emod_nonneg n (show (w.length : Int) ≠ 0 by omega)
    have i1 := Int.emod_lt_of_pos n (show (0 : Int) < (w.length : Int) by omega)
    obtain ⟨i, ei, hi⟩ : ∃ i : Nat, n % (w.length : Int) = (i : Int) ∧ i < w.length := ⟨(n % (w.length : Int)).toNat, by omega, by omega⟩
    rw [ei, cutG_take _ i (by rw [List.length_map]; omega), cutG_drop _ i (by rw [List.length_map]; omega)]
    refine ok_b (catO_ok (by simp; omega)) ?_
    have pm : (w.drop i ++ w.take i).Perm w := by
      refine List.perm_append_comm.trans ?_
      rw [List.take_append_drop]
    rw [← List.map_drop, ← List.map_take, ← List.map_append]
    refine ok_bind (P := fun s => ∃ w', w'.Perm w ∧ s = w'.map wd) (ok_if (fun _ => ok_some ⟨(w.drop i ++ w.take i).reverse, (List.reverse_perm _).trans pm, by rw [List.map_reverse]⟩) fun _ => ok_some ⟨_, pm, rfl⟩) ?_
    rintro _ ⟨w', p, rfl⟩
    have f := h.perm p
    refine ok_b (words_join f) (ok_some ⟨w', p, ?_⟩)
    unfold wtext
    rw [if_neg (fun e => by
      have := p.length_eq
      rw [e] at this
      simp at this
      omega)]
theorem law_text_0 {w : Wt} (h : Few w) : P__law_text w 0 = some (wtext w) := by
  have hz := sizeLine_eq
  have hl := h.1
  refine ok_is ?_
  unfold P__law_text wtext
  refine ok_b (words_comp h) (ok_if (fun hb => ?_) fun hb => ?_)
  · have hb := of_decide_eq_true hb
    rw [List.length_map] at hb
    have e : w = [] := List.length_eq_zero_iff.mp (by omega)
    rw [if_pos e]; exact ok_some rfl
  · have hb := of_decide_eq_false hb
    rw [List.length_map] at hb ⊢
    have e : w ≠ [] := fun e => hb (by rw [e]; rfl)
    rw [if_neg e]
    refine ok_b (modO_ok (by omega)) ?_
    rw [Int.zero_emod, show (0 : Int) = ((0 : Nat) : Int) from rfl, cutG_take _ 0 (by omega), cutG_drop _ 0 (by omega)]
    refine ok_b (catO_ok (by simp; omega)) (ok_b (v := w.map wd) ?_ (ok_b (words_join h) (ok_some rfl)))
    rw [if_neg (by decide)]
    simp
theorem same_eq (ws : List Wt) : P__law_same ws ws = some true := by
  refine ok_is ?_
  unfold P__law_same
  refine ok_if (fun hb => by simp at hb) fun _ => ok_b (forP_all fun w _ => ?_) (ok_some rfl)
  refine ok_is ?_
  refine ok_if (fun hb => by cases hb) fun _ => ok_b (forP_all fun p _ => ?_) (ok_some rfl)
  rfl
theorem law_eq (ns : List Int) (hn : ns.length ≤ 63) : P_law ns = some true := by
  have hz := sizeLine_eq
  refine ok_is ?_
  unfold P_law
  refine ok_b (at_eq _ _ (by decide)) (ok_b (mix_eq _ _ (by decide) (by decide)) (ok_let ?_))
  generalize mixV (atV ns 0) 3 = N
  obtain ⟨h, eh, h2⟩ : ∃ h : Nat, (2 : Int) + N % 3 = (h : Int) ∧ (2 ≤ h ∧ h ≤ 4) := ⟨((2 : Int) + N % 3).toNat, by omega, by omega⟩
  rw [eh]
  refine ok_bind (road_ok ns h h2 8 (by omega)) fun road ⟨hr, nd, hw⟩ => ?_
  have few : ∀ w ∈ road, Few w := fun w hwm => sub_few h2 (hw w hwm)
  have chk : P_check_road (h : Int) road = some () := road_P (h := (h : Int)) (by omega) hr (fun w hwm => sub_good h2 (hw w hwm)) nd
  have srt : road.map sortP = road := by
    have : ∀ w ∈ road, sortP w = w := fun w hwm => sub_sort h2 (hw w hwm) (.refl _)
    rw [List.map_congr_left this, List.map_id']
  have rd : P_read_road (h : Int) (rtext road) = some road := read_road_eq hr few srt chk
  refine ok_b (shown_road_eq hr.2 few) (ok_b (v := false) ?_ (ok_if (fun hb => by cases hb) fun _ => ?_))
  · rw [if_neg (by decide)]
    refine ok_is (ok_b (compP_map wtext (by omega) fun w hwm => by rw [law_text_0 (few w hwm)]; rfl) (ok_b (road_join hr.2 few) (ok_b (strEq_eq (rtext_plain few) (rtext_plain few)) (ok_some (by simp)))))
  refine ok_b rd (ok_b (same_eq road) (ok_if (fun hb => by cases hb) fun _ => ?_))
  refine ok_b (at_eq _ _ (by decide)) (ok_b (mix_eq _ _ (by decide) (by decide)) ?_)
  generalize mixV (atV ns 0) 5 = M
  have texts : ∃ g : Int × Wt → Wt, ∀ p ∈ enumL road, (g p).Perm p.2 ∧ ((divO M (p.1 + 1)).bind fun v17 => (P__law_text p.2 v17).bind fun v18 => some v18) = some (wtext (g p)) := by
    refine Classical.axiomOfChoice (r := fun (p : Int × Wt) (w' : Wt) => p ∈ enumL road → w'.Perm p.2 ∧ ((divO M (p.1 + 1)).bind fun v17 => (P__law_text p.2 v17).bind fun v18 => some v18) = some (wtext w')) (fun p => ?_) |>.imp fun g hg p hp => hg p hp
    by_cases q : p ∈ enumL road
    · obtain ⟨i, hi⟩ := List.getElem?_of_mem q
      obtain ⟨e1, e2⟩ := enumL_get hi
      have il := (List.getElem?_eq_some_iff.mp e2).1
      obtain ⟨t, et, w', pw, rfl⟩ := law_text_ok (few p.2 (mem_getElem e2)) (M / (p.1 + 1))
      refine ⟨w', fun _ => ⟨pw, ?_⟩⟩
      rw [divO_ok (by omega) (by omega)]
      show (P__law_text p.2 (M / (p.1 + 1))).bind _ = _
      rw [et]; rfl
    · exact ⟨[], fun h => absurd h q⟩
  obtain ⟨g, hg⟩ := texts
  have el := enumL_len road
  have em : ∀ p ∈ enumL road, p.2 ∈ road := fun p hp => by
    obtain ⟨i, hi⟩ := List.getElem?_of_mem hp
    exact mem_getElem (enumL_get hi).2
  refine ok_b (compP_map (fun p => wtext (g p)) (by omega) fun p hp => (hg p hp).2) ?_
  have few2 : ∀ w ∈ (enumL road).map g, Few w := fun w hwm => by
    obtain ⟨p, hp, rfl⟩ := List.mem_map.mp hwm
    exact (few p.2 (em p hp)).perm (hg p hp).1
  have mm : (enumL road).map (fun p => wtext (g p)) = ((enumL road).map g).map wtext := by rw [List.map_map]; rfl
  rw [mm]
  refine ok_b (road_join (by rw [List.length_map, el]; exact hr.2) few2) ?_
  have srt2 : ((enumL road).map g).map sortP = road := by
    rw [List.map_map]
    have : ∀ p ∈ enumL road, (sortP ∘ g) p = p.2 := fun p hp => sub_sort h2 (hw p.2 (em p hp)) (hg p hp).1
    rw [List.map_congr_left this]
    refine List.ext_getElem? fun i => ?_
    rw [List.getElem?_map, enumL_at]
    cases road[i]? <;> rfl
  have rd2 : P_read_road (h : Int) (rtext ((enumL road).map g)) = some road := read_road_eq (by rw [List.length_map, el]; exact hr) few2 srt2 chk
  refine ok_b rd2 (ok_b (same_eq road) (ok_b (v := true) ?_ (ok_some rfl)))
  rw [if_pos rfl]
  exact ok_is (ok_b rd (ok_b (same_eq road) (ok_some rfl)))
theorem law_true (ns : List Int) (hn : ns.length ≤ 63) : F_law [.fro (ns.map D.int)] = .ok (.bl true) := sim_law ns true (law_eq ns hn)
end Lw
end
section
open PySem PySem.W PyProof.Rows
set_option maxHeartbeats 0 in
theorem PySem.Challenge.cw_losspact_k02_shown_and_read_holds : PySem.Challenge.rw_losspact_k02_shown_and_read.Holds := by
  w_on; o_law; k_head; (case hw => w_witness2)
  k_fill
  refine L2.walk_of (l := PySem.Challenge.rw_losspact_k02_shown_and_read) (n := 63) (k := 4) (x := "_law_script") (CX := fun w => L2.CX PySem.Challenge.rw_losspact_k02_shown_and_read.prog w) (sp := fun w => Ab.spAny _ w 1 Lw.F_law) rfl (by decide) rfl ⟨rfl, by decide, by decide⟩ (fun w h Y => PySem.W.kIn_of Y) ?F (fun _ _ a ns hl _ hS => Ab.law_any (Lw.law_true ns hl) hS) (fun _ _ _ _ _ h => Ab.law_cx h)
  case F =>
    intro w mg fa h KX G hmg
    refine' Lw.all_mk KX G hmg ?a0 ?l0 ?c0 ?k0 ?a1 ?l1 ?c1 ?k1 ?a2 ?l2 ?c2 ?k2 ?a3 ?l3 ?c3 ?k3 ?a4 ?l4 ?c4 ?k4 ?a5 ?l5 ?c5 ?k5 ?a6 ?l6 ?c6 ?k6 ?a7 ?l7 ?c7 ?k7 ?a8 ?l8 ?c8 ?k8 ?a9 ?l9 ?c9 ?k9 ?a10 ?l10 ?c10 ?k10 ?a11 ?l11 ?c11 ?k11 ?a12 ?l12 ?c12 ?k12 ?a13 ?l13 ?c13 ?k13 ?xa0 ?xq0 ?xk0 ?xb0 ?xt0 ?xa1 ?xq1 ?xk1 ?xb1 ?xt1 ?v_MOST ?v_NAMES ?z_bool ?z_enumerate ?z_isinstance ?z_len ?z_list ?z_range ?z_sorted ?z_str ?z_tuple
    (case a0 => k_is); (case l0 => k_is); (case c0 => k_is); (case k0 => k_is); (case a1 => k_is); (case l1 => k_is); (case c1 => k_is); (case k1 => k_is); (case a2 => k_is); (case l2 => k_is); (case c2 => k_is); (case k2 => k_is); (case a3 => k_is); (case l3 => k_is); (case c3 => k_is); (case k3 => k_is); (case a4 => k_is); (case l4 => k_is); (case c4 => k_is); (case k4 => k_is); (case a5 => k_is); (case l5 => k_is); (case c5 => k_is); (case k5 => k_is); (case a6 => k_is); (case l6 => k_is); (case c6 => k_is); (case k6 => k_is); (case a7 => k_is); (case l7 => k_is); (case c7 => k_is); (case k7 => k_is); (case a8 => k_is); (case l8 => k_is); (case c8 => k_is); (case k8 => k_is); (case a9 => k_is); (case l9 => k_is); (case c9 => k_is); (case k9 => k_is); (case a10 => k_is); (case l10 => k_is); (case c10 => k_is); (case k10 => k_is); (case a11 => k_is); (case l11 => k_is); (case c11 => k_is); (case k11 => k_is); (case a12 => k_is); (case l12 => k_is); (case c12 => k_is); (case k12 => k_is); (case a13 => k_is); (case l13 => k_is); (case c13 => k_is); (case k13 => k_is); (case xa0 => k_is); (case xq0 => k_exc); (case xk0 => k_is); (case xb0 => k_is); (case xt0 => k_is); (case xa1 => k_is); (case xq1 => k_exc); (case xk1 => k_is); (case xb1 => k_is); (case xt1 => k_is); (case v_MOST => k_is); (case v_NAMES => k_is); (case z_bool => k_is); (case z_enumerate => k_is); (case z_isinstance => k_is); (case z_len => k_is); (case z_list => k_is); (case z_range => k_is); (case z_sorted => k_is); (case z_str => k_is); (case z_tuple => k_is)
end
